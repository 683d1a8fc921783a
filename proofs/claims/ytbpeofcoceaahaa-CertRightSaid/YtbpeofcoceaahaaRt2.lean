/- WHAT IS PROVED: the texts that are signed, as the document makes them: contracts. Conditions: stated with each. -/
import Derived.Test.YtbpeofcoceaahaaRt
namespace Go.Proofs.Ytbpeofcoceaahaa
open Go.RowKit

set_option maxRecDepth 100000 in
set_option maxHeartbeats 400000 in
theorem rName_any (w : World) (a b : Int) (hs : a ≤ 9223372036854775807 ∧ b ≤ 9223372036854775807) :
    Calls Try.prog 83 #[(.agg ⟨([(.int .i64 (a)), (.int .i64 (b))] : List Value)⟩)] w fun e w' => ∃ u, e = .returned u ∧ (rowC 5 1 u (nameB a b).length ((nameB a b).flatMap encB)).ok w' ∧ Upd [] w w' ∧ ∀ q_, (rowC 5 1 u (nameB a b).length ((nameB a b).flatMap encB)).fp q_ → w.heap.size ≤ q_ := by
  have H := Sat.start0 w
  refine calls_fr Try.func83 rfl 11 rfl (Nat.le_of_ble_eq_true rfl) ?_
  refine w_seq ?_
  refine w_lit ?_
  refine wl_do (wants0 rfl) (fun K1 hK1 => ?_)
  refine d_box (vs := ([(.int .i64 (a)), (.int .i64 (b))] : List Value)) rfl H rfl rfl ?_
  intro b2 w3 (H4 : Sat w [restC w (fun _ => False), cellC b2 38 ([(.int .i64 (a)), (.int .i64 (b))] : List Value)] w3)
  refine hK1 _ _ ?_
  clear hK1 K1
  refine wl_pure (wants0 rfl) (d := 2) (v := (.slice none 0 0)) rfl (by kernel_rfl) ?_
  refine w_nil ?_
  refine then_normal ?_
  refine w_seq ?_
  refine h_start H4 [restC w (fun _ => False), cellC b2 38 ([(.int .i64 (a)), (.int .i64 (b))] : List Value)] 9 rfl (by kernel_rfl) (fun Hx => (Hx.pick [0, 1] (by decide))) ?_
  intro w5 H6 S7
  refine h_val 0 rfl (by kernel_rfl) (by kernel_rfl) (by kernel_rfl) (fun _ _ _ h => h) S7 (wants0 rfl) (d := 3) (v := (.pointer (some ⟨b2, 0, none⟩))) rfl (fun _ H' => (by kernel_rfl)) ?_
  refine h_val 1 rfl (by kernel_rfl) (by kernel_rfl) (by kernel_rfl) (fun _ _ _ h => h) S7 (wants0 rfl) (d := 4) (v := (.int .i64 (a))) rfl (fun _ H' => (e_load1 rfl (by kernel_rfl) (H'.cell 1 rfl rfl))) ?_
  refine h_val 3 rfl (by kernel_rfl) (by kernel_rfl) (by kernel_rfl) (fun _ _ _ h => h) S7 (wants0 rfl) (d := 6) (v := (.pointer (some ⟨b2, 1, none⟩))) rfl (fun _ H' => (by kernel_rfl)) ?_
  refine h_val 4 rfl (by kernel_rfl) (by kernel_rfl) (by kernel_rfl) (fun _ _ _ h => h) S7 (wants0 rfl) (d := 7) (v := (.int .i64 (b))) rfl (fun _ H' => (e_load1 rfl (by kernel_rfl) (H'.cell 1 rfl rfl))) ?_
  refine h_do 2 rfl (by kernel_rfl) (wants0 rfl) (fun K8 hK8 => ?_)
  refine d_call (d := 5) rfl (by kernel_rfl) (rInt_any w5 a (by omega)) ?_
  rintro _ w9 ⟨u10, rfl, k11, p12, q13⟩
  have H14 : Sat w [restC w (fun _ => False), cellC b2 38 ([(.int .i64 (a)), (.int .i64 (b))] : List Value), rowC 5 1 u10 ((intB a).length) ((intB a).flatMap encB)] w9 := H6.addU p12 k11 q13
  obtain ⟨a15, c16, rfl⟩ := ownsRow_shape (H14.at 2 rfl)
  refine ⟨_, rfl, ?_⟩
  have S17 := H14.pick [0, 1] (by decide)
  refine hK8 _ _ S17 ?_
  clear hK8 K8
  refine h_do 5 rfl (by kernel_rfl) (wants0 rfl) (fun K18 hK18 => ?_)
  refine d_call (d := 8) rfl (by kernel_rfl) (rInt_any w9 b (by omega)) ?_
  rintro _ w19 ⟨u20, rfl, k21, p22, q23⟩
  have H24 : Sat w [restC w (fun _ => False), cellC b2 38 ([(.int .i64 (a)), (.int .i64 (b))] : List Value), rowC 5 1 (.slice a15 ((intB a).length) c16) ((intB a).length) ((intB a).flatMap encB), rowC 5 1 u20 ((intB b).length) ((intB b).flatMap encB)] w19 := H14.addU p22 k21 q23
  obtain ⟨a25, c26, rfl⟩ := ownsRow_shape (H24.at 3 rfl)
  refine ⟨_, rfl, ?_⟩
  have S27 := H24.pick [0, 1] (by decide)
  refine hK18 _ _ S27 ?_
  clear hK18 K18
  refine h_do 6 rfl (by kernel_rfl) (wants0 rfl) (fun K28 hK28 => ?_)
  refine d_buildSlice (e := 63) (size := 1) (bytes := 24) (z := (.slice none 0 0)) (pvs := [(0, (.slice a15 ((intB a).length) c16)), (1, (.slice a25 ((intB b).length) c26))]) (vs := ([(.slice a15 ((intB a).length) c16), (.slice a25 ((intB b).length) c26)] : List Value)) rfl H24 (by kernel_rfl) (by kernel_rfl) (by kernel_rfl) (by kernel_rfl) (by kernel_rfl) rfl rfl ?_
  intro b29 w30 (H31 : Sat w [restC w (fun _ => False), cellC b2 38 ([(.int .i64 (a)), (.int .i64 (b))] : List Value), rowC 5 1 (.slice a15 ((intB a).length) c16) ((intB a).length) ((intB a).flatMap encB), rowC 5 1 (.slice a25 ((intB b).length) c26) ((intB b).length) ((intB b).flatMap encB), rowC 63 1 (.slice (some ⟨b29, 0, none⟩) 2 2) 2 ([(.slice a15 ((intB a).length) c16), (.slice a25 ((intB b).length) c26)] : List Value)] w30)
  have S32 := H31.pick [0, 1] (by decide)
  refine hK28 _ _ S32 ?_
  clear hK28 K28
  refine h_do 7 rfl (by kernel_rfl) (wants0 rfl) (fun K33 hK33 => ?_)
  have l34 := intB_len a
  have l35 := intB_len b
  refine d_call (d := 10) rfl (by kernel_rfl) (rJoin_any w30 (.slice (some ⟨b29, 0, none⟩) 2 2) [(.slice a15 ((intB a).length) c16), (.slice a25 ((intB b).length) c26)] [(intB a), (intB b)] (ListAt.row (enc := encW) (sz := 1) (xs := [(.slice a15 ((intB a).length) c16), (.slice a25 ((intB b).length) c26)]) encW_len (by decide) (H31.at 4 rfl)) (Parts.cons (ListAt.row (enc := encB) (sz := 1) encB_len (by decide) (H31.at 2 rfl)) (Parts.cons (ListAt.row (enc := encB) (sz := 1) encB_len (by decide) (H31.at 3 rfl)) Parts.nil)) (by simp only [List.flatten_cons, List.flatten_nil, List.length_append, List.length_nil]; omega) (by simp)) ?_
  rintro _ w36 ⟨u37, rfl, k38, p39, q40⟩
  have H41 : Sat w [restC w (fun _ => False), cellC b2 38 ([(.int .i64 (a)), (.int .i64 (b))] : List Value), rowC 5 1 (.slice a15 ((intB a).length) c16) ((intB a).length) ((intB a).flatMap encB), rowC 5 1 (.slice a25 ((intB b).length) c26) ((intB b).length) ((intB b).flatMap encB), rowC 63 1 (.slice (some ⟨b29, 0, none⟩) 2 2) 2 ([(.slice a15 ((intB a).length) c16), (.slice a25 ((intB b).length) c26)] : List Value), rowC 5 1 u37 (([(intB a), (intB b)].flatten).length) (([(intB a), (intB b)].flatten).flatMap encB)] w36 := H31.addU p39 k38 q40
  obtain ⟨a42, c43, rfl⟩ := ownsRow_shape (H41.at 5 rfl)
  refine ⟨_, rfl, ?_⟩
  have S44 := H41.pick [0, 1] (by decide)
  refine hK33 _ _ S44 ?_
  clear hK33 K33
  refine h_val 8 rfl (by kernel_rfl) (by kernel_rfl) (by kernel_rfl) (fun _ _ _ h => h) S44 (wants0 rfl) (d := 2) (v := (.slice a42 (([(intB a), (intB b)].flatten).length) c43)) rfl (fun _ H' => (by kernel_rfl)) ?_
  refine h_fin (by kernel_rfl) ?_
  refine then_normal ?_
  refine w_ret ?_
  refine end1 rfl (res_tmp (v := (.slice a42 (([(intB a), (intB b)].flatten).length) c43)) rfl) ?_
  have hX : ([(intB a), (intB b)].flatten) = nameB a b := by rfl
  exact ⟨_, rfl, (by rw [← hX]; exact H41.at 5 rfl), H41.upd 0 rfl [] (fun _ h => h.elim), (by rw [← hX]; exact H41.fresh 0 rfl (fun _ h => h) 5 rfl rfl)⟩

set_option maxRecDepth 100000 in
set_option maxHeartbeats 400000 in
theorem rBare_any (w : World) (s : StampD) (hs : (s.r ≤ 9223372036854775807 ∧ s.cl ≤ 9223372036854775807 ∧ s.seq ≤ 9223372036854775807 ∧ 0 ≤ s.t ∧ s.t < 18446744073709551616)) :
    Calls Try.prog 73 #[(.agg ⟨(([(.int .i64 (s.r)), (.int .i64 (s.cl)), (.int .i64 (s.seq))] : List Value) ++ hc s.h ++ ([(.int .u64 (s.t)), (.int .i64 (s.sb)), (.int .i64 (s.sm))] : List Value))⟩)] w fun e w' => ∃ u, e = .returned u ∧ (rowC 5 1 u (bareB s).length ((bareB s).flatMap encB)).ok w' ∧ Upd [] w w' ∧ ∀ q_, (rowC 5 1 u (bareB s).length ((bareB s).flatMap encB)).fp q_ → w.heap.size ≤ q_ := by
  have H := Sat.start0 w
  refine calls_fr Try.func73 rfl 16 rfl (Nat.le_of_ble_eq_true rfl) ?_
  refine w_seq ?_
  refine w_lit ?_
  refine wl_do (wants0 rfl) (fun K1 hK1 => ?_)
  refine d_box (vs := (([(.int .i64 (s.r)), (.int .i64 (s.cl)), (.int .i64 (s.seq))] : List Value) ++ hc s.h ++ ([(.int .u64 (s.t)), (.int .i64 (s.sb)), (.int .i64 (s.sm))] : List Value))) rfl H rfl rfl ?_
  intro b2 w3 (H4 : Sat w [restC w (fun _ => False), cellC b2 49 (([(.int .i64 (s.r)), (.int .i64 (s.cl)), (.int .i64 (s.seq))] : List Value) ++ hc s.h ++ ([(.int .u64 (s.t)), (.int .i64 (s.sb)), (.int .i64 (s.sm))] : List Value))] w3)
  refine hK1 _ _ ?_
  clear hK1 K1
  refine wl_pure (wants0 rfl) (d := 2) (v := (.slice none 0 0)) rfl (by kernel_rfl) ?_
  refine w_nil ?_
  refine then_normal ?_
  refine w_seq ?_
  refine h_start H4 [restC w (fun _ => False), cellC b2 49 (([(.int .i64 (s.r)), (.int .i64 (s.cl)), (.int .i64 (s.seq))] : List Value) ++ hc s.h ++ ([(.int .u64 (s.t)), (.int .i64 (s.sb)), (.int .i64 (s.sm))] : List Value))] 14 rfl (by kernel_rfl) (fun Hx => (Hx.pick [0, 1] (by decide))) ?_
  intro w5 H6 S7
  refine h_val 0 rfl (by kernel_rfl) (by kernel_rfl) (by kernel_rfl) (fun _ _ _ h => h) S7 (wants0 rfl) (d := 3) (v := (.pointer (some ⟨b2, 0, none⟩))) rfl (fun _ H' => (by kernel_rfl)) ?_
  refine h_val 1 rfl (by kernel_rfl) (by kernel_rfl) (by kernel_rfl) (fun _ _ _ h => h) S7 (wants0 rfl) (d := 4) (v := (.int .i64 (s.r))) rfl (fun _ H' => (e_load1 rfl (by kernel_rfl) (H'.cell 1 rfl (by kernel_rfl)))) ?_
  refine h_val 3 rfl (by kernel_rfl) (by kernel_rfl) (by kernel_rfl) (fun _ _ _ h => h) S7 (wants0 rfl) (d := 6) (v := (.pointer (some ⟨b2, 1, none⟩))) rfl (fun _ H' => (by kernel_rfl)) ?_
  refine h_val 4 rfl (by kernel_rfl) (by kernel_rfl) (by kernel_rfl) (fun _ _ _ h => h) S7 (wants0 rfl) (d := 7) (v := (.agg ⟨([(.int .i64 (s.cl)), (.int .i64 (s.seq))] : List Value)⟩)) rfl (fun _ H' => (e_loadN (vs := ([(.int .i64 (s.cl)), (.int .i64 (s.seq))] : List Value)) rfl (by kernel_rfl) (by kernel_rfl) (by exact Nat.le_of_ble_eq_true (by kernel_rfl)) (H'.at 1 rfl) (by kernel_rfl))) ?_
  refine h_val 6 rfl (by kernel_rfl) (by kernel_rfl) (by kernel_rfl) (fun _ _ _ h => h) S7 (wants0 rfl) (d := 9) (v := (.pointer (some ⟨b2, 3, none⟩))) rfl (fun _ H' => (by kernel_rfl)) ?_
  refine h_val 7 rfl (by kernel_rfl) (by kernel_rfl) (by kernel_rfl) (fun _ _ _ h => h) S7 (wants0 rfl) (d := 10) (v := (.slice (some ⟨b2, 3, none⟩) 32 32)) rfl (fun _ H' => (by kernel_rfl)) ?_
  refine h_val 8 rfl (by kernel_rfl) (by kernel_rfl) (by kernel_rfl) (fun _ _ _ h => h) S7 (wants0 rfl) (d := 11) (v := (.pointer (some ⟨b2, 35, none⟩))) rfl (fun _ H' => (by kernel_rfl)) ?_
  refine h_val 9 rfl (by kernel_rfl) (by kernel_rfl) (by kernel_rfl) (fun _ _ _ h => h) S7 (wants0 rfl) (d := 12) (v := (.int .u64 (s.t))) rfl (fun _ H' => (e_load1 rfl (by kernel_rfl) (H'.cell 1 rfl (by kernel_rfl)))) ?_
  refine h_do 2 rfl (by kernel_rfl) (wants0 rfl) (fun K8 hK8 => ?_)
  refine d_call (d := 5) rfl (by kernel_rfl) (rInt_any w5 s.r (by omega)) ?_
  rintro _ w9 ⟨u10, rfl, k11, p12, q13⟩
  have H14 : Sat w [restC w (fun _ => False), cellC b2 49 (([(.int .i64 (s.r)), (.int .i64 (s.cl)), (.int .i64 (s.seq))] : List Value) ++ hc s.h ++ ([(.int .u64 (s.t)), (.int .i64 (s.sb)), (.int .i64 (s.sm))] : List Value)), rowC 5 1 u10 ((intB s.r).length) ((intB s.r).flatMap encB)] w9 := H6.addU p12 k11 q13
  obtain ⟨a15, c16, rfl⟩ := ownsRow_shape (H14.at 2 rfl)
  refine ⟨_, rfl, ?_⟩
  have S17 := H14.pick [0, 1] (by decide)
  refine hK8 _ _ S17 ?_
  clear hK8 K8
  refine h_do 5 rfl (by kernel_rfl) (wants0 rfl) (fun K18 hK18 => ?_)
  refine d_call (d := 8) rfl (by kernel_rfl) (rName_any w9 s.cl s.seq (by omega)) ?_
  rintro _ w19 ⟨u20, rfl, k21, p22, q23⟩
  have H24 : Sat w [restC w (fun _ => False), cellC b2 49 (([(.int .i64 (s.r)), (.int .i64 (s.cl)), (.int .i64 (s.seq))] : List Value) ++ hc s.h ++ ([(.int .u64 (s.t)), (.int .i64 (s.sb)), (.int .i64 (s.sm))] : List Value)), rowC 5 1 (.slice a15 ((intB s.r).length) c16) ((intB s.r).length) ((intB s.r).flatMap encB), rowC 5 1 u20 ((nameB s.cl s.seq).length) ((nameB s.cl s.seq).flatMap encB)] w19 := H14.addU p22 k21 q23
  obtain ⟨a25, c26, rfl⟩ := ownsRow_shape (H24.at 3 rfl)
  refine ⟨_, rfl, ?_⟩
  have S27 := H24.pick [0, 1] (by decide)
  refine hK18 _ _ S27 ?_
  clear hK18 K18
  refine h_do 10 rfl (by kernel_rfl) (wants0 rfl) (fun K28 hK28 => ?_)
  refine d_call (d := 13) rfl (by rw [show s.t = ((s.t.toNat : Nat) : Int) by omega]; kernel_rfl) (rNum_any w19 s.t.toNat (by omega)) ?_
  rintro _ w29 ⟨u30, rfl, k31, p32, q33⟩
  have H34 : Sat w [restC w (fun _ => False), cellC b2 49 (([(.int .i64 (s.r)), (.int .i64 (s.cl)), (.int .i64 (s.seq))] : List Value) ++ hc s.h ++ ([(.int .u64 (s.t)), (.int .i64 (s.sb)), (.int .i64 (s.sm))] : List Value)), rowC 5 1 (.slice a15 ((intB s.r).length) c16) ((intB s.r).length) ((intB s.r).flatMap encB), rowC 5 1 (.slice a25 ((nameB s.cl s.seq).length) c26) ((nameB s.cl s.seq).length) ((nameB s.cl s.seq).flatMap encB), rowC 5 1 u30 ((varB s.t.toNat).length) ((varB s.t.toNat).flatMap encB)] w29 := H24.addU p32 k31 q33
  obtain ⟨a35, c36, rfl⟩ := ownsRow_shape (H34.at 4 rfl)
  refine ⟨_, rfl, ?_⟩
  have S37 := H34.pick [0, 1] (by decide)
  refine hK28 _ _ S37 ?_
  clear hK28 K28
  refine h_do 11 rfl (by kernel_rfl) (wants0 rfl) (fun K38 hK38 => ?_)
  refine d_buildSlice (e := 63) (size := 1) (bytes := 24) (z := (.slice none 0 0)) (pvs := [(0, (.slice a15 ((intB s.r).length) c16)), (1, (.slice a25 ((nameB s.cl s.seq).length) c26)), (2, (.slice (some ⟨b2, 3, none⟩) 32 32)), (3, (.slice a35 ((varB s.t.toNat).length) c36))]) (vs := ([(.slice a15 ((intB s.r).length) c16), (.slice a25 ((nameB s.cl s.seq).length) c26), (.slice (some ⟨b2, 3, none⟩) 32 32), (.slice a35 ((varB s.t.toNat).length) c36)] : List Value)) rfl H34 (by kernel_rfl) (by kernel_rfl) (by kernel_rfl) (by kernel_rfl) (by kernel_rfl) rfl rfl ?_
  intro b39 w40 (H41 : Sat w [restC w (fun _ => False), cellC b2 49 (([(.int .i64 (s.r)), (.int .i64 (s.cl)), (.int .i64 (s.seq))] : List Value) ++ hc s.h ++ ([(.int .u64 (s.t)), (.int .i64 (s.sb)), (.int .i64 (s.sm))] : List Value)), rowC 5 1 (.slice a15 ((intB s.r).length) c16) ((intB s.r).length) ((intB s.r).flatMap encB), rowC 5 1 (.slice a25 ((nameB s.cl s.seq).length) c26) ((nameB s.cl s.seq).length) ((nameB s.cl s.seq).flatMap encB), rowC 5 1 (.slice a35 ((varB s.t.toNat).length) c36) ((varB s.t.toNat).length) ((varB s.t.toNat).flatMap encB), rowC 63 1 (.slice (some ⟨b39, 0, none⟩) 4 4) 4 ([(.slice a15 ((intB s.r).length) c16), (.slice a25 ((nameB s.cl s.seq).length) c26), (.slice (some ⟨b2, 3, none⟩) 32 32), (.slice a35 ((varB s.t.toNat).length) c36)] : List Value)] w40)
  have S42 := H41.pick [0, 1] (by decide)
  refine hK38 _ _ S42 ?_
  clear hK38 K38
  refine h_do 12 rfl (by kernel_rfl) (wants0 rfl) (fun K43 hK43 => ?_)
  have l44 := intB_len s.r
  have l45 := nameB_len s.cl s.seq
  have l46 := s.h.len
  have l47 := varB_len s.t.toNat
  refine d_call (d := 15) rfl (by kernel_rfl) (rJoin_any w40 (.slice (some ⟨b39, 0, none⟩) 4 4) [(.slice a15 ((intB s.r).length) c16), (.slice a25 ((nameB s.cl s.seq).length) c26), (.slice (some ⟨b2, 3, none⟩) 32 32), (.slice a35 ((varB s.t.toNat).length) c36)] [(intB s.r), (nameB s.cl s.seq), s.h.l, (varB s.t.toNat)] (ListAt.row (enc := encW) (sz := 1) (xs := [(.slice a15 ((intB s.r).length) c16), (.slice a25 ((nameB s.cl s.seq).length) c26), (.slice (some ⟨b2, 3, none⟩) 32 32), (.slice a35 ((varB s.t.toNat).length) c36)]) encW_len (by decide) (H41.at 5 rfl)) (Parts.cons (ListAt.row (enc := encB) (sz := 1) encB_len (by decide) (H41.at 2 rfl)) (Parts.cons (ListAt.row (enc := encB) (sz := 1) encB_len (by decide) (H41.at 3 rfl)) (Parts.cons (ListAt.ofHash (cell_runT (H41.at 1 rfl) (by kernel_rfl)) (by decide)) (Parts.cons (ListAt.row (enc := encB) (sz := 1) encB_len (by decide) (H41.at 4 rfl)) Parts.nil)))) (by simp only [List.flatten_cons, List.flatten_nil, List.length_append, List.length_nil]; omega) (by simp)) ?_
  rintro _ w48 ⟨u49, rfl, k50, p51, q52⟩
  have H53 : Sat w [restC w (fun _ => False), cellC b2 49 (([(.int .i64 (s.r)), (.int .i64 (s.cl)), (.int .i64 (s.seq))] : List Value) ++ hc s.h ++ ([(.int .u64 (s.t)), (.int .i64 (s.sb)), (.int .i64 (s.sm))] : List Value)), rowC 5 1 (.slice a15 ((intB s.r).length) c16) ((intB s.r).length) ((intB s.r).flatMap encB), rowC 5 1 (.slice a25 ((nameB s.cl s.seq).length) c26) ((nameB s.cl s.seq).length) ((nameB s.cl s.seq).flatMap encB), rowC 5 1 (.slice a35 ((varB s.t.toNat).length) c36) ((varB s.t.toNat).length) ((varB s.t.toNat).flatMap encB), rowC 63 1 (.slice (some ⟨b39, 0, none⟩) 4 4) 4 ([(.slice a15 ((intB s.r).length) c16), (.slice a25 ((nameB s.cl s.seq).length) c26), (.slice (some ⟨b2, 3, none⟩) 32 32), (.slice a35 ((varB s.t.toNat).length) c36)] : List Value), rowC 5 1 u49 (([(intB s.r), (nameB s.cl s.seq), s.h.l, (varB s.t.toNat)].flatten).length) (([(intB s.r), (nameB s.cl s.seq), s.h.l, (varB s.t.toNat)].flatten).flatMap encB)] w48 := H41.addU p51 k50 q52
  obtain ⟨a54, c55, rfl⟩ := ownsRow_shape (H53.at 6 rfl)
  refine ⟨_, rfl, ?_⟩
  have S56 := H53.pick [0, 1] (by decide)
  refine hK43 _ _ S56 ?_
  clear hK43 K43
  refine h_val 13 rfl (by kernel_rfl) (by kernel_rfl) (by kernel_rfl) (fun _ _ _ h => h) S56 (wants0 rfl) (d := 2) (v := (.slice a54 (([(intB s.r), (nameB s.cl s.seq), s.h.l, (varB s.t.toNat)].flatten).length) c55)) rfl (fun _ H' => (by kernel_rfl)) ?_
  refine h_fin (by kernel_rfl) ?_
  refine then_normal ?_
  refine w_ret ?_
  refine end1 rfl (res_tmp (v := (.slice a54 (([(intB s.r), (nameB s.cl s.seq), s.h.l, (varB s.t.toNat)].flatten).length) c55)) rfl) ?_
  have hX : ([(intB s.r), (nameB s.cl s.seq), s.h.l, (varB s.t.toNat)].flatten) = bareB s := by rfl
  exact ⟨_, rfl, (by rw [← hX]; exact H53.at 6 rfl), H53.upd 0 rfl [] (fun _ h => h.elim), (by rw [← hX]; exact H53.fresh 0 rfl (fun _ h => h) 6 rfl rfl)⟩

set_option maxRecDepth 100000 in
set_option maxHeartbeats 400000 in
theorem rStampText_any (w : World) (s : StampD) (hs : (s.r ≤ 9223372036854775807 ∧ s.cl ≤ 9223372036854775807 ∧ s.seq ≤ 9223372036854775807 ∧ 0 ≤ s.t ∧ s.t < 18446744073709551616)) :
    Calls Try.prog 46 #[(.agg ⟨(([(.int .i64 (s.r)), (.int .i64 (s.cl)), (.int .i64 (s.seq))] : List Value) ++ hc s.h ++ ([(.int .u64 (s.t)), (.int .i64 (s.sb)), (.int .i64 (s.sm))] : List Value))⟩)] w fun e w' => ∃ u, e = .returned u ∧ (rowC 5 1 u (stampB s).length ((stampB s).flatMap encB)).ok w' ∧ Upd [] w w' ∧ ∀ q_, (rowC 5 1 u (stampB s).length ((stampB s).flatMap encB)).fp q_ → w.heap.size ≤ q_ := by
  have H := Sat.start0 w
  refine calls_fr Try.func46 rfl 10 rfl (Nat.le_of_ble_eq_true rfl) ?_
  refine w_seq ?_
  refine w_lit ?_
  refine wl_do (wants0 rfl) (fun K1 hK1 => ?_)
  refine d_box (vs := (([(.int .i64 (s.r)), (.int .i64 (s.cl)), (.int .i64 (s.seq))] : List Value) ++ hc s.h ++ ([(.int .u64 (s.t)), (.int .i64 (s.sb)), (.int .i64 (s.sm))] : List Value))) rfl H rfl rfl ?_
  intro b2 w3 (H4 : Sat w [restC w (fun _ => False), cellC b2 49 (([(.int .i64 (s.r)), (.int .i64 (s.cl)), (.int .i64 (s.seq))] : List Value) ++ hc s.h ++ ([(.int .u64 (s.t)), (.int .i64 (s.sb)), (.int .i64 (s.sm))] : List Value))] w3)
  refine hK1 _ _ ?_
  clear hK1 K1
  refine wl_pure (wants0 rfl) (d := 2) (v := (.slice none 0 0)) rfl (by kernel_rfl) ?_
  refine w_nil ?_
  refine then_normal ?_
  refine w_seq ?_
  refine h_start H4 [restC w (fun _ => False), cellC b2 49 (([(.int .i64 (s.r)), (.int .i64 (s.cl)), (.int .i64 (s.seq))] : List Value) ++ hc s.h ++ ([(.int .u64 (s.t)), (.int .i64 (s.sb)), (.int .i64 (s.sm))] : List Value))] 8 rfl (by kernel_rfl) (fun Hx => (Hx.pick [0, 1] (by decide))) ?_
  intro w5 H6 S7
  refine h_val 3 rfl (by kernel_rfl) (by kernel_rfl) (by kernel_rfl) (fun _ _ _ h => h) S7 (wants0 rfl) (d := 6) (v := (.agg ⟨(([(.int .i64 (s.r)), (.int .i64 (s.cl)), (.int .i64 (s.seq))] : List Value) ++ hc s.h ++ ([(.int .u64 (s.t)), (.int .i64 (s.sb)), (.int .i64 (s.sm))] : List Value))⟩)) rfl (fun _ H' => (e_loadN (vs := (([(.int .i64 (s.r)), (.int .i64 (s.cl)), (.int .i64 (s.seq))] : List Value) ++ hc s.h ++ ([(.int .u64 (s.t)), (.int .i64 (s.sb)), (.int .i64 (s.sm))] : List Value))) rfl (by kernel_rfl) (by kernel_rfl) (by exact Nat.le_of_ble_eq_true (by kernel_rfl)) (H'.at 1 rfl) (by kernel_rfl))) ?_
  refine h_do 0 rfl (by kernel_rfl) (wants0 rfl) (fun K8 hK8 => ?_)
  refine d_buildSlice (e := 5) (size := 1) (bytes := 1) (z := (.int .u8 (0))) (pvs := [(0, (.int .u8 (115))), (1, (.int .u8 (116))), (2, (.int .u8 (97))), (3, (.int .u8 (109))), (4, (.int .u8 (112)))]) (vs := ([(.int .u8 (115)), (.int .u8 (116)), (.int .u8 (97)), (.int .u8 (109)), (.int .u8 (112))] : List Value)) rfl H6 (by kernel_rfl) (by kernel_rfl) (by kernel_rfl) (by kernel_rfl) (by kernel_rfl) rfl rfl ?_
  intro b9 w10 (H11 : Sat w [restC w (fun _ => False), cellC b2 49 (([(.int .i64 (s.r)), (.int .i64 (s.cl)), (.int .i64 (s.seq))] : List Value) ++ hc s.h ++ ([(.int .u64 (s.t)), (.int .i64 (s.sb)), (.int .i64 (s.sm))] : List Value)), rowC 5 1 (.slice (some ⟨b9, 0, none⟩) 5 5) 5 ([(.int .u8 (115)), (.int .u8 (116)), (.int .u8 (97)), (.int .u8 (109)), (.int .u8 (112))] : List Value)] w10)
  have H12 : Sat w [restC w (fun _ => False), cellC b2 49 (([(.int .i64 (s.r)), (.int .i64 (s.cl)), (.int .i64 (s.seq))] : List Value) ++ hc s.h ++ ([(.int .u64 (s.t)), (.int .i64 (s.sb)), (.int .i64 (s.sm))] : List Value)), rowC 5 1 (.slice (some ⟨b9, 0, none⟩) 5 5) 5 ([115, 116, 97, 109, 112].flatMap encB)] w10 := H11.cast (by rw [show (([(.int .u8 (115)), (.int .u8 (116)), (.int .u8 (97)), (.int .u8 (109)), (.int .u8 (112))] : List Value) : List Value) = [115, 116, 97, 109, 112].flatMap encB from rfl])
  have S13 := H12.pick [0, 1] (by decide)
  refine hK8 _ _ S13 ?_
  clear hK8 K8
  refine h_do 1 rfl (by kernel_rfl) (wants0 rfl) (fun K14 hK14 => ?_)
  refine d_convMark (e := 5) (s := [115, 116, 97, 109, 112]) rfl H12 2 rfl (by kernel_rfl) (by kernel_rfl) rfl ?_
  intro w15 (H16 : Sat w [restC w (fun _ => False), cellC b2 49 (([(.int .i64 (s.r)), (.int .i64 (s.cl)), (.int .i64 (s.seq))] : List Value) ++ hc s.h ++ ([(.int .u64 (s.t)), (.int .i64 (s.sb)), (.int .i64 (s.sm))] : List Value)), txtC (.slice (some ⟨b9, 0, none⟩) 5 5) ([115, 116, 97, 109, 112])] w15)
  have S17 := H16.pick [0, 1] (by decide)
  refine hK14 _ _ S17 ?_
  clear hK14 K14
  refine h_do 2 rfl (by kernel_rfl) (wants0 rfl) (fun K18 hK18 => ?_)
  refine d_call (d := 5) rfl (by kernel_rfl) (rRow_any w15 (.slice (some ⟨b9, 0, none⟩) 5 5) ([115, 116, 97, 109, 112]) (ListAt.ofTxt (H16.at 2 rfl)) (by simp)) ?_
  rintro _ w19 ⟨u20, rfl, k21, p22, q23⟩
  have H24 : Sat w [restC w (fun _ => False), cellC b2 49 (([(.int .i64 (s.r)), (.int .i64 (s.cl)), (.int .i64 (s.seq))] : List Value) ++ hc s.h ++ ([(.int .u64 (s.t)), (.int .i64 (s.sb)), (.int .i64 (s.sm))] : List Value)), txtC (.slice (some ⟨b9, 0, none⟩) 5 5) ([115, 116, 97, 109, 112]), rowC 5 1 u20 ((rowB ([115, 116, 97, 109, 112])).length) ((rowB ([115, 116, 97, 109, 112])).flatMap encB)] w19 := H16.addU p22 k21 q23
  obtain ⟨a25, c26, rfl⟩ := ownsRow_shape (H24.at 3 rfl)
  refine ⟨_, rfl, ?_⟩
  have S27 := H24.pick [0, 1] (by decide)
  refine hK18 _ _ S27 ?_
  clear hK18 K18
  refine h_do 4 rfl (by kernel_rfl) (wants0 rfl) (fun K28 hK28 => ?_)
  refine d_call (d := 7) rfl (by kernel_rfl) (rBare_any w19 s hs) ?_
  rintro _ w29 ⟨u30, rfl, k31, p32, q33⟩
  have H34 : Sat w [restC w (fun _ => False), cellC b2 49 (([(.int .i64 (s.r)), (.int .i64 (s.cl)), (.int .i64 (s.seq))] : List Value) ++ hc s.h ++ ([(.int .u64 (s.t)), (.int .i64 (s.sb)), (.int .i64 (s.sm))] : List Value)), txtC (.slice (some ⟨b9, 0, none⟩) 5 5) ([115, 116, 97, 109, 112]), rowC 5 1 (.slice a25 ((rowB ([115, 116, 97, 109, 112])).length) c26) ((rowB ([115, 116, 97, 109, 112])).length) ((rowB ([115, 116, 97, 109, 112])).flatMap encB), rowC 5 1 u30 ((bareB s).length) ((bareB s).flatMap encB)] w29 := H24.addU p32 k31 q33
  obtain ⟨a35, c36, rfl⟩ := ownsRow_shape (H34.at 4 rfl)
  refine ⟨_, rfl, ?_⟩
  have S37 := H34.pick [0, 1] (by decide)
  refine hK28 _ _ S37 ?_
  clear hK28 K28
  refine h_do 5 rfl (by kernel_rfl) (wants0 rfl) (fun K38 hK38 => ?_)
  refine d_buildSlice (e := 63) (size := 1) (bytes := 24) (z := (.slice none 0 0)) (pvs := [(0, (.slice a25 ((rowB ([115, 116, 97, 109, 112])).length) c26)), (1, (.slice a35 ((bareB s).length) c36))]) (vs := ([(.slice a25 ((rowB ([115, 116, 97, 109, 112])).length) c26), (.slice a35 ((bareB s).length) c36)] : List Value)) rfl H34 (by kernel_rfl) (by kernel_rfl) (by kernel_rfl) (by kernel_rfl) (by kernel_rfl) rfl rfl ?_
  intro b39 w40 (H41 : Sat w [restC w (fun _ => False), cellC b2 49 (([(.int .i64 (s.r)), (.int .i64 (s.cl)), (.int .i64 (s.seq))] : List Value) ++ hc s.h ++ ([(.int .u64 (s.t)), (.int .i64 (s.sb)), (.int .i64 (s.sm))] : List Value)), txtC (.slice (some ⟨b9, 0, none⟩) 5 5) ([115, 116, 97, 109, 112]), rowC 5 1 (.slice a25 ((rowB ([115, 116, 97, 109, 112])).length) c26) ((rowB ([115, 116, 97, 109, 112])).length) ((rowB ([115, 116, 97, 109, 112])).flatMap encB), rowC 5 1 (.slice a35 ((bareB s).length) c36) ((bareB s).length) ((bareB s).flatMap encB), rowC 63 1 (.slice (some ⟨b39, 0, none⟩) 2 2) 2 ([(.slice a25 ((rowB ([115, 116, 97, 109, 112])).length) c26), (.slice a35 ((bareB s).length) c36)] : List Value)] w40)
  have S42 := H41.pick [0, 1] (by decide)
  refine hK38 _ _ S42 ?_
  clear hK38 K38
  refine h_do 6 rfl (by kernel_rfl) (wants0 rfl) (fun K43 hK43 => ?_)
  have l44 := rowB_len ([115, 116, 97, 109, 112])
  simp only [List.length_cons, List.length_nil] at l44
  have l45 := bareB_len s
  refine d_call (d := 9) rfl (by kernel_rfl) (rJoin_any w40 (.slice (some ⟨b39, 0, none⟩) 2 2) [(.slice a25 ((rowB ([115, 116, 97, 109, 112])).length) c26), (.slice a35 ((bareB s).length) c36)] [(rowB ([115, 116, 97, 109, 112])), (bareB s)] (ListAt.row (enc := encW) (sz := 1) (xs := [(.slice a25 ((rowB ([115, 116, 97, 109, 112])).length) c26), (.slice a35 ((bareB s).length) c36)]) encW_len (by decide) (H41.at 5 rfl)) (Parts.cons (ListAt.row (enc := encB) (sz := 1) encB_len (by decide) (H41.at 3 rfl)) (Parts.cons (ListAt.row (enc := encB) (sz := 1) encB_len (by decide) (H41.at 4 rfl)) Parts.nil)) (by simp only [List.flatten_cons, List.flatten_nil, List.length_append, List.length_nil]; omega) (by simp)) ?_
  rintro _ w46 ⟨u47, rfl, k48, p49, q50⟩
  have H51 : Sat w [restC w (fun _ => False), cellC b2 49 (([(.int .i64 (s.r)), (.int .i64 (s.cl)), (.int .i64 (s.seq))] : List Value) ++ hc s.h ++ ([(.int .u64 (s.t)), (.int .i64 (s.sb)), (.int .i64 (s.sm))] : List Value)), txtC (.slice (some ⟨b9, 0, none⟩) 5 5) ([115, 116, 97, 109, 112]), rowC 5 1 (.slice a25 ((rowB ([115, 116, 97, 109, 112])).length) c26) ((rowB ([115, 116, 97, 109, 112])).length) ((rowB ([115, 116, 97, 109, 112])).flatMap encB), rowC 5 1 (.slice a35 ((bareB s).length) c36) ((bareB s).length) ((bareB s).flatMap encB), rowC 63 1 (.slice (some ⟨b39, 0, none⟩) 2 2) 2 ([(.slice a25 ((rowB ([115, 116, 97, 109, 112])).length) c26), (.slice a35 ((bareB s).length) c36)] : List Value), rowC 5 1 u47 (([(rowB ([115, 116, 97, 109, 112])), (bareB s)].flatten).length) (([(rowB ([115, 116, 97, 109, 112])), (bareB s)].flatten).flatMap encB)] w46 := H41.addU p49 k48 q50
  obtain ⟨a52, c53, rfl⟩ := ownsRow_shape (H51.at 6 rfl)
  refine ⟨_, rfl, ?_⟩
  have S54 := H51.pick [0, 1] (by decide)
  refine hK43 _ _ S54 ?_
  clear hK43 K43
  refine h_val 7 rfl (by kernel_rfl) (by kernel_rfl) (by kernel_rfl) (fun _ _ _ h => h) S54 (wants0 rfl) (d := 2) (v := (.slice a52 (([(rowB ([115, 116, 97, 109, 112])), (bareB s)].flatten).length) c53)) rfl (fun _ H' => (by kernel_rfl)) ?_
  refine h_fin (by kernel_rfl) ?_
  refine then_normal ?_
  refine w_ret ?_
  refine end1 rfl (res_tmp (v := (.slice a52 (([(rowB ([115, 116, 97, 109, 112])), (bareB s)].flatten).length) c53)) rfl) ?_
  have hX : ([(rowB ([115, 116, 97, 109, 112])), (bareB s)].flatten) = stampB s := by rfl
  exact ⟨_, rfl, (by rw [← hX]; exact H51.at 6 rfl), H51.upd 0 rfl [] (fun _ h => h.elim), (by rw [← hX]; exact H51.fresh 0 rfl (fun _ h => h) 6 rfl rfl)⟩

set_option maxRecDepth 100000 in
set_option maxHeartbeats 400000 in
theorem rCommitText_any (w : World) (s : CommitD) (hs : (s.cl ≤ 9223372036854775807 ∧ s.seq ≤ 9223372036854775807 ∧ s.len ≤ 9223372036854775807)) :
    Calls Try.prog 49 #[(.agg ⟨(([(.int .i64 (s.cl)), (.int .i64 (s.seq))] : List Value) ++ hc s.h ++ ([(.int .i64 (s.len)), (.int .i64 (s.sb)), (.int .i64 (s.sm))] : List Value))⟩)] w fun e w' => ∃ u, e = .returned u ∧ (rowC 5 1 u (commitB s).length ((commitB s).flatMap encB)).ok w' ∧ Upd [] w w' ∧ ∀ q_, (rowC 5 1 u (commitB s).length ((commitB s).flatMap encB)).fp q_ → w.heap.size ≤ q_ := by
  have H := Sat.start0 w
  refine calls_fr Try.func49 rfl 21 rfl (Nat.le_of_ble_eq_true rfl) ?_
  refine w_seq ?_
  refine w_lit ?_
  refine wl_do (wants0 rfl) (fun K1 hK1 => ?_)
  refine d_box (vs := (([(.int .i64 (s.cl)), (.int .i64 (s.seq))] : List Value) ++ hc s.h ++ ([(.int .i64 (s.len)), (.int .i64 (s.sb)), (.int .i64 (s.sm))] : List Value))) rfl H rfl rfl ?_
  intro b2 w3 (H4 : Sat w [restC w (fun _ => False), cellC b2 44 (([(.int .i64 (s.cl)), (.int .i64 (s.seq))] : List Value) ++ hc s.h ++ ([(.int .i64 (s.len)), (.int .i64 (s.sb)), (.int .i64 (s.sm))] : List Value))] w3)
  refine hK1 _ _ ?_
  clear hK1 K1
  refine wl_pure (wants0 rfl) (d := 2) (v := (.slice none 0 0)) rfl (by kernel_rfl) ?_
  refine w_nil ?_
  refine then_normal ?_
  refine w_seq ?_
  refine h_start H4 [restC w (fun _ => False), cellC b2 44 (([(.int .i64 (s.cl)), (.int .i64 (s.seq))] : List Value) ++ hc s.h ++ ([(.int .i64 (s.len)), (.int .i64 (s.sb)), (.int .i64 (s.sm))] : List Value))] 19 rfl (by kernel_rfl) (fun Hx => (Hx.pick [0, 1] (by decide))) ?_
  intro w5 H6 S7
  refine h_val 3 rfl (by kernel_rfl) (by kernel_rfl) (by kernel_rfl) (fun _ _ _ h => h) S7 (wants0 rfl) (d := 6) (v := (.pointer (some ⟨b2, 0, none⟩))) rfl (fun _ H' => (by kernel_rfl)) ?_
  refine h_val 4 rfl (by kernel_rfl) (by kernel_rfl) (by kernel_rfl) (fun _ _ _ h => h) S7 (wants0 rfl) (d := 7) (v := (.pointer (some ⟨b2, 0, none⟩))) rfl (fun _ H' => (by kernel_rfl)) ?_
  refine h_val 5 rfl (by kernel_rfl) (by kernel_rfl) (by kernel_rfl) (fun _ _ _ h => h) S7 (wants0 rfl) (d := 8) (v := (.int .i64 (s.cl))) rfl (fun _ H' => (e_load1 rfl (by kernel_rfl) (H'.cell 1 rfl (by kernel_rfl)))) ?_
  refine h_val 7 rfl (by kernel_rfl) (by kernel_rfl) (by kernel_rfl) (fun _ _ _ h => h) S7 (wants0 rfl) (d := 10) (v := (.pointer (some ⟨b2, 0, none⟩))) rfl (fun _ H' => (by kernel_rfl)) ?_
  refine h_val 8 rfl (by kernel_rfl) (by kernel_rfl) (by kernel_rfl) (fun _ _ _ h => h) S7 (wants0 rfl) (d := 11) (v := (.pointer (some ⟨b2, 1, none⟩))) rfl (fun _ H' => (by kernel_rfl)) ?_
  refine h_val 9 rfl (by kernel_rfl) (by kernel_rfl) (by kernel_rfl) (fun _ _ _ h => h) S7 (wants0 rfl) (d := 12) (v := (.int .i64 (s.seq))) rfl (fun _ H' => (e_load1 rfl (by kernel_rfl) (H'.cell 1 rfl (by kernel_rfl)))) ?_
  refine h_val 11 rfl (by kernel_rfl) (by kernel_rfl) (by kernel_rfl) (fun _ _ _ h => h) S7 (wants0 rfl) (d := 14) (v := (.pointer (some ⟨b2, 2, none⟩))) rfl (fun _ H' => (by kernel_rfl)) ?_
  refine h_val 12 rfl (by kernel_rfl) (by kernel_rfl) (by kernel_rfl) (fun _ _ _ h => h) S7 (wants0 rfl) (d := 15) (v := (.slice (some ⟨b2, 2, none⟩) 32 32)) rfl (fun _ H' => (by kernel_rfl)) ?_
  refine h_val 13 rfl (by kernel_rfl) (by kernel_rfl) (by kernel_rfl) (fun _ _ _ h => h) S7 (wants0 rfl) (d := 16) (v := (.pointer (some ⟨b2, 34, none⟩))) rfl (fun _ H' => (by kernel_rfl)) ?_
  refine h_val 14 rfl (by kernel_rfl) (by kernel_rfl) (by kernel_rfl) (fun _ _ _ h => h) S7 (wants0 rfl) (d := 17) (v := (.int .i64 (s.len))) rfl (fun _ H' => (e_load1 rfl (by kernel_rfl) (H'.cell 1 rfl (by kernel_rfl)))) ?_
  refine h_do 0 rfl (by kernel_rfl) (wants0 rfl) (fun K8 hK8 => ?_)
  refine d_buildSlice (e := 5) (size := 1) (bytes := 1) (z := (.int .u8 (0))) (pvs := [(0, (.int .u8 (114))), (1, (.int .u8 (101))), (2, (.int .u8 (113))), (3, (.int .u8 (117))), (4, (.int .u8 (101))), (5, (.int .u8 (115))), (6, (.int .u8 (116)))]) (vs := ([(.int .u8 (114)), (.int .u8 (101)), (.int .u8 (113)), (.int .u8 (117)), (.int .u8 (101)), (.int .u8 (115)), (.int .u8 (116))] : List Value)) rfl H6 (by kernel_rfl) (by kernel_rfl) (by kernel_rfl) (by kernel_rfl) (by kernel_rfl) rfl rfl ?_
  intro b9 w10 (H11 : Sat w [restC w (fun _ => False), cellC b2 44 (([(.int .i64 (s.cl)), (.int .i64 (s.seq))] : List Value) ++ hc s.h ++ ([(.int .i64 (s.len)), (.int .i64 (s.sb)), (.int .i64 (s.sm))] : List Value)), rowC 5 1 (.slice (some ⟨b9, 0, none⟩) 7 7) 7 ([(.int .u8 (114)), (.int .u8 (101)), (.int .u8 (113)), (.int .u8 (117)), (.int .u8 (101)), (.int .u8 (115)), (.int .u8 (116))] : List Value)] w10)
  have H12 : Sat w [restC w (fun _ => False), cellC b2 44 (([(.int .i64 (s.cl)), (.int .i64 (s.seq))] : List Value) ++ hc s.h ++ ([(.int .i64 (s.len)), (.int .i64 (s.sb)), (.int .i64 (s.sm))] : List Value)), rowC 5 1 (.slice (some ⟨b9, 0, none⟩) 7 7) 7 ([114, 101, 113, 117, 101, 115, 116].flatMap encB)] w10 := H11.cast (by rw [show (([(.int .u8 (114)), (.int .u8 (101)), (.int .u8 (113)), (.int .u8 (117)), (.int .u8 (101)), (.int .u8 (115)), (.int .u8 (116))] : List Value) : List Value) = [114, 101, 113, 117, 101, 115, 116].flatMap encB from rfl])
  have S13 := H12.pick [0, 1] (by decide)
  refine hK8 _ _ S13 ?_
  clear hK8 K8
  refine h_do 1 rfl (by kernel_rfl) (wants0 rfl) (fun K14 hK14 => ?_)
  refine d_convMark (e := 5) (s := [114, 101, 113, 117, 101, 115, 116]) rfl H12 2 rfl (by kernel_rfl) (by kernel_rfl) rfl ?_
  intro w15 (H16 : Sat w [restC w (fun _ => False), cellC b2 44 (([(.int .i64 (s.cl)), (.int .i64 (s.seq))] : List Value) ++ hc s.h ++ ([(.int .i64 (s.len)), (.int .i64 (s.sb)), (.int .i64 (s.sm))] : List Value)), txtC (.slice (some ⟨b9, 0, none⟩) 7 7) ([114, 101, 113, 117, 101, 115, 116])] w15)
  have S17 := H16.pick [0, 1] (by decide)
  refine hK14 _ _ S17 ?_
  clear hK14 K14
  refine h_do 2 rfl (by kernel_rfl) (wants0 rfl) (fun K18 hK18 => ?_)
  refine d_call (d := 5) rfl (by kernel_rfl) (rRow_any w15 (.slice (some ⟨b9, 0, none⟩) 7 7) ([114, 101, 113, 117, 101, 115, 116]) (ListAt.ofTxt (H16.at 2 rfl)) (by simp)) ?_
  rintro _ w19 ⟨u20, rfl, k21, p22, q23⟩
  have H24 : Sat w [restC w (fun _ => False), cellC b2 44 (([(.int .i64 (s.cl)), (.int .i64 (s.seq))] : List Value) ++ hc s.h ++ ([(.int .i64 (s.len)), (.int .i64 (s.sb)), (.int .i64 (s.sm))] : List Value)), txtC (.slice (some ⟨b9, 0, none⟩) 7 7) ([114, 101, 113, 117, 101, 115, 116]), rowC 5 1 u20 ((rowB ([114, 101, 113, 117, 101, 115, 116])).length) ((rowB ([114, 101, 113, 117, 101, 115, 116])).flatMap encB)] w19 := H16.addU p22 k21 q23
  obtain ⟨a25, c26, rfl⟩ := ownsRow_shape (H24.at 3 rfl)
  refine ⟨_, rfl, ?_⟩
  have S27 := H24.pick [0, 1] (by decide)
  refine hK18 _ _ S27 ?_
  clear hK18 K18
  refine h_do 6 rfl (by kernel_rfl) (wants0 rfl) (fun K28 hK28 => ?_)
  refine d_call (d := 9) rfl (by kernel_rfl) (rInt_any w19 s.cl (by omega)) ?_
  rintro _ w29 ⟨u30, rfl, k31, p32, q33⟩
  have H34 : Sat w [restC w (fun _ => False), cellC b2 44 (([(.int .i64 (s.cl)), (.int .i64 (s.seq))] : List Value) ++ hc s.h ++ ([(.int .i64 (s.len)), (.int .i64 (s.sb)), (.int .i64 (s.sm))] : List Value)), txtC (.slice (some ⟨b9, 0, none⟩) 7 7) ([114, 101, 113, 117, 101, 115, 116]), rowC 5 1 (.slice a25 ((rowB ([114, 101, 113, 117, 101, 115, 116])).length) c26) ((rowB ([114, 101, 113, 117, 101, 115, 116])).length) ((rowB ([114, 101, 113, 117, 101, 115, 116])).flatMap encB), rowC 5 1 u30 ((intB s.cl).length) ((intB s.cl).flatMap encB)] w29 := H24.addU p32 k31 q33
  obtain ⟨a35, c36, rfl⟩ := ownsRow_shape (H34.at 4 rfl)
  refine ⟨_, rfl, ?_⟩
  have S37 := H34.pick [0, 1] (by decide)
  refine hK28 _ _ S37 ?_
  clear hK28 K28
  refine h_do 10 rfl (by kernel_rfl) (wants0 rfl) (fun K38 hK38 => ?_)
  refine d_call (d := 13) rfl (by kernel_rfl) (rInt_any w29 s.seq (by omega)) ?_
  rintro _ w39 ⟨u40, rfl, k41, p42, q43⟩
  have H44 : Sat w [restC w (fun _ => False), cellC b2 44 (([(.int .i64 (s.cl)), (.int .i64 (s.seq))] : List Value) ++ hc s.h ++ ([(.int .i64 (s.len)), (.int .i64 (s.sb)), (.int .i64 (s.sm))] : List Value)), txtC (.slice (some ⟨b9, 0, none⟩) 7 7) ([114, 101, 113, 117, 101, 115, 116]), rowC 5 1 (.slice a25 ((rowB ([114, 101, 113, 117, 101, 115, 116])).length) c26) ((rowB ([114, 101, 113, 117, 101, 115, 116])).length) ((rowB ([114, 101, 113, 117, 101, 115, 116])).flatMap encB), rowC 5 1 (.slice a35 ((intB s.cl).length) c36) ((intB s.cl).length) ((intB s.cl).flatMap encB), rowC 5 1 u40 ((intB s.seq).length) ((intB s.seq).flatMap encB)] w39 := H34.addU p42 k41 q43
  obtain ⟨a45, c46, rfl⟩ := ownsRow_shape (H44.at 5 rfl)
  refine ⟨_, rfl, ?_⟩
  have S47 := H44.pick [0, 1] (by decide)
  refine hK38 _ _ S47 ?_
  clear hK38 K38
  refine h_do 15 rfl (by kernel_rfl) (wants0 rfl) (fun K48 hK48 => ?_)
  refine d_call (d := 18) rfl (by kernel_rfl) (rInt_any w39 s.len (by omega)) ?_
  rintro _ w49 ⟨u50, rfl, k51, p52, q53⟩
  have H54 : Sat w [restC w (fun _ => False), cellC b2 44 (([(.int .i64 (s.cl)), (.int .i64 (s.seq))] : List Value) ++ hc s.h ++ ([(.int .i64 (s.len)), (.int .i64 (s.sb)), (.int .i64 (s.sm))] : List Value)), txtC (.slice (some ⟨b9, 0, none⟩) 7 7) ([114, 101, 113, 117, 101, 115, 116]), rowC 5 1 (.slice a25 ((rowB ([114, 101, 113, 117, 101, 115, 116])).length) c26) ((rowB ([114, 101, 113, 117, 101, 115, 116])).length) ((rowB ([114, 101, 113, 117, 101, 115, 116])).flatMap encB), rowC 5 1 (.slice a35 ((intB s.cl).length) c36) ((intB s.cl).length) ((intB s.cl).flatMap encB), rowC 5 1 (.slice a45 ((intB s.seq).length) c46) ((intB s.seq).length) ((intB s.seq).flatMap encB), rowC 5 1 u50 ((intB s.len).length) ((intB s.len).flatMap encB)] w49 := H44.addU p52 k51 q53
  obtain ⟨a55, c56, rfl⟩ := ownsRow_shape (H54.at 6 rfl)
  refine ⟨_, rfl, ?_⟩
  have S57 := H54.pick [0, 1] (by decide)
  refine hK48 _ _ S57 ?_
  clear hK48 K48
  refine h_do 16 rfl (by kernel_rfl) (wants0 rfl) (fun K58 hK58 => ?_)
  refine d_buildSlice (e := 63) (size := 1) (bytes := 24) (z := (.slice none 0 0)) (pvs := [(0, (.slice a25 ((rowB ([114, 101, 113, 117, 101, 115, 116])).length) c26)), (1, (.slice a35 ((intB s.cl).length) c36)), (2, (.slice a45 ((intB s.seq).length) c46)), (3, (.slice (some ⟨b2, 2, none⟩) 32 32)), (4, (.slice a55 ((intB s.len).length) c56))]) (vs := ([(.slice a25 ((rowB ([114, 101, 113, 117, 101, 115, 116])).length) c26), (.slice a35 ((intB s.cl).length) c36), (.slice a45 ((intB s.seq).length) c46), (.slice (some ⟨b2, 2, none⟩) 32 32), (.slice a55 ((intB s.len).length) c56)] : List Value)) rfl H54 (by kernel_rfl) (by kernel_rfl) (by kernel_rfl) (by kernel_rfl) (by kernel_rfl) rfl rfl ?_
  intro b59 w60 (H61 : Sat w [restC w (fun _ => False), cellC b2 44 (([(.int .i64 (s.cl)), (.int .i64 (s.seq))] : List Value) ++ hc s.h ++ ([(.int .i64 (s.len)), (.int .i64 (s.sb)), (.int .i64 (s.sm))] : List Value)), txtC (.slice (some ⟨b9, 0, none⟩) 7 7) ([114, 101, 113, 117, 101, 115, 116]), rowC 5 1 (.slice a25 ((rowB ([114, 101, 113, 117, 101, 115, 116])).length) c26) ((rowB ([114, 101, 113, 117, 101, 115, 116])).length) ((rowB ([114, 101, 113, 117, 101, 115, 116])).flatMap encB), rowC 5 1 (.slice a35 ((intB s.cl).length) c36) ((intB s.cl).length) ((intB s.cl).flatMap encB), rowC 5 1 (.slice a45 ((intB s.seq).length) c46) ((intB s.seq).length) ((intB s.seq).flatMap encB), rowC 5 1 (.slice a55 ((intB s.len).length) c56) ((intB s.len).length) ((intB s.len).flatMap encB), rowC 63 1 (.slice (some ⟨b59, 0, none⟩) 5 5) 5 ([(.slice a25 ((rowB ([114, 101, 113, 117, 101, 115, 116])).length) c26), (.slice a35 ((intB s.cl).length) c36), (.slice a45 ((intB s.seq).length) c46), (.slice (some ⟨b2, 2, none⟩) 32 32), (.slice a55 ((intB s.len).length) c56)] : List Value)] w60)
  have S62 := H61.pick [0, 1] (by decide)
  refine hK58 _ _ S62 ?_
  clear hK58 K58
  refine h_do 17 rfl (by kernel_rfl) (wants0 rfl) (fun K63 hK63 => ?_)
  have l64 := rowB_len ([114, 101, 113, 117, 101, 115, 116])
  simp only [List.length_cons, List.length_nil] at l64
  have l65 := intB_len s.cl
  have l66 := intB_len s.seq
  have l67 := s.h.len
  have l68 := intB_len s.len
  refine d_call (d := 20) rfl (by kernel_rfl) (rJoin_any w60 (.slice (some ⟨b59, 0, none⟩) 5 5) [(.slice a25 ((rowB ([114, 101, 113, 117, 101, 115, 116])).length) c26), (.slice a35 ((intB s.cl).length) c36), (.slice a45 ((intB s.seq).length) c46), (.slice (some ⟨b2, 2, none⟩) 32 32), (.slice a55 ((intB s.len).length) c56)] [(rowB ([114, 101, 113, 117, 101, 115, 116])), (intB s.cl), (intB s.seq), s.h.l, (intB s.len)] (ListAt.row (enc := encW) (sz := 1) (xs := [(.slice a25 ((rowB ([114, 101, 113, 117, 101, 115, 116])).length) c26), (.slice a35 ((intB s.cl).length) c36), (.slice a45 ((intB s.seq).length) c46), (.slice (some ⟨b2, 2, none⟩) 32 32), (.slice a55 ((intB s.len).length) c56)]) encW_len (by decide) (H61.at 7 rfl)) (Parts.cons (ListAt.row (enc := encB) (sz := 1) encB_len (by decide) (H61.at 3 rfl)) (Parts.cons (ListAt.row (enc := encB) (sz := 1) encB_len (by decide) (H61.at 4 rfl)) (Parts.cons (ListAt.row (enc := encB) (sz := 1) encB_len (by decide) (H61.at 5 rfl)) (Parts.cons (ListAt.ofHash (cell_runT (H61.at 1 rfl) (by kernel_rfl)) (by decide)) (Parts.cons (ListAt.row (enc := encB) (sz := 1) encB_len (by decide) (H61.at 6 rfl)) Parts.nil))))) (by simp only [List.flatten_cons, List.flatten_nil, List.length_append, List.length_nil]; omega) (by simp)) ?_
  rintro _ w69 ⟨u70, rfl, k71, p72, q73⟩
  have H74 : Sat w [restC w (fun _ => False), cellC b2 44 (([(.int .i64 (s.cl)), (.int .i64 (s.seq))] : List Value) ++ hc s.h ++ ([(.int .i64 (s.len)), (.int .i64 (s.sb)), (.int .i64 (s.sm))] : List Value)), txtC (.slice (some ⟨b9, 0, none⟩) 7 7) ([114, 101, 113, 117, 101, 115, 116]), rowC 5 1 (.slice a25 ((rowB ([114, 101, 113, 117, 101, 115, 116])).length) c26) ((rowB ([114, 101, 113, 117, 101, 115, 116])).length) ((rowB ([114, 101, 113, 117, 101, 115, 116])).flatMap encB), rowC 5 1 (.slice a35 ((intB s.cl).length) c36) ((intB s.cl).length) ((intB s.cl).flatMap encB), rowC 5 1 (.slice a45 ((intB s.seq).length) c46) ((intB s.seq).length) ((intB s.seq).flatMap encB), rowC 5 1 (.slice a55 ((intB s.len).length) c56) ((intB s.len).length) ((intB s.len).flatMap encB), rowC 63 1 (.slice (some ⟨b59, 0, none⟩) 5 5) 5 ([(.slice a25 ((rowB ([114, 101, 113, 117, 101, 115, 116])).length) c26), (.slice a35 ((intB s.cl).length) c36), (.slice a45 ((intB s.seq).length) c46), (.slice (some ⟨b2, 2, none⟩) 32 32), (.slice a55 ((intB s.len).length) c56)] : List Value), rowC 5 1 u70 (([(rowB ([114, 101, 113, 117, 101, 115, 116])), (intB s.cl), (intB s.seq), s.h.l, (intB s.len)].flatten).length) (([(rowB ([114, 101, 113, 117, 101, 115, 116])), (intB s.cl), (intB s.seq), s.h.l, (intB s.len)].flatten).flatMap encB)] w69 := H61.addU p72 k71 q73
  obtain ⟨a75, c76, rfl⟩ := ownsRow_shape (H74.at 8 rfl)
  refine ⟨_, rfl, ?_⟩
  have S77 := H74.pick [0, 1] (by decide)
  refine hK63 _ _ S77 ?_
  clear hK63 K63
  refine h_val 18 rfl (by kernel_rfl) (by kernel_rfl) (by kernel_rfl) (fun _ _ _ h => h) S77 (wants0 rfl) (d := 2) (v := (.slice a75 (([(rowB ([114, 101, 113, 117, 101, 115, 116])), (intB s.cl), (intB s.seq), s.h.l, (intB s.len)].flatten).length) c76)) rfl (fun _ H' => (by kernel_rfl)) ?_
  refine h_fin (by kernel_rfl) ?_
  refine then_normal ?_
  refine w_ret ?_
  refine end1 rfl (res_tmp (v := (.slice a75 (([(rowB ([114, 101, 113, 117, 101, 115, 116])), (intB s.cl), (intB s.seq), s.h.l, (intB s.len)].flatten).length) c76)) rfl) ?_
  have hX : ([(rowB ([114, 101, 113, 117, 101, 115, 116])), (intB s.cl), (intB s.seq), s.h.l, (intB s.len)].flatten) = commitB s := by rfl
  exact ⟨_, rfl, (by rw [← hX]; exact H74.at 8 rfl), H74.upd 0 rfl [] (fun _ h => h.elim), (by rw [← hX]; exact H74.fresh 0 rfl (fun _ h => h) 8 rfl rfl)⟩

end Go.Proofs.Ytbpeofcoceaahaa
