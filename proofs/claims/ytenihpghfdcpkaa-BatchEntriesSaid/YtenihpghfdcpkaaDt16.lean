/- WHAT IS PROVED: the texts of denials, as the program and as the document make them: contracts. Conditions: stated with each. -/
import Derived.Test.YtenihpghfdcpkaaDenyT
namespace Go.Proofs.Ytenihpghfdcpkaa
open Go.RowKit

set_option maxRecDepth 100000 in
set_option maxHeartbeats 400000 in
theorem wText_any (w : World) (s : List UInt8) (hs : 0 < s.length ∧ s.length ≤ 1000000) :
    Calls Try.prog 52 #[(strV s)] w fun e w' => ∃ r a c, e = .returned (.pointer (some ⟨r, 0, none⟩)) ∧ (sepC (wrL r a c (rowB s))).ok w' ∧ Upd [] w w' ∧ ∀ q_, (sepC (wrL r a c (rowB s))).fp q_ → w.heap.size ≤ q_ := by
  have H := Sat.start0 w
  refine calls_fr Try.func52 rfl 7 rfl (Nat.le_of_ble_eq_true rfl) ?_
  refine w_seq ?_
  refine w_lit ?_
  refine wl_pure (wants0 rfl) (d := 2) (v := (.pointer none)) rfl (by kernel_rfl) ?_
  refine w_nil ?_
  refine then_normal ?_
  refine w_seq ?_
  refine w_lit ?_
  refine wl_do (wants0 rfl) (fun K1 hK1 => ?_)
  refine d_call (d := 3) rfl (by kernel_rfl) (wNew_any w) ?_
  rintro _ w2 ⟨r3, a4, c5, rfl, k6, p7, q8⟩
  have H9 : Sat w [restC w (fun _ => False), sepC (wrL r3 a4 c5 ([] : List UInt8))] w2 := H.addU p7 k6 q8
  have H10 : Sat w [restC w (fun _ => False), cellC r3 159 ([(.slice a4 (([] : List UInt8).length) c5)] : List Value), rowC 5 1 (.slice a4 (([] : List UInt8).length) c5) (([] : List UInt8).length) (([] : List UInt8).flatMap encB)] w2 := H9.open 1 rfl
  refine ⟨_, rfl, ?_⟩
  refine hK1 _ _ ?_
  clear hK1 K1
  refine wl_pure (wants0 rfl) (d := 4) (v := (strV s)) rfl (by kernel_rfl) ?_
  refine wl_do (wants0 rfl) (fun K11 hK11 => ?_)
  refine d_convStr (e := 5) (s := s) rfl H10 (by kernel_rfl) (by kernel_rfl) (by kernel_rfl) rfl (by omega) (by omega) ?_
  intro b14 c15 w12 (H13 : Sat w [restC w (fun _ => False), cellC r3 159 ([(.slice a4 (([] : List UInt8).length) c5)] : List Value), rowC 5 1 (.slice a4 (([] : List UInt8).length) c5) (([] : List UInt8).length) (([] : List UInt8).flatMap encB), txtC (.slice (some ⟨b14, 0, none⟩) s.length c15) s] w12)
  refine hK11 _ _ ?_
  clear hK11 K11
  refine wl_do (wants0 rfl) (fun K16 hK16 => ?_)
  have l22 := rowB_len s
  refine d_call (d := 6) rfl (by kernel_rfl) (wRowL_any w12 r3 a4 c5 ([] : List UInt8) (H13.fin [1, 2] (by decide) rfl) (by simp) (some ⟨b14, 0, none⟩) c15 s (ListAt.ofTxt (H13.at 3 rfl)) (off_txt (fun b hb => H13.offP [1, 2] 3 rfl rfl (by decide) hb)) (by first | omega | simp)) ?_
  rintro _ w17 ⟨a19, c20, rfl, T18⟩
  have H23 : Sat w [restC w (fun _ => False), cellC r3 159 ([(.slice a19 ((([] : List UInt8) ++ rowB s).length) c20)] : List Value), rowC 5 1 (.slice a19 ((([] : List UInt8) ++ rowB s).length) c20) ((([] : List UInt8) ++ rowB s).length) ((([] : List UInt8) ++ rowB s).flatMap encB), txtC (.slice (some ⟨b14, 0, none⟩) s.length c15) s] w17 := (Sat.turnL (L' := [cellC r3 159 ([(.slice a19 ((([] : List UInt8) ++ rowB s).length) c20)] : List Value), rowC 5 1 (.slice a19 ((([] : List UInt8) ++ rowB s).length) c20) ((([] : List UInt8) ++ rowB s).length) ((([] : List UInt8) ++ rowB s).flatMap encB)]) (R := [restC w (fun _ => False), txtC (.slice (some ⟨b14, 0, none⟩) s.length c15) s]) H13 [1, 2] [0, 3] (by decide) (by kernel_rfl) rfl T18).pick [2, 0, 1, 3] (by decide)
  refine ⟨_, rfl, ?_⟩
  refine hK16 _ _ ?_
  clear hK16 K16
  refine wl_pure (wants0 rfl) (d := 2) (v := (.pointer (some ⟨r3, 0, none⟩))) rfl (by kernel_rfl) ?_
  refine w_nil ?_
  refine then_normal ?_
  refine w_ret ?_
  refine end1 rfl (res_tmp (v := (.pointer (some ⟨r3, 0, none⟩))) rfl) ?_
  have hX : (([] : List UInt8) ++ rowB s) = rowB s := by exact List.nil_append _
  exact ⟨r3, a19, c20, rfl, (by rw [← hX]; exact H23.fin [1, 2] (by decide) rfl), H23.upd 0 rfl [] (fun _ h => h.elim), (by rw [← hX]; exact H23.freshS 0 rfl (fun _ h => h) [1, 2] rfl rfl)⟩

set_option maxRecDepth 100000 in
set_option maxHeartbeats 400000 in
theorem wDenyText_any (w : World) (s : DenyD) (hs : s.r ≤ 9223372036854775807 ∧ s.i ≤ 9223372036854775807) :
    Calls Try.prog 39 #[(.agg ⟨([(.int .i64 (s.r)), (.int .i64 (s.i)), (.int .i64 (s.sb)), (.int .i64 (s.sm))] : List Value)⟩)] w fun e w' => ∃ u, e = .returned u ∧ (rowC 5 1 u (denyB s.r s.i).length ((denyB s.r s.i).flatMap encB)).ok w' ∧ Upd [] w w' ∧ ∀ q_, (rowC 5 1 u (denyB s.r s.i).length ((denyB s.r s.i).flatMap encB)).fp q_ → w.heap.size ≤ q_ := by
  have H := Sat.start0 w
  refine calls_fr Try.func39 rfl 11 rfl (Nat.le_of_ble_eq_true rfl) ?_
  refine w_seq ?_
  refine w_lit ?_
  refine wl_do (wants0 rfl) (fun K1 hK1 => ?_)
  refine d_box (vs := ([(.int .i64 (s.r)), (.int .i64 (s.i)), (.int .i64 (s.sb)), (.int .i64 (s.sm))] : List Value)) rfl H rfl rfl ?_
  intro b2 w3 (H4 : Sat w [restC w (fun _ => False), cellC b2 79 ([(.int .i64 (s.r)), (.int .i64 (s.i)), (.int .i64 (s.sb)), (.int .i64 (s.sm))] : List Value)] w3)
  refine hK1 _ _ ?_
  clear hK1 K1
  refine wl_pure (wants0 rfl) (d := 2) (v := (.slice none 0 0)) rfl (by kernel_rfl) ?_
  refine w_nil ?_
  refine then_normal ?_
  refine w_seq ?_
  refine h_start H4 [restC w (fun _ => False), cellC b2 79 ([(.int .i64 (s.r)), (.int .i64 (s.i)), (.int .i64 (s.sb)), (.int .i64 (s.sm))] : List Value)] 9 rfl (by kernel_rfl) (fun Hx => (Hx.pick [0, 1] (by decide))) ?_
  intro w5 H6 S7
  refine h_val 1 rfl (by kernel_rfl) (by kernel_rfl) (by kernel_rfl) (fun _ _ _ h => h) S7 (wants0 rfl) (d := 4) (v := (.pointer (some ⟨b2, 0, none⟩))) rfl (fun _ H' => (by kernel_rfl)) ?_
  refine h_val 2 rfl (by kernel_rfl) (by kernel_rfl) (by kernel_rfl) (fun _ _ _ h => h) S7 (wants0 rfl) (d := 5) (v := (.int .i64 (s.r))) rfl (fun _ H' => (e_load1 rfl (by kernel_rfl) (H'.cell 1 rfl rfl))) ?_
  refine h_val 4 rfl (by kernel_rfl) (by kernel_rfl) (by kernel_rfl) (fun _ _ _ h => h) S7 (wants0 rfl) (d := 7) (v := (.pointer (some ⟨b2, 1, none⟩))) rfl (fun _ H' => (by kernel_rfl)) ?_
  refine h_val 5 rfl (by kernel_rfl) (by kernel_rfl) (by kernel_rfl) (fun _ _ _ h => h) S7 (wants0 rfl) (d := 8) (v := (.int .i64 (s.i))) rfl (fun _ H' => (e_load1 rfl (by kernel_rfl) (H'.cell 1 rfl rfl))) ?_
  refine h_do 0 rfl (by kernel_rfl) (wants0 rfl) (fun K8 hK8 => ?_)
  refine d_call (d := 3) rfl (by kernel_rfl) (wText_any w5 ([100, 101, 110, 121]) (by decide)) ?_
  rintro _ w9 ⟨r10, a11, c12, rfl, k13, p14, q15⟩
  have H16 : Sat w [restC w (fun _ => False), cellC b2 79 ([(.int .i64 (s.r)), (.int .i64 (s.i)), (.int .i64 (s.sb)), (.int .i64 (s.sm))] : List Value), sepC (wrL r10 a11 c12 (rowB ([100, 101, 110, 121])))] w9 := H6.addU p14 k13 q15
  have H17 : Sat w [restC w (fun _ => False), cellC b2 79 ([(.int .i64 (s.r)), (.int .i64 (s.i)), (.int .i64 (s.sb)), (.int .i64 (s.sm))] : List Value), cellC r10 159 ([(.slice a11 ((rowB ([100, 101, 110, 121])).length) c12)] : List Value), rowC 5 1 (.slice a11 ((rowB ([100, 101, 110, 121])).length) c12) ((rowB ([100, 101, 110, 121])).length) ((rowB ([100, 101, 110, 121])).flatMap encB)] w9 := H16.open 2 rfl
  refine ⟨_, rfl, ?_⟩
  have l18 := (show (rowB [100, 101, 110, 121]).length ≤ 14 from rowB_len _)
  have S19 := H17.pick [0, 1] (by decide)
  refine hK8 _ _ S19 ?_
  clear hK8 K8
  refine h_do 3 rfl (by kernel_rfl) (wants0 rfl) (fun K20 hK20 => ?_)
  have l26 := intB_len s.r
  refine d_call (d := 6) rfl (by kernel_rfl) (wInt_any w9 r10 a11 c12 (rowB ([100, 101, 110, 121])) (H17.fin [2, 3] (by decide) rfl) (by omega) s.r (by omega)) ?_
  rintro _ w21 ⟨a23, c24, rfl, T22⟩
  have H27 : Sat w [restC w (fun _ => False), cellC b2 79 ([(.int .i64 (s.r)), (.int .i64 (s.i)), (.int .i64 (s.sb)), (.int .i64 (s.sm))] : List Value), cellC r10 159 ([(.slice a23 (((rowB ([100, 101, 110, 121])) ++ intB s.r).length) c24)] : List Value), rowC 5 1 (.slice a23 (((rowB ([100, 101, 110, 121])) ++ intB s.r).length) c24) (((rowB ([100, 101, 110, 121])) ++ intB s.r).length) (((rowB ([100, 101, 110, 121])) ++ intB s.r).flatMap encB)] w21 := (Sat.turnL (L' := [cellC r10 159 ([(.slice a23 (((rowB ([100, 101, 110, 121])) ++ intB s.r).length) c24)] : List Value), rowC 5 1 (.slice a23 (((rowB ([100, 101, 110, 121])) ++ intB s.r).length) c24) (((rowB ([100, 101, 110, 121])) ++ intB s.r).length) (((rowB ([100, 101, 110, 121])) ++ intB s.r).flatMap encB)]) (R := [restC w (fun _ => False), cellC b2 79 ([(.int .i64 (s.r)), (.int .i64 (s.i)), (.int .i64 (s.sb)), (.int .i64 (s.sm))] : List Value)]) H17 [2, 3] [0, 1] (by decide) (by kernel_rfl) rfl T22).pick [2, 3, 0, 1] (by decide)
  refine ⟨_, rfl, ?_⟩
  have S28 := H27.pick [0, 1] (by decide)
  refine hK20 _ _ S28 ?_
  clear hK20 K20
  refine h_do 6 rfl (by kernel_rfl) (wants0 rfl) (fun K29 hK29 => ?_)
  have l35 := intB_len s.i
  refine d_call (d := 9) rfl (by kernel_rfl) (wInt_any w21 r10 a23 c24 ((rowB ([100, 101, 110, 121])) ++ intB s.r) (H27.fin [2, 3] (by decide) rfl) (by simp only [List.length_append, List.length_nil]; omega) s.i (by omega)) ?_
  rintro _ w30 ⟨a32, c33, rfl, T31⟩
  have H36 : Sat w [restC w (fun _ => False), cellC b2 79 ([(.int .i64 (s.r)), (.int .i64 (s.i)), (.int .i64 (s.sb)), (.int .i64 (s.sm))] : List Value), cellC r10 159 ([(.slice a32 ((((rowB ([100, 101, 110, 121])) ++ intB s.r) ++ intB s.i).length) c33)] : List Value), rowC 5 1 (.slice a32 ((((rowB ([100, 101, 110, 121])) ++ intB s.r) ++ intB s.i).length) c33) ((((rowB ([100, 101, 110, 121])) ++ intB s.r) ++ intB s.i).length) ((((rowB ([100, 101, 110, 121])) ++ intB s.r) ++ intB s.i).flatMap encB)] w30 := (Sat.turnL (L' := [cellC r10 159 ([(.slice a32 ((((rowB ([100, 101, 110, 121])) ++ intB s.r) ++ intB s.i).length) c33)] : List Value), rowC 5 1 (.slice a32 ((((rowB ([100, 101, 110, 121])) ++ intB s.r) ++ intB s.i).length) c33) ((((rowB ([100, 101, 110, 121])) ++ intB s.r) ++ intB s.i).length) ((((rowB ([100, 101, 110, 121])) ++ intB s.r) ++ intB s.i).flatMap encB)]) (R := [restC w (fun _ => False), cellC b2 79 ([(.int .i64 (s.r)), (.int .i64 (s.i)), (.int .i64 (s.sb)), (.int .i64 (s.sm))] : List Value)]) H27 [2, 3] [0, 1] (by decide) (by kernel_rfl) rfl T31).pick [2, 3, 0, 1] (by decide)
  refine ⟨_, rfl, ?_⟩
  have S37 := H36.pick [0, 1] (by decide)
  refine hK29 _ _ S37 ?_
  clear hK29 K29
  refine h_do 7 rfl (by kernel_rfl) (wants0 rfl) (fun K38 hK38 => ?_)
  refine d_call (d := 10) rfl (by kernel_rfl) (wBytes_any w30 r10 a32 c33 (((rowB ([100, 101, 110, 121])) ++ intB s.r) ++ intB s.i) (H36.fin [2, 3] (by decide) rfl) (by simp only [List.length_append, List.length_nil]; omega)) ?_
  rintro _ w39 ⟨u40, rfl, T41⟩
  have H42 : Sat w [restC w (fun _ => False), cellC b2 79 ([(.int .i64 (s.r)), (.int .i64 (s.i)), (.int .i64 (s.sb)), (.int .i64 (s.sm))] : List Value), cellC r10 159 ([(.slice a32 ((((rowB ([100, 101, 110, 121])) ++ intB s.r) ++ intB s.i).length) c33)] : List Value), rowC 5 1 (.slice a32 ((((rowB ([100, 101, 110, 121])) ++ intB s.r) ++ intB s.i).length) c33) ((((rowB ([100, 101, 110, 121])) ++ intB s.r) ++ intB s.i).length) ((((rowB ([100, 101, 110, 121])) ++ intB s.r) ++ intB s.i).flatMap encB), rowC 5 1 u40 ((((rowB ([100, 101, 110, 121])) ++ intB s.r) ++ intB s.i).length) ((((rowB ([100, 101, 110, 121])) ++ intB s.r) ++ intB s.i).flatMap encB)] w39 := (Sat.turnL (L' := [cellC r10 159 ([(.slice a32 ((((rowB ([100, 101, 110, 121])) ++ intB s.r) ++ intB s.i).length) c33)] : List Value), rowC 5 1 (.slice a32 ((((rowB ([100, 101, 110, 121])) ++ intB s.r) ++ intB s.i).length) c33) ((((rowB ([100, 101, 110, 121])) ++ intB s.r) ++ intB s.i).length) ((((rowB ([100, 101, 110, 121])) ++ intB s.r) ++ intB s.i).flatMap encB), rowC 5 1 u40 ((((rowB ([100, 101, 110, 121])) ++ intB s.r) ++ intB s.i).length) ((((rowB ([100, 101, 110, 121])) ++ intB s.r) ++ intB s.i).flatMap encB)]) (R := [restC w (fun _ => False), cellC b2 79 ([(.int .i64 (s.r)), (.int .i64 (s.i)), (.int .i64 (s.sb)), (.int .i64 (s.sm))] : List Value)]) H36 [2, 3] [0, 1] (by decide) (by kernel_rfl) rfl T41).pick [3, 4, 0, 1, 2] (by decide)
  obtain ⟨a43, c44, rfl⟩ := ownsRow_shape (H42.at 4 rfl)
  refine ⟨_, rfl, ?_⟩
  have S45 := H42.pick [0, 1] (by decide)
  refine hK38 _ _ S45 ?_
  clear hK38 K38
  refine h_val 8 rfl (by kernel_rfl) (by kernel_rfl) (by kernel_rfl) (fun _ _ _ h => h) S45 (wants0 rfl) (d := 2) (v := (.slice a43 (((rowB ([100, 101, 110, 121])) ++ intB s.r) ++ intB s.i).length c44)) rfl (fun _ H' => (by kernel_rfl)) ?_
  refine h_fin (by kernel_rfl) ?_
  refine then_normal ?_
  refine w_ret ?_
  refine end1 rfl (res_tmp (v := (.slice a43 (((rowB ([100, 101, 110, 121])) ++ intB s.r) ++ intB s.i).length c44)) rfl) ?_
  have hX : (((rowB ([100, 101, 110, 121])) ++ intB s.r) ++ intB s.i) = denyB s.r s.i := by simp only [denyB, List.flatten_cons, List.flatten_nil, List.append_nil, List.append_assoc, List.nil_append]
  exact ⟨_, rfl, (by rw [← hX]; exact H42.at 4 rfl), H42.upd 0 rfl [] (fun _ h => h.elim), (by rw [← hX]; exact H42.fresh 0 rfl (fun _ h => h) 4 rfl rfl)⟩

set_option maxRecDepth 100000 in
set_option maxHeartbeats 400000 in
theorem rDenyText_any (w : World) (s : DenyD) (hs : s.r ≤ 9223372036854775807 ∧ s.i ≤ 9223372036854775807) :
    Calls Try.prog 15 #[(.agg ⟨([(.int .i64 (s.r)), (.int .i64 (s.i)), (.int .i64 (s.sb)), (.int .i64 (s.sm))] : List Value)⟩)] w fun e w' => ∃ u, e = .returned u ∧ (rowC 5 1 u (denyB s.r s.i).length ((denyB s.r s.i).flatMap encB)).ok w' ∧ Upd [] w w' ∧ ∀ q_, (rowC 5 1 u (denyB s.r s.i).length ((denyB s.r s.i).flatMap encB)).fp q_ → w.heap.size ≤ q_ := by
  have H := Sat.start0 w
  refine calls_fr Try.func15 rfl 14 rfl (Nat.le_of_ble_eq_true rfl) ?_
  refine w_seq ?_
  refine w_lit ?_
  refine wl_do (wants0 rfl) (fun K1 hK1 => ?_)
  refine d_box (vs := ([(.int .i64 (s.r)), (.int .i64 (s.i)), (.int .i64 (s.sb)), (.int .i64 (s.sm))] : List Value)) rfl H rfl rfl ?_
  intro b2 w3 (H4 : Sat w [restC w (fun _ => False), cellC b2 79 ([(.int .i64 (s.r)), (.int .i64 (s.i)), (.int .i64 (s.sb)), (.int .i64 (s.sm))] : List Value)] w3)
  refine hK1 _ _ ?_
  clear hK1 K1
  refine wl_pure (wants0 rfl) (d := 2) (v := (.slice none 0 0)) rfl (by kernel_rfl) ?_
  refine w_nil ?_
  refine then_normal ?_
  refine w_seq ?_
  refine h_start H4 [restC w (fun _ => False), cellC b2 79 ([(.int .i64 (s.r)), (.int .i64 (s.i)), (.int .i64 (s.sb)), (.int .i64 (s.sm))] : List Value)] 12 rfl (by kernel_rfl) (fun Hx => (Hx.pick [0, 1] (by decide))) ?_
  intro w5 H6 S7
  refine h_val 3 rfl (by kernel_rfl) (by kernel_rfl) (by kernel_rfl) (fun _ _ _ h => h) S7 (wants0 rfl) (d := 6) (v := (.pointer (some ⟨b2, 0, none⟩))) rfl (fun _ H' => (by kernel_rfl)) ?_
  refine h_val 4 rfl (by kernel_rfl) (by kernel_rfl) (by kernel_rfl) (fun _ _ _ h => h) S7 (wants0 rfl) (d := 7) (v := (.int .i64 (s.r))) rfl (fun _ H' => (e_load1 rfl (by kernel_rfl) (H'.cell 1 rfl rfl))) ?_
  refine h_val 6 rfl (by kernel_rfl) (by kernel_rfl) (by kernel_rfl) (fun _ _ _ h => h) S7 (wants0 rfl) (d := 9) (v := (.pointer (some ⟨b2, 1, none⟩))) rfl (fun _ H' => (by kernel_rfl)) ?_
  refine h_val 7 rfl (by kernel_rfl) (by kernel_rfl) (by kernel_rfl) (fun _ _ _ h => h) S7 (wants0 rfl) (d := 10) (v := (.int .i64 (s.i))) rfl (fun _ H' => (e_load1 rfl (by kernel_rfl) (H'.cell 1 rfl rfl))) ?_
  refine h_do 0 rfl (by kernel_rfl) (wants0 rfl) (fun K8 hK8 => ?_)
  refine d_buildSlice (e := 5) (size := 1) (bytes := 1) (z := (.int .u8 (0))) (pvs := [(0, (.int .u8 (100))), (1, (.int .u8 (101))), (2, (.int .u8 (110))), (3, (.int .u8 (121)))]) (vs := ([(.int .u8 (100)), (.int .u8 (101)), (.int .u8 (110)), (.int .u8 (121))] : List Value)) rfl H6 (by kernel_rfl) (by kernel_rfl) (by kernel_rfl) (by kernel_rfl) (by kernel_rfl) rfl rfl ?_
  intro b9 w10 (H11 : Sat w [restC w (fun _ => False), cellC b2 79 ([(.int .i64 (s.r)), (.int .i64 (s.i)), (.int .i64 (s.sb)), (.int .i64 (s.sm))] : List Value), rowC 5 1 (.slice (some ⟨b9, 0, none⟩) 4 4) 4 ([(.int .u8 (100)), (.int .u8 (101)), (.int .u8 (110)), (.int .u8 (121))] : List Value)] w10)
  have H12 : Sat w [restC w (fun _ => False), cellC b2 79 ([(.int .i64 (s.r)), (.int .i64 (s.i)), (.int .i64 (s.sb)), (.int .i64 (s.sm))] : List Value), rowC 5 1 (.slice (some ⟨b9, 0, none⟩) 4 4) 4 ([100, 101, 110, 121].flatMap encB)] w10 := H11.cast (by rw [show (([(.int .u8 (100)), (.int .u8 (101)), (.int .u8 (110)), (.int .u8 (121))] : List Value) : List Value) = [100, 101, 110, 121].flatMap encB from rfl])
  have S13 := H12.pick [0, 1] (by decide)
  refine hK8 _ _ S13 ?_
  clear hK8 K8
  refine h_do 1 rfl (by kernel_rfl) (wants0 rfl) (fun K14 hK14 => ?_)
  refine d_convMark (e := 5) (s := [100, 101, 110, 121]) rfl H12 2 rfl (by kernel_rfl) (by kernel_rfl) rfl ?_
  intro w15 (H16 : Sat w [restC w (fun _ => False), cellC b2 79 ([(.int .i64 (s.r)), (.int .i64 (s.i)), (.int .i64 (s.sb)), (.int .i64 (s.sm))] : List Value), txtC (.slice (some ⟨b9, 0, none⟩) 4 4) ([100, 101, 110, 121])] w15)
  have S17 := H16.pick [0, 1] (by decide)
  refine hK14 _ _ S17 ?_
  clear hK14 K14
  refine h_do 2 rfl (by kernel_rfl) (wants0 rfl) (fun K18 hK18 => ?_)
  refine d_call (d := 5) rfl (by kernel_rfl) (rRow_any w15 (.slice (some ⟨b9, 0, none⟩) 4 4) ([100, 101, 110, 121]) (ListAt.ofTxt (H16.at 2 rfl)) (by simp)) ?_
  rintro _ w19 ⟨u20, rfl, k21, p22, q23⟩
  have H24 : Sat w [restC w (fun _ => False), cellC b2 79 ([(.int .i64 (s.r)), (.int .i64 (s.i)), (.int .i64 (s.sb)), (.int .i64 (s.sm))] : List Value), txtC (.slice (some ⟨b9, 0, none⟩) 4 4) ([100, 101, 110, 121]), rowC 5 1 u20 ((rowB ([100, 101, 110, 121])).length) ((rowB ([100, 101, 110, 121])).flatMap encB)] w19 := H16.addU p22 k21 q23
  obtain ⟨a25, c26, rfl⟩ := ownsRow_shape (H24.at 3 rfl)
  refine ⟨_, rfl, ?_⟩
  have S27 := H24.pick [0, 1] (by decide)
  refine hK18 _ _ S27 ?_
  clear hK18 K18
  refine h_do 5 rfl (by kernel_rfl) (wants0 rfl) (fun K28 hK28 => ?_)
  refine d_call (d := 8) rfl (by kernel_rfl) (rInt_any w19 s.r (by omega)) ?_
  rintro _ w29 ⟨u30, rfl, k31, p32, q33⟩
  have H34 : Sat w [restC w (fun _ => False), cellC b2 79 ([(.int .i64 (s.r)), (.int .i64 (s.i)), (.int .i64 (s.sb)), (.int .i64 (s.sm))] : List Value), txtC (.slice (some ⟨b9, 0, none⟩) 4 4) ([100, 101, 110, 121]), rowC 5 1 (.slice a25 ((rowB ([100, 101, 110, 121])).length) c26) ((rowB ([100, 101, 110, 121])).length) ((rowB ([100, 101, 110, 121])).flatMap encB), rowC 5 1 u30 ((intB s.r).length) ((intB s.r).flatMap encB)] w29 := H24.addU p32 k31 q33
  obtain ⟨a35, c36, rfl⟩ := ownsRow_shape (H34.at 4 rfl)
  refine ⟨_, rfl, ?_⟩
  have S37 := H34.pick [0, 1] (by decide)
  refine hK28 _ _ S37 ?_
  clear hK28 K28
  refine h_do 8 rfl (by kernel_rfl) (wants0 rfl) (fun K38 hK38 => ?_)
  refine d_call (d := 11) rfl (by kernel_rfl) (rInt_any w29 s.i (by omega)) ?_
  rintro _ w39 ⟨u40, rfl, k41, p42, q43⟩
  have H44 : Sat w [restC w (fun _ => False), cellC b2 79 ([(.int .i64 (s.r)), (.int .i64 (s.i)), (.int .i64 (s.sb)), (.int .i64 (s.sm))] : List Value), txtC (.slice (some ⟨b9, 0, none⟩) 4 4) ([100, 101, 110, 121]), rowC 5 1 (.slice a25 ((rowB ([100, 101, 110, 121])).length) c26) ((rowB ([100, 101, 110, 121])).length) ((rowB ([100, 101, 110, 121])).flatMap encB), rowC 5 1 (.slice a35 ((intB s.r).length) c36) ((intB s.r).length) ((intB s.r).flatMap encB), rowC 5 1 u40 ((intB s.i).length) ((intB s.i).flatMap encB)] w39 := H34.addU p42 k41 q43
  obtain ⟨a45, c46, rfl⟩ := ownsRow_shape (H44.at 5 rfl)
  refine ⟨_, rfl, ?_⟩
  have S47 := H44.pick [0, 1] (by decide)
  refine hK38 _ _ S47 ?_
  clear hK38 K38
  refine h_do 9 rfl (by kernel_rfl) (wants0 rfl) (fun K48 hK48 => ?_)
  refine d_buildSlice (e := 81) (size := 1) (bytes := 24) (z := (.slice none 0 0)) (pvs := [(0, (.slice a25 ((rowB ([100, 101, 110, 121])).length) c26)), (1, (.slice a35 ((intB s.r).length) c36)), (2, (.slice a45 ((intB s.i).length) c46))]) (vs := ([(.slice a25 ((rowB ([100, 101, 110, 121])).length) c26), (.slice a35 ((intB s.r).length) c36), (.slice a45 ((intB s.i).length) c46)] : List Value)) rfl H44 (by kernel_rfl) (by kernel_rfl) (by kernel_rfl) (by kernel_rfl) (by kernel_rfl) rfl rfl ?_
  intro b49 w50 (H51 : Sat w [restC w (fun _ => False), cellC b2 79 ([(.int .i64 (s.r)), (.int .i64 (s.i)), (.int .i64 (s.sb)), (.int .i64 (s.sm))] : List Value), txtC (.slice (some ⟨b9, 0, none⟩) 4 4) ([100, 101, 110, 121]), rowC 5 1 (.slice a25 ((rowB ([100, 101, 110, 121])).length) c26) ((rowB ([100, 101, 110, 121])).length) ((rowB ([100, 101, 110, 121])).flatMap encB), rowC 5 1 (.slice a35 ((intB s.r).length) c36) ((intB s.r).length) ((intB s.r).flatMap encB), rowC 5 1 (.slice a45 ((intB s.i).length) c46) ((intB s.i).length) ((intB s.i).flatMap encB), rowC 81 1 (.slice (some ⟨b49, 0, none⟩) 3 3) 3 ([(.slice a25 ((rowB ([100, 101, 110, 121])).length) c26), (.slice a35 ((intB s.r).length) c36), (.slice a45 ((intB s.i).length) c46)] : List Value)] w50)
  have S52 := H51.pick [0, 1] (by decide)
  refine hK48 _ _ S52 ?_
  clear hK48 K48
  refine h_do 10 rfl (by kernel_rfl) (wants0 rfl) (fun K53 hK53 => ?_)
  have l54 := rowB_len ([100, 101, 110, 121])
  simp only [List.length_cons, List.length_nil] at l54
  have l55 := intB_len s.r
  have l56 := intB_len s.i
  refine d_call (d := 13) rfl (by kernel_rfl) (rJoin_any w50 (.slice (some ⟨b49, 0, none⟩) 3 3) [(.slice a25 ((rowB ([100, 101, 110, 121])).length) c26), (.slice a35 ((intB s.r).length) c36), (.slice a45 ((intB s.i).length) c46)] [(rowB ([100, 101, 110, 121])), (intB s.r), (intB s.i)] (ListAt.row (enc := encW) (sz := 1) (xs := [(.slice a25 ((rowB ([100, 101, 110, 121])).length) c26), (.slice a35 ((intB s.r).length) c36), (.slice a45 ((intB s.i).length) c46)]) encW_len (by decide) (H51.at 6 rfl)) (Parts.cons (ListAt.row (enc := encB) (sz := 1) encB_len (by decide) (H51.at 3 rfl)) (Parts.cons (ListAt.row (enc := encB) (sz := 1) encB_len (by decide) (H51.at 4 rfl)) (Parts.cons (ListAt.row (enc := encB) (sz := 1) encB_len (by decide) (H51.at 5 rfl)) Parts.nil))) (by simp only [List.flatten_cons, List.flatten_nil, List.length_append, List.length_nil]; omega) (by simp)) ?_
  rintro _ w57 ⟨u58, rfl, k59, p60, q61⟩
  have H62 : Sat w [restC w (fun _ => False), cellC b2 79 ([(.int .i64 (s.r)), (.int .i64 (s.i)), (.int .i64 (s.sb)), (.int .i64 (s.sm))] : List Value), txtC (.slice (some ⟨b9, 0, none⟩) 4 4) ([100, 101, 110, 121]), rowC 5 1 (.slice a25 ((rowB ([100, 101, 110, 121])).length) c26) ((rowB ([100, 101, 110, 121])).length) ((rowB ([100, 101, 110, 121])).flatMap encB), rowC 5 1 (.slice a35 ((intB s.r).length) c36) ((intB s.r).length) ((intB s.r).flatMap encB), rowC 5 1 (.slice a45 ((intB s.i).length) c46) ((intB s.i).length) ((intB s.i).flatMap encB), rowC 81 1 (.slice (some ⟨b49, 0, none⟩) 3 3) 3 ([(.slice a25 ((rowB ([100, 101, 110, 121])).length) c26), (.slice a35 ((intB s.r).length) c36), (.slice a45 ((intB s.i).length) c46)] : List Value), rowC 5 1 u58 (([(rowB ([100, 101, 110, 121])), (intB s.r), (intB s.i)].flatten).length) (([(rowB ([100, 101, 110, 121])), (intB s.r), (intB s.i)].flatten).flatMap encB)] w57 := H51.addU p60 k59 q61
  obtain ⟨a63, c64, rfl⟩ := ownsRow_shape (H62.at 7 rfl)
  refine ⟨_, rfl, ?_⟩
  have S65 := H62.pick [0, 1] (by decide)
  refine hK53 _ _ S65 ?_
  clear hK53 K53
  refine h_val 11 rfl (by kernel_rfl) (by kernel_rfl) (by kernel_rfl) (fun _ _ _ h => h) S65 (wants0 rfl) (d := 2) (v := (.slice a63 (([(rowB ([100, 101, 110, 121])), (intB s.r), (intB s.i)].flatten).length) c64)) rfl (fun _ H' => (by kernel_rfl)) ?_
  refine h_fin (by kernel_rfl) ?_
  refine then_normal ?_
  refine w_ret ?_
  refine end1 rfl (res_tmp (v := (.slice a63 (([(rowB ([100, 101, 110, 121])), (intB s.r), (intB s.i)].flatten).length) c64)) rfl) ?_
  have hX : ([(rowB ([100, 101, 110, 121])), (intB s.r), (intB s.i)].flatten) = denyB s.r s.i := by rfl
  exact ⟨_, rfl, (by rw [← hX]; exact H62.at 7 rfl), H62.upd 0 rfl [] (fun _ h => h.elim), (by rw [← hX]; exact H62.fresh 0 rfl (fun _ h => h) 7 rfl rfl)⟩

end Go.Proofs.Ytenihpghfdcpkaa
