/- WHAT IS PROVED: contracts and plain laws of Wt2. Conditions: stated with each. -/
import Derived.Test.YtoaifondpohniaaGreatPS07
set_option maxHeartbeats 4000000
set_option maxRecDepth 100000
namespace Go.Proofs.YtoaifondpohniaaGreat
open Go.RowKit
theorem Z40 (w : World) (s : Zd) (hs : (s.r ≤ 9223372036854775807 ∧ s.cl ≤ 9223372036854775807 ∧ s.seq ≤ 9223372036854775807 ∧ 0 ≤ s.t ∧ s.t < 18446744073709551616)) :
  Calls Tryz.prog 113 #[(.agg ⟨(([(.int .i64 (s.r)), (.int .i64 (s.cl)), (.int .i64 (s.seq))] : List Value) ++ hc s.h ++ ([(.int .u64 (s.t)), (.int .i64 (s.sb)), (.int .i64 (s.sm))] : List Value))⟩)] w fun e w' => ∃ u, e = .returned u ∧ (Zb 5 1 u (Zw s).length ((Zw s).flatMap Zr)).ok w' ∧ Upd [] w w' ∧ ∀ q_, (Zb 5 1 u (Zw s).length ((Zw s).flatMap Zr)).fp q_ → w.heap.size ≤ q_ := by
 have H := Sat.start0 w
 refine ZE Tryz.func113 rfl 20 rfl (Nat.le_of_ble_eq_true rfl) ?_
 refine Zc ?_
 refine Zp ?_
 refine ZA (Z1 rfl) (fun K1 hK1 => ?_)
 refine Z0H (vs := (([(.int .i64 (s.r)), (.int .i64 (s.cl)), (.int .i64 (s.seq))] : List Value) ++ hc s.h ++ ([(.int .u64 (s.t)), (.int .i64 (s.sb)), (.int .i64 (s.sm))] : List Value))) rfl H rfl rfl ?_
 intro b2 w3 (H4 : Sat w [Z6 w (fun _ => False), Z3 b2 101 (([(.int .i64 (s.r)), (.int .i64 (s.cl)), (.int .i64 (s.seq))] : List Value) ++ hc s.h ++ ([(.int .u64 (s.t)), (.int .i64 (s.sb)), (.int .i64 (s.sm))] : List Value))] w3)
 refine hK1 _ _ ?_
 clear hK1 K1
 refine Z2 (Z1 rfl) (d := 2) (v := (.slice none 0 0)) rfl (by kernel_rfl) ?_
 refine Zm ?_
 refine Z4 ?_
 refine Zc ?_
 refine Z0k H4 [Z6 w (fun _ => False), Z3 b2 101 (([(.int .i64 (s.r)), (.int .i64 (s.cl)), (.int .i64 (s.seq))] : List Value) ++ hc s.h ++ ([(.int .u64 (s.t)), (.int .i64 (s.sb)), (.int .i64 (s.sm))] : List Value))] 5 rfl (by kernel_rfl) (fun Hx => (Hx.pick [0, 1] (by decide))) ?_
 intro w5 H6 S7
 refine Ze 1 rfl (by kernel_rfl) (by kernel_rfl) (by kernel_rfl) (fun _ _ _ h => h) S7 (Z1 rfl) (d := 5) (v := (.pointer (some ⟨b2, 0, none⟩))) rfl (fun _ H' => (by kernel_rfl)) ?_
 refine Ze 2 rfl (by kernel_rfl) (by kernel_rfl) (by kernel_rfl) (fun _ _ _ h => h) S7 (Z1 rfl) (d := 6) (v := (.int .i64 (s.r))) rfl (fun _ H' => (Zi rfl (by kernel_rfl) (H'.cell 1 rfl (by kernel_rfl)))) ?_
 refine Z0r 0 rfl (by kernel_rfl) (Z1 rfl) (fun K8 hK8 => ?_)
 refine Zv (d := 4) rfl (by kernel_rfl) (Z3K w5 ([115, 116, 97, 109, 112]) (by decide)) ?_
 rintro _ w9 ⟨r10, a11, c12, rfl, k13, p14, q15⟩
 have H16 : Sat w [Z6 w (fun _ => False), Z3 b2 101 (([(.int .i64 (s.r)), (.int .i64 (s.cl)), (.int .i64 (s.seq))] : List Value) ++ hc s.h ++ ([(.int .u64 (s.t)), (.int .i64 (s.sb)), (.int .i64 (s.sm))] : List Value)), ZH (wrL r10 a11 c12 (Zu ([115, 116, 97, 109, 112])))] w9 := H6.addU p14 k13 q15
 have H17 : Sat w [Z6 w (fun _ => False), Z3 b2 101 (([(.int .i64 (s.r)), (.int .i64 (s.cl)), (.int .i64 (s.seq))] : List Value) ++ hc s.h ++ ([(.int .u64 (s.t)), (.int .i64 (s.sb)), (.int .i64 (s.sm))] : List Value)), Z3 r10 174 ([(.slice a11 ((Zu ([115, 116, 97, 109, 112])).length) c12)] : List Value), Zb 5 1 (.slice a11 ((Zu ([115, 116, 97, 109, 112])).length) c12) ((Zu ([115, 116, 97, 109, 112])).length) ((Zu ([115, 116, 97, 109, 112])).flatMap Zr)] w9 := H16.open 2 rfl
 refine ⟨_, rfl, ?_⟩
 have l18 := (show (Zu [115, 116, 97, 109, 112]).length ≤ 15 from Z0P _)
 have S19 := H17.pick [0, 1] (by decide)
 refine hK8 _ _ S19 ?_
 clear hK8 K8
 refine Z0r 3 rfl (by kernel_rfl) (Z1 rfl) (fun K20 hK20 => ?_)
 have l26 := ZN s.r
 refine Zv (d := 7) rfl (by kernel_rfl) (Z0z w9 r10 a11 c12 (Zu ([115, 116, 97, 109, 112])) (H17.fin [2, 3] (by decide) rfl) (by omega) s.r (by omega)) ?_
 rintro _ w21 ⟨a23, c24, rfl, T22⟩
 have H27 : Sat w [Z6 w (fun _ => False), Z3 b2 101 (([(.int .i64 (s.r)), (.int .i64 (s.cl)), (.int .i64 (s.seq))] : List Value) ++ hc s.h ++ ([(.int .u64 (s.t)), (.int .i64 (s.sb)), (.int .i64 (s.sm))] : List Value)), Z3 r10 174 ([(.slice a23 (((Zu ([115, 116, 97, 109, 112])) ++ Z9 s.r).length) c24)] : List Value), Zb 5 1 (.slice a23 (((Zu ([115, 116, 97, 109, 112])) ++ Z9 s.r).length) c24) (((Zu ([115, 116, 97, 109, 112])) ++ Z9 s.r).length) (((Zu ([115, 116, 97, 109, 112])) ++ Z9 s.r).flatMap Zr)] w21 := (Sat.turnL (L' := [Z3 r10 174 ([(.slice a23 (((Zu ([115, 116, 97, 109, 112])) ++ Z9 s.r).length) c24)] : List Value), Zb 5 1 (.slice a23 (((Zu ([115, 116, 97, 109, 112])) ++ Z9 s.r).length) c24) (((Zu ([115, 116, 97, 109, 112])) ++ Z9 s.r).length) (((Zu ([115, 116, 97, 109, 112])) ++ Z9 s.r).flatMap Zr)]) (R := [Z6 w (fun _ => False), Z3 b2 101 (([(.int .i64 (s.r)), (.int .i64 (s.cl)), (.int .i64 (s.seq))] : List Value) ++ hc s.h ++ ([(.int .u64 (s.t)), (.int .i64 (s.sb)), (.int .i64 (s.sm))] : List Value))]) H17 [2, 3] [0, 1] (by decide) (by kernel_rfl) rfl T22).pick [2, 3, 0, 1] (by decide)
 refine ⟨_, rfl, ?_⟩
 have S28 := H27.pick [0, 1] (by decide)
 refine hK20 _ _ S28 ?_
 clear hK20 K20
 refine Ze 4 rfl (by kernel_rfl) (by kernel_rfl) (by kernel_rfl) (fun _ _ _ h => h) S28 (Z1 rfl) (d := 3) (v := (.pointer (some ⟨r10, 0, none⟩))) rfl (fun _ H' => (by kernel_rfl)) ?_
 refine Z0C (by kernel_rfl) ?_
 refine Z4 ?_
 refine Zc ?_
 refine Zp ?_
 refine Z2 (Z1 rfl) (d := 8) (v := (.pointer (some ⟨r10, 0, none⟩))) rfl (by kernel_rfl) ?_
 refine Z2 (Z1 rfl) (d := 9) (v := (.pointer (some ⟨b2, 1, none⟩))) rfl (by kernel_rfl) ?_
 refine Z2 (Z1 rfl) (d := 10) (v := (.agg ⟨([(.int .i64 (s.cl)), (.int .i64 (s.seq))] : List Value)⟩)) rfl (ZB (vs := ([(.int .i64 (s.cl)), (.int .i64 (s.seq))] : List Value)) rfl (by kernel_rfl) (by kernel_rfl) (by exact Nat.le_of_ble_eq_true (by kernel_rfl)) (H27.at 1 rfl) (by kernel_rfl)) ?_
 refine ZA (Z1 rfl) (fun K29 hK29 => ?_)
 have l35 := Z1w s.cl s.seq
 refine Zv (d := 11) rfl (by kernel_rfl) (Z2H w21 r10 a23 c24 ((Zu ([115, 116, 97, 109, 112])) ++ Z9 s.r) (H27.fin [2, 3] (by decide) rfl) (by simp only [List.length_append, List.length_nil]; omega) s.cl s.seq (by omega)) ?_
 rintro _ w30 ⟨a32, c33, rfl, T31⟩
 have H36 : Sat w [Z6 w (fun _ => False), Z3 b2 101 (([(.int .i64 (s.r)), (.int .i64 (s.cl)), (.int .i64 (s.seq))] : List Value) ++ hc s.h ++ ([(.int .u64 (s.t)), (.int .i64 (s.sb)), (.int .i64 (s.sm))] : List Value)), Z3 r10 174 ([(.slice a32 ((((Zu ([115, 116, 97, 109, 112])) ++ Z9 s.r) ++ ZD s.cl s.seq).length) c33)] : List Value), Zb 5 1 (.slice a32 ((((Zu ([115, 116, 97, 109, 112])) ++ Z9 s.r) ++ ZD s.cl s.seq).length) c33) ((((Zu ([115, 116, 97, 109, 112])) ++ Z9 s.r) ++ ZD s.cl s.seq).length) ((((Zu ([115, 116, 97, 109, 112])) ++ Z9 s.r) ++ ZD s.cl s.seq).flatMap Zr)] w30 := (Sat.turnL (L' := [Z3 r10 174 ([(.slice a32 ((((Zu ([115, 116, 97, 109, 112])) ++ Z9 s.r) ++ ZD s.cl s.seq).length) c33)] : List Value), Zb 5 1 (.slice a32 ((((Zu ([115, 116, 97, 109, 112])) ++ Z9 s.r) ++ ZD s.cl s.seq).length) c33) ((((Zu ([115, 116, 97, 109, 112])) ++ Z9 s.r) ++ ZD s.cl s.seq).length) ((((Zu ([115, 116, 97, 109, 112])) ++ Z9 s.r) ++ ZD s.cl s.seq).flatMap Zr)]) (R := [Z6 w (fun _ => False), Z3 b2 101 (([(.int .i64 (s.r)), (.int .i64 (s.cl)), (.int .i64 (s.seq))] : List Value) ++ hc s.h ++ ([(.int .u64 (s.t)), (.int .i64 (s.sb)), (.int .i64 (s.sm))] : List Value))]) H27 [2, 3] [0, 1] (by decide) (by kernel_rfl) rfl T31).pick [2, 3, 0, 1] (by decide)
 refine ⟨_, rfl, ?_⟩
 refine hK29 _ _ ?_
 clear hK29 K29
 refine Zm ?_
 refine Z4 ?_
 refine Zc ?_
 refine Z0k H36 [Z6 w (fun _ => False), Z3 b2 101 (([(.int .i64 (s.r)), (.int .i64 (s.cl)), (.int .i64 (s.seq))] : List Value) ++ hc s.h ++ ([(.int .u64 (s.t)), (.int .i64 (s.sb)), (.int .i64 (s.sm))] : List Value))] 9 rfl (by kernel_rfl) (fun Hx => (Hx.pick [0, 1] (by decide))) ?_
 intro w37 H38 S39
 refine Ze 0 rfl (by kernel_rfl) (by kernel_rfl) (by kernel_rfl) (fun _ _ _ h => h) S39 (Z1 rfl) (d := 12) (v := (.pointer (some ⟨r10, 0, none⟩))) rfl (fun _ H' => (by kernel_rfl)) ?_
 refine Ze 1 rfl (by kernel_rfl) (by kernel_rfl) (by kernel_rfl) (fun _ _ _ h => h) S39 (Z1 rfl) (d := 13) (v := (.pointer (some ⟨b2, 3, none⟩))) rfl (fun _ H' => (by kernel_rfl)) ?_
 refine Ze 2 rfl (by kernel_rfl) (by kernel_rfl) (by kernel_rfl) (fun _ _ _ h => h) S39 (Z1 rfl) (d := 14) (v := (.agg ⟨(hc s.h)⟩)) rfl (fun _ H' => (ZB (vs := (hc s.h)) rfl (by kernel_rfl) (by kernel_rfl) (by exact Nat.le_of_ble_eq_true (by kernel_rfl)) (H'.at 1 rfl) (by kernel_rfl))) ?_
 refine Ze 4 rfl (by kernel_rfl) (by kernel_rfl) (by kernel_rfl) (fun _ _ _ h => h) S39 (Z1 rfl) (d := 16) (v := (.pointer (some ⟨b2, 35, none⟩))) rfl (fun _ H' => (by kernel_rfl)) ?_
 refine Ze 5 rfl (by kernel_rfl) (by kernel_rfl) (by kernel_rfl) (fun _ _ _ h => h) S39 (Z1 rfl) (d := 17) (v := (.int .u64 (s.t))) rfl (fun _ H' => (Zi rfl (by kernel_rfl) (H'.cell 1 rfl (by kernel_rfl)))) ?_
 refine Z0r 3 rfl (by kernel_rfl) (Z1 rfl) (fun K40 hK40 => ?_)
 have l46 := s.h.len
 refine Zv (d := 15) rfl (by kernel_rfl) (Z1B w37 r10 a32 c33 (((Zu ([115, 116, 97, 109, 112])) ++ Z9 s.r) ++ ZD s.cl s.seq) (H38.fin [2, 3] (by decide) rfl) (by simp only [List.length_append, List.length_nil]; omega) s.h) ?_
 rintro _ w41 ⟨a43, c44, rfl, T42⟩
 have H47 : Sat w [Z6 w (fun _ => False), Z3 b2 101 (([(.int .i64 (s.r)), (.int .i64 (s.cl)), (.int .i64 (s.seq))] : List Value) ++ hc s.h ++ ([(.int .u64 (s.t)), (.int .i64 (s.sb)), (.int .i64 (s.sm))] : List Value)), Z3 r10 174 ([(.slice a43 (((((Zu ([115, 116, 97, 109, 112])) ++ Z9 s.r) ++ ZD s.cl s.seq) ++ s.h.l).length) c44)] : List Value), Zb 5 1 (.slice a43 (((((Zu ([115, 116, 97, 109, 112])) ++ Z9 s.r) ++ ZD s.cl s.seq) ++ s.h.l).length) c44) (((((Zu ([115, 116, 97, 109, 112])) ++ Z9 s.r) ++ ZD s.cl s.seq) ++ s.h.l).length) (((((Zu ([115, 116, 97, 109, 112])) ++ Z9 s.r) ++ ZD s.cl s.seq) ++ s.h.l).flatMap Zr)] w41 := (Sat.turnL (L' := [Z3 r10 174 ([(.slice a43 (((((Zu ([115, 116, 97, 109, 112])) ++ Z9 s.r) ++ ZD s.cl s.seq) ++ s.h.l).length) c44)] : List Value), Zb 5 1 (.slice a43 (((((Zu ([115, 116, 97, 109, 112])) ++ Z9 s.r) ++ ZD s.cl s.seq) ++ s.h.l).length) c44) (((((Zu ([115, 116, 97, 109, 112])) ++ Z9 s.r) ++ ZD s.cl s.seq) ++ s.h.l).length) (((((Zu ([115, 116, 97, 109, 112])) ++ Z9 s.r) ++ ZD s.cl s.seq) ++ s.h.l).flatMap Zr)]) (R := [Z6 w (fun _ => False), Z3 b2 101 (([(.int .i64 (s.r)), (.int .i64 (s.cl)), (.int .i64 (s.seq))] : List Value) ++ hc s.h ++ ([(.int .u64 (s.t)), (.int .i64 (s.sb)), (.int .i64 (s.sm))] : List Value))]) H38 [2, 3] [0, 1] (by decide) (by kernel_rfl) rfl T42).pick [2, 3, 0, 1] (by decide)
 refine ⟨_, rfl, ?_⟩
 have S48 := H47.pick [0, 1] (by decide)
 refine hK40 _ _ S48 ?_
 clear hK40 K40
 refine Z0r 6 rfl (by kernel_rfl) (Z1 rfl) (fun K49 hK49 => ?_)
 have l55 := Z1G s.t.toNat
 refine Zv (d := 18) rfl (by rw [show s.t = ((s.t.toNat : Nat) : Int) by omega]; kernel_rfl) (Z2F w41 r10 a43 c44 ((((Zu ([115, 116, 97, 109, 112])) ++ Z9 s.r) ++ ZD s.cl s.seq) ++ s.h.l) (H47.fin [2, 3] (by decide) rfl) (by simp only [List.length_append, List.length_nil]; omega) s.t.toNat (by omega)) ?_
 rintro _ w50 ⟨a52, c53, rfl, T51⟩
 have H56 : Sat w [Z6 w (fun _ => False), Z3 b2 101 (([(.int .i64 (s.r)), (.int .i64 (s.cl)), (.int .i64 (s.seq))] : List Value) ++ hc s.h ++ ([(.int .u64 (s.t)), (.int .i64 (s.sb)), (.int .i64 (s.sm))] : List Value)), Z3 r10 174 ([(.slice a52 ((((((Zu ([115, 116, 97, 109, 112])) ++ Z9 s.r) ++ ZD s.cl s.seq) ++ s.h.l) ++ Z0g s.t.toNat).length) c53)] : List Value), Zb 5 1 (.slice a52 ((((((Zu ([115, 116, 97, 109, 112])) ++ Z9 s.r) ++ ZD s.cl s.seq) ++ s.h.l) ++ Z0g s.t.toNat).length) c53) ((((((Zu ([115, 116, 97, 109, 112])) ++ Z9 s.r) ++ ZD s.cl s.seq) ++ s.h.l) ++ Z0g s.t.toNat).length) ((((((Zu ([115, 116, 97, 109, 112])) ++ Z9 s.r) ++ ZD s.cl s.seq) ++ s.h.l) ++ Z0g s.t.toNat).flatMap Zr)] w50 := (Sat.turnL (L' := [Z3 r10 174 ([(.slice a52 ((((((Zu ([115, 116, 97, 109, 112])) ++ Z9 s.r) ++ ZD s.cl s.seq) ++ s.h.l) ++ Z0g s.t.toNat).length) c53)] : List Value), Zb 5 1 (.slice a52 ((((((Zu ([115, 116, 97, 109, 112])) ++ Z9 s.r) ++ ZD s.cl s.seq) ++ s.h.l) ++ Z0g s.t.toNat).length) c53) ((((((Zu ([115, 116, 97, 109, 112])) ++ Z9 s.r) ++ ZD s.cl s.seq) ++ s.h.l) ++ Z0g s.t.toNat).length) ((((((Zu ([115, 116, 97, 109, 112])) ++ Z9 s.r) ++ ZD s.cl s.seq) ++ s.h.l) ++ Z0g s.t.toNat).flatMap Zr)]) (R := [Z6 w (fun _ => False), Z3 b2 101 (([(.int .i64 (s.r)), (.int .i64 (s.cl)), (.int .i64 (s.seq))] : List Value) ++ hc s.h ++ ([(.int .u64 (s.t)), (.int .i64 (s.sb)), (.int .i64 (s.sm))] : List Value))]) H47 [2, 3] [0, 1] (by decide) (by kernel_rfl) rfl T51).pick [2, 3, 0, 1] (by decide)
 refine ⟨_, rfl, ?_⟩
 have S57 := H56.pick [0, 1] (by decide)
 refine hK49 _ _ S57 ?_
 clear hK49 K49
 refine Z0r 7 rfl (by kernel_rfl) (Z1 rfl) (fun K58 hK58 => ?_)
 refine Zv (d := 19) rfl (by kernel_rfl) (Z1r w50 r10 a52 c53 (((((Zu ([115, 116, 97, 109, 112])) ++ Z9 s.r) ++ ZD s.cl s.seq) ++ s.h.l) ++ Z0g s.t.toNat) (H56.fin [2, 3] (by decide) rfl) (by simp only [List.length_append, List.length_nil]; omega)) ?_
 rintro _ w59 ⟨u60, rfl, T61⟩
 have H62 : Sat w [Z6 w (fun _ => False), Z3 b2 101 (([(.int .i64 (s.r)), (.int .i64 (s.cl)), (.int .i64 (s.seq))] : List Value) ++ hc s.h ++ ([(.int .u64 (s.t)), (.int .i64 (s.sb)), (.int .i64 (s.sm))] : List Value)), Z3 r10 174 ([(.slice a52 ((((((Zu ([115, 116, 97, 109, 112])) ++ Z9 s.r) ++ ZD s.cl s.seq) ++ s.h.l) ++ Z0g s.t.toNat).length) c53)] : List Value), Zb 5 1 (.slice a52 ((((((Zu ([115, 116, 97, 109, 112])) ++ Z9 s.r) ++ ZD s.cl s.seq) ++ s.h.l) ++ Z0g s.t.toNat).length) c53) ((((((Zu ([115, 116, 97, 109, 112])) ++ Z9 s.r) ++ ZD s.cl s.seq) ++ s.h.l) ++ Z0g s.t.toNat).length) ((((((Zu ([115, 116, 97, 109, 112])) ++ Z9 s.r) ++ ZD s.cl s.seq) ++ s.h.l) ++ Z0g s.t.toNat).flatMap Zr), Zb 5 1 u60 ((((((Zu ([115, 116, 97, 109, 112])) ++ Z9 s.r) ++ ZD s.cl s.seq) ++ s.h.l) ++ Z0g s.t.toNat).length) ((((((Zu ([115, 116, 97, 109, 112])) ++ Z9 s.r) ++ ZD s.cl s.seq) ++ s.h.l) ++ Z0g s.t.toNat).flatMap Zr)] w59 := (Sat.turnL (L' := [Z3 r10 174 ([(.slice a52 ((((((Zu ([115, 116, 97, 109, 112])) ++ Z9 s.r) ++ ZD s.cl s.seq) ++ s.h.l) ++ Z0g s.t.toNat).length) c53)] : List Value), Zb 5 1 (.slice a52 ((((((Zu ([115, 116, 97, 109, 112])) ++ Z9 s.r) ++ ZD s.cl s.seq) ++ s.h.l) ++ Z0g s.t.toNat).length) c53) ((((((Zu ([115, 116, 97, 109, 112])) ++ Z9 s.r) ++ ZD s.cl s.seq) ++ s.h.l) ++ Z0g s.t.toNat).length) ((((((Zu ([115, 116, 97, 109, 112])) ++ Z9 s.r) ++ ZD s.cl s.seq) ++ s.h.l) ++ Z0g s.t.toNat).flatMap Zr), Zb 5 1 u60 ((((((Zu ([115, 116, 97, 109, 112])) ++ Z9 s.r) ++ ZD s.cl s.seq) ++ s.h.l) ++ Z0g s.t.toNat).length) ((((((Zu ([115, 116, 97, 109, 112])) ++ Z9 s.r) ++ ZD s.cl s.seq) ++ s.h.l) ++ Z0g s.t.toNat).flatMap Zr)]) (R := [Z6 w (fun _ => False), Z3 b2 101 (([(.int .i64 (s.r)), (.int .i64 (s.cl)), (.int .i64 (s.seq))] : List Value) ++ hc s.h ++ ([(.int .u64 (s.t)), (.int .i64 (s.sb)), (.int .i64 (s.sm))] : List Value))]) H56 [2, 3] [0, 1] (by decide) (by kernel_rfl) rfl T61).pick [3, 4, 0, 1, 2] (by decide)
 obtain ⟨a63, c64, rfl⟩ := Zl (H62.at 4 rfl)
 refine ⟨_, rfl, ?_⟩
 have S65 := H62.pick [0, 1] (by decide)
 refine hK58 _ _ S65 ?_
 clear hK58 K58
 refine Ze 8 rfl (by kernel_rfl) (by kernel_rfl) (by kernel_rfl) (fun _ _ _ h => h) S65 (Z1 rfl) (d := 2) (v := (.slice a63 (((((Zu ([115, 116, 97, 109, 112])) ++ Z9 s.r) ++ ZD s.cl s.seq) ++ s.h.l) ++ Z0g s.t.toNat).length c64)) rfl (fun _ H' => (by kernel_rfl)) ?_
 refine Z0C (by kernel_rfl) ?_
 refine Z4 ?_
 refine ZY ?_
 refine Z0O rfl (ZF (v := (.slice a63 (((((Zu ([115, 116, 97, 109, 112])) ++ Z9 s.r) ++ ZD s.cl s.seq) ++ s.h.l) ++ Z0g s.t.toNat).length c64)) rfl) ?_
 have hX : (((((Zu ([115, 116, 97, 109, 112])) ++ Z9 s.r) ++ ZD s.cl s.seq) ++ s.h.l) ++ Z0g s.t.toNat) = Zw s := by simp only [Zw, Zk, Z0U, List.flatten_cons, List.flatten_nil, List.append_nil, List.append_assoc, List.nil_append]
 exact ⟨_, rfl, (by rw [← hX]; exact H62.at 4 rfl), H62.upd 0 rfl [] (fun _ h => h.elim), (by rw [← hX]; exact H62.fresh 0 rfl (fun _ h => h) 4 rfl rfl)⟩
theorem Z3T (w : World) (s : Zn) (hs : (s.cl ≤ 9223372036854775807 ∧ s.seq ≤ 9223372036854775807 ∧ s.len ≤ 9223372036854775807)) :
  Calls Tryz.prog 112 #[(.agg ⟨(([(.int .i64 (s.cl)), (.int .i64 (s.seq))] : List Value) ++ hc s.h ++ ([(.int .i64 (s.len)), (.int .i64 (s.sb)), (.int .i64 (s.sm))] : List Value))⟩)] w fun e w' => ∃ u, e = .returned u ∧ (Zb 5 1 u (Zk s).length ((Zk s).flatMap Zr)).ok w' ∧ Upd [] w w' ∧ ∀ q_, (Zb 5 1 u (Zk s).length ((Zk s).flatMap Zr)).fp q_ → w.heap.size ≤ q_ := by
 have H := Sat.start0 w
 refine ZE Tryz.func112 rfl 24 rfl (Nat.le_of_ble_eq_true rfl) ?_
 refine Zc ?_
 refine Zp ?_
 refine ZA (Z1 rfl) (fun K1 hK1 => ?_)
 refine Z0H (vs := (([(.int .i64 (s.cl)), (.int .i64 (s.seq))] : List Value) ++ hc s.h ++ ([(.int .i64 (s.len)), (.int .i64 (s.sb)), (.int .i64 (s.sm))] : List Value))) rfl H rfl rfl ?_
 intro b2 w3 (H4 : Sat w [Z6 w (fun _ => False), Z3 b2 50 (([(.int .i64 (s.cl)), (.int .i64 (s.seq))] : List Value) ++ hc s.h ++ ([(.int .i64 (s.len)), (.int .i64 (s.sb)), (.int .i64 (s.sm))] : List Value))] w3)
 refine hK1 _ _ ?_
 clear hK1 K1
 refine Z2 (Z1 rfl) (d := 2) (v := (.slice none 0 0)) rfl (by kernel_rfl) ?_
 refine Zm ?_
 refine Z4 ?_
 refine Zc ?_
 refine Z0k H4 [Z6 w (fun _ => False), Z3 b2 50 (([(.int .i64 (s.cl)), (.int .i64 (s.seq))] : List Value) ++ hc s.h ++ ([(.int .i64 (s.len)), (.int .i64 (s.sb)), (.int .i64 (s.sm))] : List Value))] 13 rfl (by kernel_rfl) (fun Hx => (Hx.pick [0, 1] (by decide))) ?_
 intro w5 H6 S7
 refine Ze 4 rfl (by kernel_rfl) (by kernel_rfl) (by kernel_rfl) (fun _ _ _ h => h) S7 (Z1 rfl) (d := 8) (v := (.pointer (some ⟨b2, 0, none⟩))) rfl (fun _ H' => (by kernel_rfl)) ?_
 refine Ze 5 rfl (by kernel_rfl) (by kernel_rfl) (by kernel_rfl) (fun _ _ _ h => h) S7 (Z1 rfl) (d := 9) (v := (.pointer (some ⟨b2, 0, none⟩))) rfl (fun _ H' => (by kernel_rfl)) ?_
 refine Ze 6 rfl (by kernel_rfl) (by kernel_rfl) (by kernel_rfl) (fun _ _ _ h => h) S7 (Z1 rfl) (d := 10) (v := (.int .i64 (s.cl))) rfl (fun _ H' => (Zi rfl (by kernel_rfl) (H'.cell 1 rfl (by kernel_rfl)))) ?_
 refine Ze 8 rfl (by kernel_rfl) (by kernel_rfl) (by kernel_rfl) (fun _ _ _ h => h) S7 (Z1 rfl) (d := 12) (v := (.pointer (some ⟨b2, 0, none⟩))) rfl (fun _ H' => (by kernel_rfl)) ?_
 refine Ze 9 rfl (by kernel_rfl) (by kernel_rfl) (by kernel_rfl) (fun _ _ _ h => h) S7 (Z1 rfl) (d := 13) (v := (.pointer (some ⟨b2, 1, none⟩))) rfl (fun _ H' => (by kernel_rfl)) ?_
 refine Ze 10 rfl (by kernel_rfl) (by kernel_rfl) (by kernel_rfl) (fun _ _ _ h => h) S7 (Z1 rfl) (d := 14) (v := (.int .i64 (s.seq))) rfl (fun _ H' => (Zi rfl (by kernel_rfl) (H'.cell 1 rfl (by kernel_rfl)))) ?_
 refine Z6z 0 1 rfl rfl (by kernel_rfl) (Z1 rfl) (Z1 rfl) (fun K8 hK8 => ?_) (fun K8 hK8 => ?_)
 ·refine Zv (d := 4) rfl (by kernel_rfl) (Z3v w5) ?_
  rintro _ w9 ⟨r10, a11, c12, rfl, k13, p14, q15⟩
  have H16 : Sat w [Z6 w (fun _ => False), Z3 b2 50 (([(.int .i64 (s.cl)), (.int .i64 (s.seq))] : List Value) ++ hc s.h ++ ([(.int .i64 (s.len)), (.int .i64 (s.sb)), (.int .i64 (s.sm))] : List Value)), ZH (wrL r10 a11 c12 ([] : List UInt8))] w9 := H6.addU p14 k13 q15
  have H17 : Sat w [Z6 w (fun _ => False), Z3 b2 50 (([(.int .i64 (s.cl)), (.int .i64 (s.seq))] : List Value) ++ hc s.h ++ ([(.int .i64 (s.len)), (.int .i64 (s.sb)), (.int .i64 (s.sm))] : List Value)), Z3 r10 174 ([(.slice a11 (([] : List UInt8).length) c12)] : List Value), Zb 5 1 (.slice a11 (([] : List UInt8).length) c12) (([] : List UInt8).length) (([] : List UInt8).flatMap Zr)] w9 := H16.open 2 rfl
  refine ⟨_, rfl, ?_⟩
  have S18 := H17.pick [0, 1] (by decide)
  refine hK8 _ _ S18 ?_
  clear hK8 K8
  refine Z0r 1 rfl (by kernel_rfl) (Z1 rfl) (fun K19 hK19 => ?_)
  refine ZX (e := 5) (size := 1) (bytes := 1) (z := (.int .u8 (0))) (pvs := [(0, (.int .u8 (114))), (1, (.int .u8 (101))), (2, (.int .u8 (113))), (3, (.int .u8 (117))), (4, (.int .u8 (101))), (5, (.int .u8 (115))), (6, (.int .u8 (116)))]) (vs := ([(.int .u8 (114)), (.int .u8 (101)), (.int .u8 (113)), (.int .u8 (117)), (.int .u8 (101)), (.int .u8 (115)), (.int .u8 (116))] : List Value)) rfl H17 (by kernel_rfl) (by kernel_rfl) (by kernel_rfl) (by kernel_rfl) (by kernel_rfl) rfl rfl ?_
  intro b20 w21 (H22 : Sat w [Z6 w (fun _ => False), Z3 b2 50 (([(.int .i64 (s.cl)), (.int .i64 (s.seq))] : List Value) ++ hc s.h ++ ([(.int .i64 (s.len)), (.int .i64 (s.sb)), (.int .i64 (s.sm))] : List Value)), Z3 r10 174 ([(.slice a11 (([] : List UInt8).length) c12)] : List Value), Zb 5 1 (.slice a11 (([] : List UInt8).length) c12) (([] : List UInt8).length) (([] : List UInt8).flatMap Zr), Zb 5 1 (.slice (some ⟨b20, 0, none⟩) 7 7) 7 ([(.int .u8 (114)), (.int .u8 (101)), (.int .u8 (113)), (.int .u8 (117)), (.int .u8 (101)), (.int .u8 (115)), (.int .u8 (116))] : List Value)] w21)
  have H23 : Sat w [Z6 w (fun _ => False), Z3 b2 50 (([(.int .i64 (s.cl)), (.int .i64 (s.seq))] : List Value) ++ hc s.h ++ ([(.int .i64 (s.len)), (.int .i64 (s.sb)), (.int .i64 (s.sm))] : List Value)), Z3 r10 174 ([(.slice a11 (([] : List UInt8).length) c12)] : List Value), Zb 5 1 (.slice a11 (([] : List UInt8).length) c12) (([] : List UInt8).length) (([] : List UInt8).flatMap Zr), Zb 5 1 (.slice (some ⟨b20, 0, none⟩) 7 7) 7 ([114, 101, 113, 117, 101, 115, 116].flatMap Zr)] w21 := H22.cast (by rw [show (([(.int .u8 (114)), (.int .u8 (101)), (.int .u8 (113)), (.int .u8 (117)), (.int .u8 (101)), (.int .u8 (115)), (.int .u8 (116))] : List Value) : List Value) = [114, 101, 113, 117, 101, 115, 116].flatMap Zr from rfl])
  have S24 := H23.pick [0, 1] (by decide)
  refine hK19 _ _ S24 ?_
  clear hK19 K19
  refine Z0r 2 rfl (by kernel_rfl) (Z1 rfl) (fun K25 hK25 => ?_)
  refine Z1t (e := 5) (s := [114, 101, 113, 117, 101, 115, 116]) rfl H23 4 rfl (by kernel_rfl) (by kernel_rfl) rfl ?_
  intro w26 (H27 : Sat w [Z6 w (fun _ => False), Z3 b2 50 (([(.int .i64 (s.cl)), (.int .i64 (s.seq))] : List Value) ++ hc s.h ++ ([(.int .i64 (s.len)), (.int .i64 (s.sb)), (.int .i64 (s.sm))] : List Value)), Z3 r10 174 ([(.slice a11 (([] : List UInt8).length) c12)] : List Value), Zb 5 1 (.slice a11 (([] : List UInt8).length) c12) (([] : List UInt8).length) (([] : List UInt8).flatMap Zr), Z0V (.slice (some ⟨b20, 0, none⟩) 7 7) ([114, 101, 113, 117, 101, 115, 116])] w26)
  have S28 := H27.pick [0, 1] (by decide)
  refine hK25 _ _ S28 ?_
  clear hK25 K25
  refine Z0r 3 rfl (by kernel_rfl) (Z1 rfl) (fun K29 hK29 => ?_)
  have l35 := (show (Zu [114, 101, 113, 117, 101, 115, 116]).length ≤ 17 from Z0P _)
  refine Zv (d := 7) rfl (by kernel_rfl) (Z2R w26 r10 a11 c12 ([] : List UInt8) (H27.fin [2, 3] (by decide) rfl) (by simp) (some ⟨b20, 0, none⟩) 7 ([114, 101, 113, 117, 101, 115, 116]) (ListAt.ofTxt (H27.at 4 rfl)) (Z4x (fun b hb => H27.offP [2, 3] 4 rfl rfl (by decide) hb)) (by first | omega | simp)) ?_
  rintro _ w30 ⟨a32, c33, rfl, T31⟩
  have H36 : Sat w [Z6 w (fun _ => False), Z3 b2 50 (([(.int .i64 (s.cl)), (.int .i64 (s.seq))] : List Value) ++ hc s.h ++ ([(.int .i64 (s.len)), (.int .i64 (s.sb)), (.int .i64 (s.sm))] : List Value)), Z3 r10 174 ([(.slice a32 ((([] : List UInt8) ++ Zu ([114, 101, 113, 117, 101, 115, 116])).length) c33)] : List Value), Zb 5 1 (.slice a32 ((([] : List UInt8) ++ Zu ([114, 101, 113, 117, 101, 115, 116])).length) c33) ((([] : List UInt8) ++ Zu ([114, 101, 113, 117, 101, 115, 116])).length) ((([] : List UInt8) ++ Zu ([114, 101, 113, 117, 101, 115, 116])).flatMap Zr), Z0V (.slice (some ⟨b20, 0, none⟩) 7 7) ([114, 101, 113, 117, 101, 115, 116])] w30 := (Sat.turnL (L' := [Z3 r10 174 ([(.slice a32 ((([] : List UInt8) ++ Zu ([114, 101, 113, 117, 101, 115, 116])).length) c33)] : List Value), Zb 5 1 (.slice a32 ((([] : List UInt8) ++ Zu ([114, 101, 113, 117, 101, 115, 116])).length) c33) ((([] : List UInt8) ++ Zu ([114, 101, 113, 117, 101, 115, 116])).length) ((([] : List UInt8) ++ Zu ([114, 101, 113, 117, 101, 115, 116])).flatMap Zr)]) (R := [Z6 w (fun _ => False), Z3 b2 50 (([(.int .i64 (s.cl)), (.int .i64 (s.seq))] : List Value) ++ hc s.h ++ ([(.int .i64 (s.len)), (.int .i64 (s.sb)), (.int .i64 (s.sm))] : List Value)), Z0V (.slice (some ⟨b20, 0, none⟩) 7 7) ([114, 101, 113, 117, 101, 115, 116])]) H27 [2, 3] [0, 1, 4] (by decide) (by kernel_rfl) rfl T31).pick [2, 3, 0, 1, 4] (by decide)
  refine ⟨_, rfl, ?_⟩
  have S37 := H36.pick [0, 1] (by decide)
  refine hK29 _ _ S37 ?_
  clear hK29 K29
  refine Z0r 7 rfl (by kernel_rfl) (Z1 rfl) (fun K38 hK38 => ?_)
  have l44 := ZN s.cl
  refine Zv (d := 11) rfl (by kernel_rfl) (Z0z w30 r10 a32 c33 (([] : List UInt8) ++ Zu ([114, 101, 113, 117, 101, 115, 116])) (H36.fin [2, 3] (by decide) rfl) (by simp only [List.length_append, List.length_nil]; omega) s.cl (by omega)) ?_
  rintro _ w39 ⟨a41, c42, rfl, T40⟩
  have H45 : Sat w [Z6 w (fun _ => False), Z3 b2 50 (([(.int .i64 (s.cl)), (.int .i64 (s.seq))] : List Value) ++ hc s.h ++ ([(.int .i64 (s.len)), (.int .i64 (s.sb)), (.int .i64 (s.sm))] : List Value)), Z3 r10 174 ([(.slice a41 (((([] : List UInt8) ++ Zu ([114, 101, 113, 117, 101, 115, 116])) ++ Z9 s.cl).length) c42)] : List Value), Zb 5 1 (.slice a41 (((([] : List UInt8) ++ Zu ([114, 101, 113, 117, 101, 115, 116])) ++ Z9 s.cl).length) c42) (((([] : List UInt8) ++ Zu ([114, 101, 113, 117, 101, 115, 116])) ++ Z9 s.cl).length) (((([] : List UInt8) ++ Zu ([114, 101, 113, 117, 101, 115, 116])) ++ Z9 s.cl).flatMap Zr), Z0V (.slice (some ⟨b20, 0, none⟩) 7 7) ([114, 101, 113, 117, 101, 115, 116])] w39 := (Sat.turnL (L' := [Z3 r10 174 ([(.slice a41 (((([] : List UInt8) ++ Zu ([114, 101, 113, 117, 101, 115, 116])) ++ Z9 s.cl).length) c42)] : List Value), Zb 5 1 (.slice a41 (((([] : List UInt8) ++ Zu ([114, 101, 113, 117, 101, 115, 116])) ++ Z9 s.cl).length) c42) (((([] : List UInt8) ++ Zu ([114, 101, 113, 117, 101, 115, 116])) ++ Z9 s.cl).length) (((([] : List UInt8) ++ Zu ([114, 101, 113, 117, 101, 115, 116])) ++ Z9 s.cl).flatMap Zr)]) (R := [Z6 w (fun _ => False), Z3 b2 50 (([(.int .i64 (s.cl)), (.int .i64 (s.seq))] : List Value) ++ hc s.h ++ ([(.int .i64 (s.len)), (.int .i64 (s.sb)), (.int .i64 (s.sm))] : List Value)), Z0V (.slice (some ⟨b20, 0, none⟩) 7 7) ([114, 101, 113, 117, 101, 115, 116])]) H36 [2, 3] [0, 1, 4] (by decide) (by kernel_rfl) rfl T40).pick [2, 3, 0, 1, 4] (by decide)
  refine ⟨_, rfl, ?_⟩
  have S46 := H45.pick [0, 1] (by decide)
  refine hK38 _ _ S46 ?_
  clear hK38 K38
  refine Z0r 11 rfl (by kernel_rfl) (Z1 rfl) (fun K47 hK47 => ?_)
  have l53 := ZN s.seq
  refine Zv (d := 15) rfl (by kernel_rfl) (Z0z w39 r10 a41 c42 ((([] : List UInt8) ++ Zu ([114, 101, 113, 117, 101, 115, 116])) ++ Z9 s.cl) (H45.fin [2, 3] (by decide) rfl) (by simp only [List.length_append, List.length_nil]; omega) s.seq (by omega)) ?_
  rintro _ w48 ⟨a50, c51, rfl, T49⟩
  have H54 : Sat w [Z6 w (fun _ => False), Z3 b2 50 (([(.int .i64 (s.cl)), (.int .i64 (s.seq))] : List Value) ++ hc s.h ++ ([(.int .i64 (s.len)), (.int .i64 (s.sb)), (.int .i64 (s.sm))] : List Value)), Z3 r10 174 ([(.slice a50 ((((([] : List UInt8) ++ Zu ([114, 101, 113, 117, 101, 115, 116])) ++ Z9 s.cl) ++ Z9 s.seq).length) c51)] : List Value), Zb 5 1 (.slice a50 ((((([] : List UInt8) ++ Zu ([114, 101, 113, 117, 101, 115, 116])) ++ Z9 s.cl) ++ Z9 s.seq).length) c51) ((((([] : List UInt8) ++ Zu ([114, 101, 113, 117, 101, 115, 116])) ++ Z9 s.cl) ++ Z9 s.seq).length) ((((([] : List UInt8) ++ Zu ([114, 101, 113, 117, 101, 115, 116])) ++ Z9 s.cl) ++ Z9 s.seq).flatMap Zr), Z0V (.slice (some ⟨b20, 0, none⟩) 7 7) ([114, 101, 113, 117, 101, 115, 116])] w48 := (Sat.turnL (L' := [Z3 r10 174 ([(.slice a50 ((((([] : List UInt8) ++ Zu ([114, 101, 113, 117, 101, 115, 116])) ++ Z9 s.cl) ++ Z9 s.seq).length) c51)] : List Value), Zb 5 1 (.slice a50 ((((([] : List UInt8) ++ Zu ([114, 101, 113, 117, 101, 115, 116])) ++ Z9 s.cl) ++ Z9 s.seq).length) c51) ((((([] : List UInt8) ++ Zu ([114, 101, 113, 117, 101, 115, 116])) ++ Z9 s.cl) ++ Z9 s.seq).length) ((((([] : List UInt8) ++ Zu ([114, 101, 113, 117, 101, 115, 116])) ++ Z9 s.cl) ++ Z9 s.seq).flatMap Zr)]) (R := [Z6 w (fun _ => False), Z3 b2 50 (([(.int .i64 (s.cl)), (.int .i64 (s.seq))] : List Value) ++ hc s.h ++ ([(.int .i64 (s.len)), (.int .i64 (s.sb)), (.int .i64 (s.sm))] : List Value)), Z0V (.slice (some ⟨b20, 0, none⟩) 7 7) ([114, 101, 113, 117, 101, 115, 116])]) H45 [2, 3] [0, 1, 4] (by decide) (by kernel_rfl) rfl T49).pick [2, 3, 0, 1, 4] (by decide)
  refine ⟨_, rfl, ?_⟩
  have S55 := H54.pick [0, 1] (by decide)
  refine hK47 _ _ S55 ?_
  clear hK47 K47
  refine Ze 12 rfl (by kernel_rfl) (by kernel_rfl) (by kernel_rfl) (fun _ _ _ h => h) S55 (Z1 rfl) (d := 3) (v := (.pointer (some ⟨r10, 0, none⟩))) rfl (fun _ H' => (by kernel_rfl)) ?_
  refine Z0C (by kernel_rfl) ?_
  refine Z4 ?_
  refine Zc ?_
  refine Z0k H54 [Z6 w (fun _ => False), Z3 b2 50 (([(.int .i64 (s.cl)), (.int .i64 (s.seq))] : List Value) ++ hc s.h ++ ([(.int .i64 (s.len)), (.int .i64 (s.sb)), (.int .i64 (s.sm))] : List Value)), Z0V (.slice (some ⟨b20, 0, none⟩) 7 7) ([114, 101, 113, 117, 101, 115, 116])] 9 rfl (by kernel_rfl) (fun Hx => (Hx.pick [0, 1, 4] (by decide))) ?_
  intro w56 H57 S58
  refine Ze 0 rfl (by kernel_rfl) (by kernel_rfl) (by kernel_rfl) (fun _ _ _ h => h) S58 (Z1 rfl) (d := 16) (v := (.pointer (some ⟨r10, 0, none⟩))) rfl (fun _ H' => (by kernel_rfl)) ?_
  refine Ze 1 rfl (by kernel_rfl) (by kernel_rfl) (by kernel_rfl) (fun _ _ _ h => h) S58 (Z1 rfl) (d := 17) (v := (.pointer (some ⟨b2, 2, none⟩))) rfl (fun _ H' => (by kernel_rfl)) ?_
  refine Ze 2 rfl (by kernel_rfl) (by kernel_rfl) (by kernel_rfl) (fun _ _ _ h => h) S58 (Z1 rfl) (d := 18) (v := (.agg ⟨(hc s.h)⟩)) rfl (fun _ H' => (ZB (vs := (hc s.h)) rfl (by kernel_rfl) (by kernel_rfl) (by exact Nat.le_of_ble_eq_true (by kernel_rfl)) (H'.at 1 rfl) (by kernel_rfl))) ?_
  refine Ze 4 rfl (by kernel_rfl) (by kernel_rfl) (by kernel_rfl) (fun _ _ _ h => h) S58 (Z1 rfl) (d := 20) (v := (.pointer (some ⟨b2, 34, none⟩))) rfl (fun _ H' => (by kernel_rfl)) ?_
  refine Ze 5 rfl (by kernel_rfl) (by kernel_rfl) (by kernel_rfl) (fun _ _ _ h => h) S58 (Z1 rfl) (d := 21) (v := (.int .i64 (s.len))) rfl (fun _ H' => (Zi rfl (by kernel_rfl) (H'.cell 1 rfl (by kernel_rfl)))) ?_
  refine Z0r 3 rfl (by kernel_rfl) (Z1 rfl) (fun K59 hK59 => ?_)
  have l65 := s.h.len
  refine Zv (d := 19) rfl (by kernel_rfl) (Z1B w56 r10 a50 c51 (((([] : List UInt8) ++ Zu ([114, 101, 113, 117, 101, 115, 116])) ++ Z9 s.cl) ++ Z9 s.seq) (H57.fin [2, 3] (by decide) rfl) (by simp only [List.length_append, List.length_nil]; omega) s.h) ?_
  rintro _ w60 ⟨a62, c63, rfl, T61⟩
  have H66 : Sat w [Z6 w (fun _ => False), Z3 b2 50 (([(.int .i64 (s.cl)), (.int .i64 (s.seq))] : List Value) ++ hc s.h ++ ([(.int .i64 (s.len)), (.int .i64 (s.sb)), (.int .i64 (s.sm))] : List Value)), Z3 r10 174 ([(.slice a62 (((((([] : List UInt8) ++ Zu ([114, 101, 113, 117, 101, 115, 116])) ++ Z9 s.cl) ++ Z9 s.seq) ++ s.h.l).length) c63)] : List Value), Zb 5 1 (.slice a62 (((((([] : List UInt8) ++ Zu ([114, 101, 113, 117, 101, 115, 116])) ++ Z9 s.cl) ++ Z9 s.seq) ++ s.h.l).length) c63) (((((([] : List UInt8) ++ Zu ([114, 101, 113, 117, 101, 115, 116])) ++ Z9 s.cl) ++ Z9 s.seq) ++ s.h.l).length) (((((([] : List UInt8) ++ Zu ([114, 101, 113, 117, 101, 115, 116])) ++ Z9 s.cl) ++ Z9 s.seq) ++ s.h.l).flatMap Zr), Z0V (.slice (some ⟨b20, 0, none⟩) 7 7) ([114, 101, 113, 117, 101, 115, 116])] w60 := (Sat.turnL (L' := [Z3 r10 174 ([(.slice a62 (((((([] : List UInt8) ++ Zu ([114, 101, 113, 117, 101, 115, 116])) ++ Z9 s.cl) ++ Z9 s.seq) ++ s.h.l).length) c63)] : List Value), Zb 5 1 (.slice a62 (((((([] : List UInt8) ++ Zu ([114, 101, 113, 117, 101, 115, 116])) ++ Z9 s.cl) ++ Z9 s.seq) ++ s.h.l).length) c63) (((((([] : List UInt8) ++ Zu ([114, 101, 113, 117, 101, 115, 116])) ++ Z9 s.cl) ++ Z9 s.seq) ++ s.h.l).length) (((((([] : List UInt8) ++ Zu ([114, 101, 113, 117, 101, 115, 116])) ++ Z9 s.cl) ++ Z9 s.seq) ++ s.h.l).flatMap Zr)]) (R := [Z6 w (fun _ => False), Z3 b2 50 (([(.int .i64 (s.cl)), (.int .i64 (s.seq))] : List Value) ++ hc s.h ++ ([(.int .i64 (s.len)), (.int .i64 (s.sb)), (.int .i64 (s.sm))] : List Value)), Z0V (.slice (some ⟨b20, 0, none⟩) 7 7) ([114, 101, 113, 117, 101, 115, 116])]) H57 [2, 3] [0, 1, 4] (by decide) (by kernel_rfl) rfl T61).pick [2, 3, 0, 1, 4] (by decide)
  refine ⟨_, rfl, ?_⟩
  have S67 := H66.pick [0, 1, 4] (by decide)
  refine hK59 _ _ S67 ?_
  clear hK59 K59
  refine Z0r 6 rfl (by kernel_rfl) (Z1 rfl) (fun K68 hK68 => ?_)
  have l74 := ZN s.len
  refine Zv (d := 22) rfl (by kernel_rfl) (Z0z w60 r10 a62 c63 ((((([] : List UInt8) ++ Zu ([114, 101, 113, 117, 101, 115, 116])) ++ Z9 s.cl) ++ Z9 s.seq) ++ s.h.l) (H66.fin [2, 3] (by decide) rfl) (by simp only [List.length_append, List.length_nil]; omega) s.len (by omega)) ?_
  rintro _ w69 ⟨a71, c72, rfl, T70⟩
  have H75 : Sat w [Z6 w (fun _ => False), Z3 b2 50 (([(.int .i64 (s.cl)), (.int .i64 (s.seq))] : List Value) ++ hc s.h ++ ([(.int .i64 (s.len)), (.int .i64 (s.sb)), (.int .i64 (s.sm))] : List Value)), Z3 r10 174 ([(.slice a71 ((((((([] : List UInt8) ++ Zu ([114, 101, 113, 117, 101, 115, 116])) ++ Z9 s.cl) ++ Z9 s.seq) ++ s.h.l) ++ Z9 s.len).length) c72)] : List Value), Zb 5 1 (.slice a71 ((((((([] : List UInt8) ++ Zu ([114, 101, 113, 117, 101, 115, 116])) ++ Z9 s.cl) ++ Z9 s.seq) ++ s.h.l) ++ Z9 s.len).length) c72) ((((((([] : List UInt8) ++ Zu ([114, 101, 113, 117, 101, 115, 116])) ++ Z9 s.cl) ++ Z9 s.seq) ++ s.h.l) ++ Z9 s.len).length) ((((((([] : List UInt8) ++ Zu ([114, 101, 113, 117, 101, 115, 116])) ++ Z9 s.cl) ++ Z9 s.seq) ++ s.h.l) ++ Z9 s.len).flatMap Zr), Z0V (.slice (some ⟨b20, 0, none⟩) 7 7) ([114, 101, 113, 117, 101, 115, 116])] w69 := (Sat.turnL (L' := [Z3 r10 174 ([(.slice a71 ((((((([] : List UInt8) ++ Zu ([114, 101, 113, 117, 101, 115, 116])) ++ Z9 s.cl) ++ Z9 s.seq) ++ s.h.l) ++ Z9 s.len).length) c72)] : List Value), Zb 5 1 (.slice a71 ((((((([] : List UInt8) ++ Zu ([114, 101, 113, 117, 101, 115, 116])) ++ Z9 s.cl) ++ Z9 s.seq) ++ s.h.l) ++ Z9 s.len).length) c72) ((((((([] : List UInt8) ++ Zu ([114, 101, 113, 117, 101, 115, 116])) ++ Z9 s.cl) ++ Z9 s.seq) ++ s.h.l) ++ Z9 s.len).length) ((((((([] : List UInt8) ++ Zu ([114, 101, 113, 117, 101, 115, 116])) ++ Z9 s.cl) ++ Z9 s.seq) ++ s.h.l) ++ Z9 s.len).flatMap Zr)]) (R := [Z6 w (fun _ => False), Z3 b2 50 (([(.int .i64 (s.cl)), (.int .i64 (s.seq))] : List Value) ++ hc s.h ++ ([(.int .i64 (s.len)), (.int .i64 (s.sb)), (.int .i64 (s.sm))] : List Value)), Z0V (.slice (some ⟨b20, 0, none⟩) 7 7) ([114, 101, 113, 117, 101, 115, 116])]) H66 [2, 3] [0, 1, 4] (by decide) (by kernel_rfl) rfl T70).pick [2, 3, 0, 1, 4] (by decide)
  refine ⟨_, rfl, ?_⟩
  have S76 := H75.pick [0, 1, 4] (by decide)
  refine hK68 _ _ S76 ?_
  clear hK68 K68
  refine Z0r 7 rfl (by kernel_rfl) (Z1 rfl) (fun K77 hK77 => ?_)
  refine Zv (d := 23) rfl (by kernel_rfl) (Z1r w69 r10 a71 c72 (((((([] : List UInt8) ++ Zu ([114, 101, 113, 117, 101, 115, 116])) ++ Z9 s.cl) ++ Z9 s.seq) ++ s.h.l) ++ Z9 s.len) (H75.fin [2, 3] (by decide) rfl) (by simp only [List.length_append, List.length_nil]; omega)) ?_
  rintro _ w78 ⟨u79, rfl, T80⟩
  have H81 : Sat w [Z6 w (fun _ => False), Z3 b2 50 (([(.int .i64 (s.cl)), (.int .i64 (s.seq))] : List Value) ++ hc s.h ++ ([(.int .i64 (s.len)), (.int .i64 (s.sb)), (.int .i64 (s.sm))] : List Value)), Z3 r10 174 ([(.slice a71 ((((((([] : List UInt8) ++ Zu ([114, 101, 113, 117, 101, 115, 116])) ++ Z9 s.cl) ++ Z9 s.seq) ++ s.h.l) ++ Z9 s.len).length) c72)] : List Value), Zb 5 1 (.slice a71 ((((((([] : List UInt8) ++ Zu ([114, 101, 113, 117, 101, 115, 116])) ++ Z9 s.cl) ++ Z9 s.seq) ++ s.h.l) ++ Z9 s.len).length) c72) ((((((([] : List UInt8) ++ Zu ([114, 101, 113, 117, 101, 115, 116])) ++ Z9 s.cl) ++ Z9 s.seq) ++ s.h.l) ++ Z9 s.len).length) ((((((([] : List UInt8) ++ Zu ([114, 101, 113, 117, 101, 115, 116])) ++ Z9 s.cl) ++ Z9 s.seq) ++ s.h.l) ++ Z9 s.len).flatMap Zr), Z0V (.slice (some ⟨b20, 0, none⟩) 7 7) ([114, 101, 113, 117, 101, 115, 116]), Zb 5 1 u79 ((((((([] : List UInt8) ++ Zu ([114, 101, 113, 117, 101, 115, 116])) ++ Z9 s.cl) ++ Z9 s.seq) ++ s.h.l) ++ Z9 s.len).length) ((((((([] : List UInt8) ++ Zu ([114, 101, 113, 117, 101, 115, 116])) ++ Z9 s.cl) ++ Z9 s.seq) ++ s.h.l) ++ Z9 s.len).flatMap Zr)] w78 := (Sat.turnL (L' := [Z3 r10 174 ([(.slice a71 ((((((([] : List UInt8) ++ Zu ([114, 101, 113, 117, 101, 115, 116])) ++ Z9 s.cl) ++ Z9 s.seq) ++ s.h.l) ++ Z9 s.len).length) c72)] : List Value), Zb 5 1 (.slice a71 ((((((([] : List UInt8) ++ Zu ([114, 101, 113, 117, 101, 115, 116])) ++ Z9 s.cl) ++ Z9 s.seq) ++ s.h.l) ++ Z9 s.len).length) c72) ((((((([] : List UInt8) ++ Zu ([114, 101, 113, 117, 101, 115, 116])) ++ Z9 s.cl) ++ Z9 s.seq) ++ s.h.l) ++ Z9 s.len).length) ((((((([] : List UInt8) ++ Zu ([114, 101, 113, 117, 101, 115, 116])) ++ Z9 s.cl) ++ Z9 s.seq) ++ s.h.l) ++ Z9 s.len).flatMap Zr), Zb 5 1 u79 ((((((([] : List UInt8) ++ Zu ([114, 101, 113, 117, 101, 115, 116])) ++ Z9 s.cl) ++ Z9 s.seq) ++ s.h.l) ++ Z9 s.len).length) ((((((([] : List UInt8) ++ Zu ([114, 101, 113, 117, 101, 115, 116])) ++ Z9 s.cl) ++ Z9 s.seq) ++ s.h.l) ++ Z9 s.len).flatMap Zr)]) (R := [Z6 w (fun _ => False), Z3 b2 50 (([(.int .i64 (s.cl)), (.int .i64 (s.seq))] : List Value) ++ hc s.h ++ ([(.int .i64 (s.len)), (.int .i64 (s.sb)), (.int .i64 (s.sm))] : List Value)), Z0V (.slice (some ⟨b20, 0, none⟩) 7 7) ([114, 101, 113, 117, 101, 115, 116])]) H75 [2, 3] [0, 1, 4] (by decide) (by kernel_rfl) rfl T80).pick [3, 4, 0, 1, 5, 2] (by decide)
  obtain ⟨a82, c83, rfl⟩ := Zl (H81.at 5 rfl)
  refine ⟨_, rfl, ?_⟩
  have S84 := H81.pick [0, 1, 4] (by decide)
  refine hK77 _ _ S84 ?_
  clear hK77 K77
  refine Ze 8 rfl (by kernel_rfl) (by kernel_rfl) (by kernel_rfl) (fun _ _ _ h => h) S84 (Z1 rfl) (d := 2) (v := (.slice a82 (((((([] : List UInt8) ++ Zu ([114, 101, 113, 117, 101, 115, 116])) ++ Z9 s.cl) ++ Z9 s.seq) ++ s.h.l) ++ Z9 s.len).length c83)) rfl (fun _ H' => (by kernel_rfl)) ?_
  refine Z0C (by kernel_rfl) ?_
  refine Z4 ?_
  refine ZY ?_
  refine Z0O rfl (ZF (v := (.slice a82 (((((([] : List UInt8) ++ Zu ([114, 101, 113, 117, 101, 115, 116])) ++ Z9 s.cl) ++ Z9 s.seq) ++ s.h.l) ++ Z9 s.len).length c83)) rfl) ?_
  have hX : (((((([] : List UInt8) ++ Zu ([114, 101, 113, 117, 101, 115, 116])) ++ Z9 s.cl) ++ Z9 s.seq) ++ s.h.l) ++ Z9 s.len) = Zk s := by simp only [Zw, Zk, Z0U, List.flatten_cons, List.flatten_nil, List.append_nil, List.append_assoc, List.nil_append]
  exact ⟨_, rfl, (by rw [← hX]; exact H81.at 5 rfl), H81.upd 0 rfl [] (fun _ h => h.elim), (by rw [← hX]; exact H81.fresh 0 rfl (fun _ h => h) 5 rfl rfl)⟩
 ·refine ZX (e := 5) (size := 1) (bytes := 1) (z := (.int .u8 (0))) (pvs := [(0, (.int .u8 (114))), (1, (.int .u8 (101))), (2, (.int .u8 (113))), (3, (.int .u8 (117))), (4, (.int .u8 (101))), (5, (.int .u8 (115))), (6, (.int .u8 (116)))]) (vs := ([(.int .u8 (114)), (.int .u8 (101)), (.int .u8 (113)), (.int .u8 (117)), (.int .u8 (101)), (.int .u8 (115)), (.int .u8 (116))] : List Value)) rfl H6 (by kernel_rfl) (by kernel_rfl) (by kernel_rfl) (by kernel_rfl) (by kernel_rfl) rfl rfl ?_
  intro b85 w86 (H87 : Sat w [Z6 w (fun _ => False), Z3 b2 50 (([(.int .i64 (s.cl)), (.int .i64 (s.seq))] : List Value) ++ hc s.h ++ ([(.int .i64 (s.len)), (.int .i64 (s.sb)), (.int .i64 (s.sm))] : List Value)), Zb 5 1 (.slice (some ⟨b85, 0, none⟩) 7 7) 7 ([(.int .u8 (114)), (.int .u8 (101)), (.int .u8 (113)), (.int .u8 (117)), (.int .u8 (101)), (.int .u8 (115)), (.int .u8 (116))] : List Value)] w86)
  have H88 : Sat w [Z6 w (fun _ => False), Z3 b2 50 (([(.int .i64 (s.cl)), (.int .i64 (s.seq))] : List Value) ++ hc s.h ++ ([(.int .i64 (s.len)), (.int .i64 (s.sb)), (.int .i64 (s.sm))] : List Value)), Zb 5 1 (.slice (some ⟨b85, 0, none⟩) 7 7) 7 ([114, 101, 113, 117, 101, 115, 116].flatMap Zr)] w86 := H87.cast (by rw [show (([(.int .u8 (114)), (.int .u8 (101)), (.int .u8 (113)), (.int .u8 (117)), (.int .u8 (101)), (.int .u8 (115)), (.int .u8 (116))] : List Value) : List Value) = [114, 101, 113, 117, 101, 115, 116].flatMap Zr from rfl])
  have S89 := H88.pick [0, 1] (by decide)
  refine hK8 _ _ S89 ?_
  clear hK8 K8
  refine Z6z 0 2 rfl rfl (by kernel_rfl) (Z1 rfl) (Z1 rfl) (fun K90 hK90 => ?_) (fun K90 hK90 => ?_)
  ·refine Zv (d := 4) rfl (by kernel_rfl) (Z3v w86) ?_
   rintro _ w91 ⟨r92, a93, c94, rfl, k95, p96, q97⟩
   have H98 : Sat w [Z6 w (fun _ => False), Z3 b2 50 (([(.int .i64 (s.cl)), (.int .i64 (s.seq))] : List Value) ++ hc s.h ++ ([(.int .i64 (s.len)), (.int .i64 (s.sb)), (.int .i64 (s.sm))] : List Value)), Zb 5 1 (.slice (some ⟨b85, 0, none⟩) 7 7) 7 ([114, 101, 113, 117, 101, 115, 116].flatMap Zr), ZH (wrL r92 a93 c94 ([] : List UInt8))] w91 := H88.addU p96 k95 q97
   have H99 : Sat w [Z6 w (fun _ => False), Z3 b2 50 (([(.int .i64 (s.cl)), (.int .i64 (s.seq))] : List Value) ++ hc s.h ++ ([(.int .i64 (s.len)), (.int .i64 (s.sb)), (.int .i64 (s.sm))] : List Value)), Zb 5 1 (.slice (some ⟨b85, 0, none⟩) 7 7) 7 ([114, 101, 113, 117, 101, 115, 116].flatMap Zr), Z3 r92 174 ([(.slice a93 (([] : List UInt8).length) c94)] : List Value), Zb 5 1 (.slice a93 (([] : List UInt8).length) c94) (([] : List UInt8).length) (([] : List UInt8).flatMap Zr)] w91 := H98.open 3 rfl
   refine ⟨_, rfl, ?_⟩
   have S100 := H99.pick [0, 1] (by decide)
   refine hK90 _ _ S100 ?_
   clear hK90 K90
   refine Z0r 2 rfl (by kernel_rfl) (Z1 rfl) (fun K101 hK101 => ?_)
   refine Z1t (e := 5) (s := [114, 101, 113, 117, 101, 115, 116]) rfl H99 2 rfl (by kernel_rfl) (by kernel_rfl) rfl ?_
   intro w102 (H103 : Sat w [Z6 w (fun _ => False), Z3 b2 50 (([(.int .i64 (s.cl)), (.int .i64 (s.seq))] : List Value) ++ hc s.h ++ ([(.int .i64 (s.len)), (.int .i64 (s.sb)), (.int .i64 (s.sm))] : List Value)), Z0V (.slice (some ⟨b85, 0, none⟩) 7 7) ([114, 101, 113, 117, 101, 115, 116]), Z3 r92 174 ([(.slice a93 (([] : List UInt8).length) c94)] : List Value), Zb 5 1 (.slice a93 (([] : List UInt8).length) c94) (([] : List UInt8).length) (([] : List UInt8).flatMap Zr)] w102)
   have S104 := H103.pick [0, 1] (by decide)
   refine hK101 _ _ S104 ?_
   clear hK101 K101
   refine Z0r 3 rfl (by kernel_rfl) (Z1 rfl) (fun K105 hK105 => ?_)
   have l111 := (show (Zu [114, 101, 113, 117, 101, 115, 116]).length ≤ 17 from Z0P _)
   refine Zv (d := 7) rfl (by kernel_rfl) (Z2R w102 r92 a93 c94 ([] : List UInt8) (H103.fin [3, 4] (by decide) rfl) (by simp) (some ⟨b85, 0, none⟩) 7 ([114, 101, 113, 117, 101, 115, 116]) (ListAt.ofTxt (H103.at 2 rfl)) (Z4x (fun b hb => H103.offP [3, 4] 2 rfl rfl (by decide) hb)) (by first | omega | simp)) ?_
   rintro _ w106 ⟨a108, c109, rfl, T107⟩
   have H112 : Sat w [Z6 w (fun _ => False), Z3 b2 50 (([(.int .i64 (s.cl)), (.int .i64 (s.seq))] : List Value) ++ hc s.h ++ ([(.int .i64 (s.len)), (.int .i64 (s.sb)), (.int .i64 (s.sm))] : List Value)), Z0V (.slice (some ⟨b85, 0, none⟩) 7 7) ([114, 101, 113, 117, 101, 115, 116]), Z3 r92 174 ([(.slice a108 ((([] : List UInt8) ++ Zu ([114, 101, 113, 117, 101, 115, 116])).length) c109)] : List Value), Zb 5 1 (.slice a108 ((([] : List UInt8) ++ Zu ([114, 101, 113, 117, 101, 115, 116])).length) c109) ((([] : List UInt8) ++ Zu ([114, 101, 113, 117, 101, 115, 116])).length) ((([] : List UInt8) ++ Zu ([114, 101, 113, 117, 101, 115, 116])).flatMap Zr)] w106 := (Sat.turnL (L' := [Z3 r92 174 ([(.slice a108 ((([] : List UInt8) ++ Zu ([114, 101, 113, 117, 101, 115, 116])).length) c109)] : List Value), Zb 5 1 (.slice a108 ((([] : List UInt8) ++ Zu ([114, 101, 113, 117, 101, 115, 116])).length) c109) ((([] : List UInt8) ++ Zu ([114, 101, 113, 117, 101, 115, 116])).length) ((([] : List UInt8) ++ Zu ([114, 101, 113, 117, 101, 115, 116])).flatMap Zr)]) (R := [Z6 w (fun _ => False), Z3 b2 50 (([(.int .i64 (s.cl)), (.int .i64 (s.seq))] : List Value) ++ hc s.h ++ ([(.int .i64 (s.len)), (.int .i64 (s.sb)), (.int .i64 (s.sm))] : List Value)), Z0V (.slice (some ⟨b85, 0, none⟩) 7 7) ([114, 101, 113, 117, 101, 115, 116])]) H103 [3, 4] [0, 1, 2] (by decide) (by kernel_rfl) rfl T107).pick [2, 3, 4, 0, 1] (by decide)
   refine ⟨_, rfl, ?_⟩
   have S113 := H112.pick [0, 1] (by decide)
   refine hK105 _ _ S113 ?_
   clear hK105 K105
   refine Z0r 7 rfl (by kernel_rfl) (Z1 rfl) (fun K114 hK114 => ?_)
   have l120 := ZN s.cl
   refine Zv (d := 11) rfl (by kernel_rfl) (Z0z w106 r92 a108 c109 (([] : List UInt8) ++ Zu ([114, 101, 113, 117, 101, 115, 116])) (H112.fin [3, 4] (by decide) rfl) (by simp only [List.length_append, List.length_nil]; omega) s.cl (by omega)) ?_
   rintro _ w115 ⟨a117, c118, rfl, T116⟩
   have H121 : Sat w [Z6 w (fun _ => False), Z3 b2 50 (([(.int .i64 (s.cl)), (.int .i64 (s.seq))] : List Value) ++ hc s.h ++ ([(.int .i64 (s.len)), (.int .i64 (s.sb)), (.int .i64 (s.sm))] : List Value)), Z0V (.slice (some ⟨b85, 0, none⟩) 7 7) ([114, 101, 113, 117, 101, 115, 116]), Z3 r92 174 ([(.slice a117 (((([] : List UInt8) ++ Zu ([114, 101, 113, 117, 101, 115, 116])) ++ Z9 s.cl).length) c118)] : List Value), Zb 5 1 (.slice a117 (((([] : List UInt8) ++ Zu ([114, 101, 113, 117, 101, 115, 116])) ++ Z9 s.cl).length) c118) (((([] : List UInt8) ++ Zu ([114, 101, 113, 117, 101, 115, 116])) ++ Z9 s.cl).length) (((([] : List UInt8) ++ Zu ([114, 101, 113, 117, 101, 115, 116])) ++ Z9 s.cl).flatMap Zr)] w115 := (Sat.turnL (L' := [Z3 r92 174 ([(.slice a117 (((([] : List UInt8) ++ Zu ([114, 101, 113, 117, 101, 115, 116])) ++ Z9 s.cl).length) c118)] : List Value), Zb 5 1 (.slice a117 (((([] : List UInt8) ++ Zu ([114, 101, 113, 117, 101, 115, 116])) ++ Z9 s.cl).length) c118) (((([] : List UInt8) ++ Zu ([114, 101, 113, 117, 101, 115, 116])) ++ Z9 s.cl).length) (((([] : List UInt8) ++ Zu ([114, 101, 113, 117, 101, 115, 116])) ++ Z9 s.cl).flatMap Zr)]) (R := [Z6 w (fun _ => False), Z3 b2 50 (([(.int .i64 (s.cl)), (.int .i64 (s.seq))] : List Value) ++ hc s.h ++ ([(.int .i64 (s.len)), (.int .i64 (s.sb)), (.int .i64 (s.sm))] : List Value)), Z0V (.slice (some ⟨b85, 0, none⟩) 7 7) ([114, 101, 113, 117, 101, 115, 116])]) H112 [3, 4] [0, 1, 2] (by decide) (by kernel_rfl) rfl T116).pick [2, 3, 4, 0, 1] (by decide)
   refine ⟨_, rfl, ?_⟩
   have S122 := H121.pick [0, 1] (by decide)
   refine hK114 _ _ S122 ?_
   clear hK114 K114
   refine Z0r 11 rfl (by kernel_rfl) (Z1 rfl) (fun K123 hK123 => ?_)
   have l129 := ZN s.seq
   refine Zv (d := 15) rfl (by kernel_rfl) (Z0z w115 r92 a117 c118 ((([] : List UInt8) ++ Zu ([114, 101, 113, 117, 101, 115, 116])) ++ Z9 s.cl) (H121.fin [3, 4] (by decide) rfl) (by simp only [List.length_append, List.length_nil]; omega) s.seq (by omega)) ?_
   rintro _ w124 ⟨a126, c127, rfl, T125⟩
   have H130 : Sat w [Z6 w (fun _ => False), Z3 b2 50 (([(.int .i64 (s.cl)), (.int .i64 (s.seq))] : List Value) ++ hc s.h ++ ([(.int .i64 (s.len)), (.int .i64 (s.sb)), (.int .i64 (s.sm))] : List Value)), Z0V (.slice (some ⟨b85, 0, none⟩) 7 7) ([114, 101, 113, 117, 101, 115, 116]), Z3 r92 174 ([(.slice a126 ((((([] : List UInt8) ++ Zu ([114, 101, 113, 117, 101, 115, 116])) ++ Z9 s.cl) ++ Z9 s.seq).length) c127)] : List Value), Zb 5 1 (.slice a126 ((((([] : List UInt8) ++ Zu ([114, 101, 113, 117, 101, 115, 116])) ++ Z9 s.cl) ++ Z9 s.seq).length) c127) ((((([] : List UInt8) ++ Zu ([114, 101, 113, 117, 101, 115, 116])) ++ Z9 s.cl) ++ Z9 s.seq).length) ((((([] : List UInt8) ++ Zu ([114, 101, 113, 117, 101, 115, 116])) ++ Z9 s.cl) ++ Z9 s.seq).flatMap Zr)] w124 := (Sat.turnL (L' := [Z3 r92 174 ([(.slice a126 ((((([] : List UInt8) ++ Zu ([114, 101, 113, 117, 101, 115, 116])) ++ Z9 s.cl) ++ Z9 s.seq).length) c127)] : List Value), Zb 5 1 (.slice a126 ((((([] : List UInt8) ++ Zu ([114, 101, 113, 117, 101, 115, 116])) ++ Z9 s.cl) ++ Z9 s.seq).length) c127) ((((([] : List UInt8) ++ Zu ([114, 101, 113, 117, 101, 115, 116])) ++ Z9 s.cl) ++ Z9 s.seq).length) ((((([] : List UInt8) ++ Zu ([114, 101, 113, 117, 101, 115, 116])) ++ Z9 s.cl) ++ Z9 s.seq).flatMap Zr)]) (R := [Z6 w (fun _ => False), Z3 b2 50 (([(.int .i64 (s.cl)), (.int .i64 (s.seq))] : List Value) ++ hc s.h ++ ([(.int .i64 (s.len)), (.int .i64 (s.sb)), (.int .i64 (s.sm))] : List Value)), Z0V (.slice (some ⟨b85, 0, none⟩) 7 7) ([114, 101, 113, 117, 101, 115, 116])]) H121 [3, 4] [0, 1, 2] (by decide) (by kernel_rfl) rfl T125).pick [2, 3, 4, 0, 1] (by decide)
   refine ⟨_, rfl, ?_⟩
   have S131 := H130.pick [0, 1] (by decide)
   refine hK123 _ _ S131 ?_
   clear hK123 K123
   refine Ze 12 rfl (by kernel_rfl) (by kernel_rfl) (by kernel_rfl) (fun _ _ _ h => h) S131 (Z1 rfl) (d := 3) (v := (.pointer (some ⟨r92, 0, none⟩))) rfl (fun _ H' => (by kernel_rfl)) ?_
   refine Z0C (by kernel_rfl) ?_
   refine Z4 ?_
   refine Zc ?_
   refine Z0k H130 [Z6 w (fun _ => False), Z3 b2 50 (([(.int .i64 (s.cl)), (.int .i64 (s.seq))] : List Value) ++ hc s.h ++ ([(.int .i64 (s.len)), (.int .i64 (s.sb)), (.int .i64 (s.sm))] : List Value)), Z0V (.slice (some ⟨b85, 0, none⟩) 7 7) ([114, 101, 113, 117, 101, 115, 116])] 9 rfl (by kernel_rfl) (fun Hx => (Hx.pick [0, 1, 2] (by decide))) ?_
   intro w132 H133 S134
   refine Ze 0 rfl (by kernel_rfl) (by kernel_rfl) (by kernel_rfl) (fun _ _ _ h => h) S134 (Z1 rfl) (d := 16) (v := (.pointer (some ⟨r92, 0, none⟩))) rfl (fun _ H' => (by kernel_rfl)) ?_
   refine Ze 1 rfl (by kernel_rfl) (by kernel_rfl) (by kernel_rfl) (fun _ _ _ h => h) S134 (Z1 rfl) (d := 17) (v := (.pointer (some ⟨b2, 2, none⟩))) rfl (fun _ H' => (by kernel_rfl)) ?_
   refine Ze 2 rfl (by kernel_rfl) (by kernel_rfl) (by kernel_rfl) (fun _ _ _ h => h) S134 (Z1 rfl) (d := 18) (v := (.agg ⟨(hc s.h)⟩)) rfl (fun _ H' => (ZB (vs := (hc s.h)) rfl (by kernel_rfl) (by kernel_rfl) (by exact Nat.le_of_ble_eq_true (by kernel_rfl)) (H'.at 1 rfl) (by kernel_rfl))) ?_
   refine Ze 4 rfl (by kernel_rfl) (by kernel_rfl) (by kernel_rfl) (fun _ _ _ h => h) S134 (Z1 rfl) (d := 20) (v := (.pointer (some ⟨b2, 34, none⟩))) rfl (fun _ H' => (by kernel_rfl)) ?_
   refine Ze 5 rfl (by kernel_rfl) (by kernel_rfl) (by kernel_rfl) (fun _ _ _ h => h) S134 (Z1 rfl) (d := 21) (v := (.int .i64 (s.len))) rfl (fun _ H' => (Zi rfl (by kernel_rfl) (H'.cell 1 rfl (by kernel_rfl)))) ?_
   refine Z0r 3 rfl (by kernel_rfl) (Z1 rfl) (fun K135 hK135 => ?_)
   have l141 := s.h.len
   refine Zv (d := 19) rfl (by kernel_rfl) (Z1B w132 r92 a126 c127 (((([] : List UInt8) ++ Zu ([114, 101, 113, 117, 101, 115, 116])) ++ Z9 s.cl) ++ Z9 s.seq) (H133.fin [3, 4] (by decide) rfl) (by simp only [List.length_append, List.length_nil]; omega) s.h) ?_
   rintro _ w136 ⟨a138, c139, rfl, T137⟩
   have H142 : Sat w [Z6 w (fun _ => False), Z3 b2 50 (([(.int .i64 (s.cl)), (.int .i64 (s.seq))] : List Value) ++ hc s.h ++ ([(.int .i64 (s.len)), (.int .i64 (s.sb)), (.int .i64 (s.sm))] : List Value)), Z0V (.slice (some ⟨b85, 0, none⟩) 7 7) ([114, 101, 113, 117, 101, 115, 116]), Z3 r92 174 ([(.slice a138 (((((([] : List UInt8) ++ Zu ([114, 101, 113, 117, 101, 115, 116])) ++ Z9 s.cl) ++ Z9 s.seq) ++ s.h.l).length) c139)] : List Value), Zb 5 1 (.slice a138 (((((([] : List UInt8) ++ Zu ([114, 101, 113, 117, 101, 115, 116])) ++ Z9 s.cl) ++ Z9 s.seq) ++ s.h.l).length) c139) (((((([] : List UInt8) ++ Zu ([114, 101, 113, 117, 101, 115, 116])) ++ Z9 s.cl) ++ Z9 s.seq) ++ s.h.l).length) (((((([] : List UInt8) ++ Zu ([114, 101, 113, 117, 101, 115, 116])) ++ Z9 s.cl) ++ Z9 s.seq) ++ s.h.l).flatMap Zr)] w136 := (Sat.turnL (L' := [Z3 r92 174 ([(.slice a138 (((((([] : List UInt8) ++ Zu ([114, 101, 113, 117, 101, 115, 116])) ++ Z9 s.cl) ++ Z9 s.seq) ++ s.h.l).length) c139)] : List Value), Zb 5 1 (.slice a138 (((((([] : List UInt8) ++ Zu ([114, 101, 113, 117, 101, 115, 116])) ++ Z9 s.cl) ++ Z9 s.seq) ++ s.h.l).length) c139) (((((([] : List UInt8) ++ Zu ([114, 101, 113, 117, 101, 115, 116])) ++ Z9 s.cl) ++ Z9 s.seq) ++ s.h.l).length) (((((([] : List UInt8) ++ Zu ([114, 101, 113, 117, 101, 115, 116])) ++ Z9 s.cl) ++ Z9 s.seq) ++ s.h.l).flatMap Zr)]) (R := [Z6 w (fun _ => False), Z3 b2 50 (([(.int .i64 (s.cl)), (.int .i64 (s.seq))] : List Value) ++ hc s.h ++ ([(.int .i64 (s.len)), (.int .i64 (s.sb)), (.int .i64 (s.sm))] : List Value)), Z0V (.slice (some ⟨b85, 0, none⟩) 7 7) ([114, 101, 113, 117, 101, 115, 116])]) H133 [3, 4] [0, 1, 2] (by decide) (by kernel_rfl) rfl T137).pick [2, 3, 4, 0, 1] (by decide)
   refine ⟨_, rfl, ?_⟩
   have S143 := H142.pick [0, 1, 2] (by decide)
   refine hK135 _ _ S143 ?_
   clear hK135 K135
   refine Z0r 6 rfl (by kernel_rfl) (Z1 rfl) (fun K144 hK144 => ?_)
   have l150 := ZN s.len
   refine Zv (d := 22) rfl (by kernel_rfl) (Z0z w136 r92 a138 c139 ((((([] : List UInt8) ++ Zu ([114, 101, 113, 117, 101, 115, 116])) ++ Z9 s.cl) ++ Z9 s.seq) ++ s.h.l) (H142.fin [3, 4] (by decide) rfl) (by simp only [List.length_append, List.length_nil]; omega) s.len (by omega)) ?_
   rintro _ w145 ⟨a147, c148, rfl, T146⟩
   have H151 : Sat w [Z6 w (fun _ => False), Z3 b2 50 (([(.int .i64 (s.cl)), (.int .i64 (s.seq))] : List Value) ++ hc s.h ++ ([(.int .i64 (s.len)), (.int .i64 (s.sb)), (.int .i64 (s.sm))] : List Value)), Z0V (.slice (some ⟨b85, 0, none⟩) 7 7) ([114, 101, 113, 117, 101, 115, 116]), Z3 r92 174 ([(.slice a147 ((((((([] : List UInt8) ++ Zu ([114, 101, 113, 117, 101, 115, 116])) ++ Z9 s.cl) ++ Z9 s.seq) ++ s.h.l) ++ Z9 s.len).length) c148)] : List Value), Zb 5 1 (.slice a147 ((((((([] : List UInt8) ++ Zu ([114, 101, 113, 117, 101, 115, 116])) ++ Z9 s.cl) ++ Z9 s.seq) ++ s.h.l) ++ Z9 s.len).length) c148) ((((((([] : List UInt8) ++ Zu ([114, 101, 113, 117, 101, 115, 116])) ++ Z9 s.cl) ++ Z9 s.seq) ++ s.h.l) ++ Z9 s.len).length) ((((((([] : List UInt8) ++ Zu ([114, 101, 113, 117, 101, 115, 116])) ++ Z9 s.cl) ++ Z9 s.seq) ++ s.h.l) ++ Z9 s.len).flatMap Zr)] w145 := (Sat.turnL (L' := [Z3 r92 174 ([(.slice a147 ((((((([] : List UInt8) ++ Zu ([114, 101, 113, 117, 101, 115, 116])) ++ Z9 s.cl) ++ Z9 s.seq) ++ s.h.l) ++ Z9 s.len).length) c148)] : List Value), Zb 5 1 (.slice a147 ((((((([] : List UInt8) ++ Zu ([114, 101, 113, 117, 101, 115, 116])) ++ Z9 s.cl) ++ Z9 s.seq) ++ s.h.l) ++ Z9 s.len).length) c148) ((((((([] : List UInt8) ++ Zu ([114, 101, 113, 117, 101, 115, 116])) ++ Z9 s.cl) ++ Z9 s.seq) ++ s.h.l) ++ Z9 s.len).length) ((((((([] : List UInt8) ++ Zu ([114, 101, 113, 117, 101, 115, 116])) ++ Z9 s.cl) ++ Z9 s.seq) ++ s.h.l) ++ Z9 s.len).flatMap Zr)]) (R := [Z6 w (fun _ => False), Z3 b2 50 (([(.int .i64 (s.cl)), (.int .i64 (s.seq))] : List Value) ++ hc s.h ++ ([(.int .i64 (s.len)), (.int .i64 (s.sb)), (.int .i64 (s.sm))] : List Value)), Z0V (.slice (some ⟨b85, 0, none⟩) 7 7) ([114, 101, 113, 117, 101, 115, 116])]) H142 [3, 4] [0, 1, 2] (by decide) (by kernel_rfl) rfl T146).pick [2, 3, 4, 0, 1] (by decide)
   refine ⟨_, rfl, ?_⟩
   have S152 := H151.pick [0, 1, 2] (by decide)
   refine hK144 _ _ S152 ?_
   clear hK144 K144
   refine Z0r 7 rfl (by kernel_rfl) (Z1 rfl) (fun K153 hK153 => ?_)
   refine Zv (d := 23) rfl (by kernel_rfl) (Z1r w145 r92 a147 c148 (((((([] : List UInt8) ++ Zu ([114, 101, 113, 117, 101, 115, 116])) ++ Z9 s.cl) ++ Z9 s.seq) ++ s.h.l) ++ Z9 s.len) (H151.fin [3, 4] (by decide) rfl) (by simp only [List.length_append, List.length_nil]; omega)) ?_
   rintro _ w154 ⟨u155, rfl, T156⟩
   have H157 : Sat w [Z6 w (fun _ => False), Z3 b2 50 (([(.int .i64 (s.cl)), (.int .i64 (s.seq))] : List Value) ++ hc s.h ++ ([(.int .i64 (s.len)), (.int .i64 (s.sb)), (.int .i64 (s.sm))] : List Value)), Z0V (.slice (some ⟨b85, 0, none⟩) 7 7) ([114, 101, 113, 117, 101, 115, 116]), Z3 r92 174 ([(.slice a147 ((((((([] : List UInt8) ++ Zu ([114, 101, 113, 117, 101, 115, 116])) ++ Z9 s.cl) ++ Z9 s.seq) ++ s.h.l) ++ Z9 s.len).length) c148)] : List Value), Zb 5 1 (.slice a147 ((((((([] : List UInt8) ++ Zu ([114, 101, 113, 117, 101, 115, 116])) ++ Z9 s.cl) ++ Z9 s.seq) ++ s.h.l) ++ Z9 s.len).length) c148) ((((((([] : List UInt8) ++ Zu ([114, 101, 113, 117, 101, 115, 116])) ++ Z9 s.cl) ++ Z9 s.seq) ++ s.h.l) ++ Z9 s.len).length) ((((((([] : List UInt8) ++ Zu ([114, 101, 113, 117, 101, 115, 116])) ++ Z9 s.cl) ++ Z9 s.seq) ++ s.h.l) ++ Z9 s.len).flatMap Zr), Zb 5 1 u155 ((((((([] : List UInt8) ++ Zu ([114, 101, 113, 117, 101, 115, 116])) ++ Z9 s.cl) ++ Z9 s.seq) ++ s.h.l) ++ Z9 s.len).length) ((((((([] : List UInt8) ++ Zu ([114, 101, 113, 117, 101, 115, 116])) ++ Z9 s.cl) ++ Z9 s.seq) ++ s.h.l) ++ Z9 s.len).flatMap Zr)] w154 := (Sat.turnL (L' := [Z3 r92 174 ([(.slice a147 ((((((([] : List UInt8) ++ Zu ([114, 101, 113, 117, 101, 115, 116])) ++ Z9 s.cl) ++ Z9 s.seq) ++ s.h.l) ++ Z9 s.len).length) c148)] : List Value), Zb 5 1 (.slice a147 ((((((([] : List UInt8) ++ Zu ([114, 101, 113, 117, 101, 115, 116])) ++ Z9 s.cl) ++ Z9 s.seq) ++ s.h.l) ++ Z9 s.len).length) c148) ((((((([] : List UInt8) ++ Zu ([114, 101, 113, 117, 101, 115, 116])) ++ Z9 s.cl) ++ Z9 s.seq) ++ s.h.l) ++ Z9 s.len).length) ((((((([] : List UInt8) ++ Zu ([114, 101, 113, 117, 101, 115, 116])) ++ Z9 s.cl) ++ Z9 s.seq) ++ s.h.l) ++ Z9 s.len).flatMap Zr), Zb 5 1 u155 ((((((([] : List UInt8) ++ Zu ([114, 101, 113, 117, 101, 115, 116])) ++ Z9 s.cl) ++ Z9 s.seq) ++ s.h.l) ++ Z9 s.len).length) ((((((([] : List UInt8) ++ Zu ([114, 101, 113, 117, 101, 115, 116])) ++ Z9 s.cl) ++ Z9 s.seq) ++ s.h.l) ++ Z9 s.len).flatMap Zr)]) (R := [Z6 w (fun _ => False), Z3 b2 50 (([(.int .i64 (s.cl)), (.int .i64 (s.seq))] : List Value) ++ hc s.h ++ ([(.int .i64 (s.len)), (.int .i64 (s.sb)), (.int .i64 (s.sm))] : List Value)), Z0V (.slice (some ⟨b85, 0, none⟩) 7 7) ([114, 101, 113, 117, 101, 115, 116])]) H151 [3, 4] [0, 1, 2] (by decide) (by kernel_rfl) rfl T156).pick [3, 4, 5, 0, 1, 2] (by decide)
   obtain ⟨a158, c159, rfl⟩ := Zl (H157.at 5 rfl)
   refine ⟨_, rfl, ?_⟩
   have S160 := H157.pick [0, 1, 2] (by decide)
   refine hK153 _ _ S160 ?_
   clear hK153 K153
   refine Ze 8 rfl (by kernel_rfl) (by kernel_rfl) (by kernel_rfl) (fun _ _ _ h => h) S160 (Z1 rfl) (d := 2) (v := (.slice a158 (((((([] : List UInt8) ++ Zu ([114, 101, 113, 117, 101, 115, 116])) ++ Z9 s.cl) ++ Z9 s.seq) ++ s.h.l) ++ Z9 s.len).length c159)) rfl (fun _ H' => (by kernel_rfl)) ?_
   refine Z0C (by kernel_rfl) ?_
   refine Z4 ?_
   refine ZY ?_
   refine Z0O rfl (ZF (v := (.slice a158 (((((([] : List UInt8) ++ Zu ([114, 101, 113, 117, 101, 115, 116])) ++ Z9 s.cl) ++ Z9 s.seq) ++ s.h.l) ++ Z9 s.len).length c159)) rfl) ?_
   have hX : (((((([] : List UInt8) ++ Zu ([114, 101, 113, 117, 101, 115, 116])) ++ Z9 s.cl) ++ Z9 s.seq) ++ s.h.l) ++ Z9 s.len) = Zk s := by simp only [Zw, Zk, Z0U, List.flatten_cons, List.flatten_nil, List.append_nil, List.append_assoc, List.nil_append]
   exact ⟨_, rfl, (by rw [← hX]; exact H157.at 5 rfl), H157.upd 0 rfl [] (fun _ h => h.elim), (by rw [← hX]; exact H157.fresh 0 rfl (fun _ h => h) 5 rfl rfl)⟩
  ·refine Z1t (e := 5) (s := [114, 101, 113, 117, 101, 115, 116]) rfl H88 2 rfl (by kernel_rfl) (by kernel_rfl) rfl ?_
   intro w161 (H162 : Sat w [Z6 w (fun _ => False), Z3 b2 50 (([(.int .i64 (s.cl)), (.int .i64 (s.seq))] : List Value) ++ hc s.h ++ ([(.int .i64 (s.len)), (.int .i64 (s.sb)), (.int .i64 (s.sm))] : List Value)), Z0V (.slice (some ⟨b85, 0, none⟩) 7 7) ([114, 101, 113, 117, 101, 115, 116])] w161)
   have S163 := H162.pick [0, 1] (by decide)
   refine hK90 _ _ S163 ?_
   clear hK90 K90
   refine Z0r 0 rfl (by kernel_rfl) (Z1 rfl) (fun K164 hK164 => ?_)
   refine Zv (d := 4) rfl (by kernel_rfl) (Z3v w161) ?_
   rintro _ w165 ⟨r166, a167, c168, rfl, k169, p170, q171⟩
   have H172 : Sat w [Z6 w (fun _ => False), Z3 b2 50 (([(.int .i64 (s.cl)), (.int .i64 (s.seq))] : List Value) ++ hc s.h ++ ([(.int .i64 (s.len)), (.int .i64 (s.sb)), (.int .i64 (s.sm))] : List Value)), Z0V (.slice (some ⟨b85, 0, none⟩) 7 7) ([114, 101, 113, 117, 101, 115, 116]), ZH (wrL r166 a167 c168 ([] : List UInt8))] w165 := H162.addU p170 k169 q171
   have H173 : Sat w [Z6 w (fun _ => False), Z3 b2 50 (([(.int .i64 (s.cl)), (.int .i64 (s.seq))] : List Value) ++ hc s.h ++ ([(.int .i64 (s.len)), (.int .i64 (s.sb)), (.int .i64 (s.sm))] : List Value)), Z0V (.slice (some ⟨b85, 0, none⟩) 7 7) ([114, 101, 113, 117, 101, 115, 116]), Z3 r166 174 ([(.slice a167 (([] : List UInt8).length) c168)] : List Value), Zb 5 1 (.slice a167 (([] : List UInt8).length) c168) (([] : List UInt8).length) (([] : List UInt8).flatMap Zr)] w165 := H172.open 3 rfl
   refine ⟨_, rfl, ?_⟩
   have S174 := H173.pick [0, 1] (by decide)
   refine hK164 _ _ S174 ?_
   clear hK164 K164
   refine Z0r 3 rfl (by kernel_rfl) (Z1 rfl) (fun K175 hK175 => ?_)
   have l181 := (show (Zu [114, 101, 113, 117, 101, 115, 116]).length ≤ 17 from Z0P _)
   refine Zv (d := 7) rfl (by kernel_rfl) (Z2R w165 r166 a167 c168 ([] : List UInt8) (H173.fin [3, 4] (by decide) rfl) (by simp) (some ⟨b85, 0, none⟩) 7 ([114, 101, 113, 117, 101, 115, 116]) (ListAt.ofTxt (H173.at 2 rfl)) (Z4x (fun b hb => H173.offP [3, 4] 2 rfl rfl (by decide) hb)) (by first | omega | simp)) ?_
   rintro _ w176 ⟨a178, c179, rfl, T177⟩
   have H182 : Sat w [Z6 w (fun _ => False), Z3 b2 50 (([(.int .i64 (s.cl)), (.int .i64 (s.seq))] : List Value) ++ hc s.h ++ ([(.int .i64 (s.len)), (.int .i64 (s.sb)), (.int .i64 (s.sm))] : List Value)), Z0V (.slice (some ⟨b85, 0, none⟩) 7 7) ([114, 101, 113, 117, 101, 115, 116]), Z3 r166 174 ([(.slice a178 ((([] : List UInt8) ++ Zu ([114, 101, 113, 117, 101, 115, 116])).length) c179)] : List Value), Zb 5 1 (.slice a178 ((([] : List UInt8) ++ Zu ([114, 101, 113, 117, 101, 115, 116])).length) c179) ((([] : List UInt8) ++ Zu ([114, 101, 113, 117, 101, 115, 116])).length) ((([] : List UInt8) ++ Zu ([114, 101, 113, 117, 101, 115, 116])).flatMap Zr)] w176 := (Sat.turnL (L' := [Z3 r166 174 ([(.slice a178 ((([] : List UInt8) ++ Zu ([114, 101, 113, 117, 101, 115, 116])).length) c179)] : List Value), Zb 5 1 (.slice a178 ((([] : List UInt8) ++ Zu ([114, 101, 113, 117, 101, 115, 116])).length) c179) ((([] : List UInt8) ++ Zu ([114, 101, 113, 117, 101, 115, 116])).length) ((([] : List UInt8) ++ Zu ([114, 101, 113, 117, 101, 115, 116])).flatMap Zr)]) (R := [Z6 w (fun _ => False), Z3 b2 50 (([(.int .i64 (s.cl)), (.int .i64 (s.seq))] : List Value) ++ hc s.h ++ ([(.int .i64 (s.len)), (.int .i64 (s.sb)), (.int .i64 (s.sm))] : List Value)), Z0V (.slice (some ⟨b85, 0, none⟩) 7 7) ([114, 101, 113, 117, 101, 115, 116])]) H173 [3, 4] [0, 1, 2] (by decide) (by kernel_rfl) rfl T177).pick [2, 3, 4, 0, 1] (by decide)
   refine ⟨_, rfl, ?_⟩
   have S183 := H182.pick [0, 1] (by decide)
   refine hK175 _ _ S183 ?_
   clear hK175 K175
   refine Z0r 7 rfl (by kernel_rfl) (Z1 rfl) (fun K184 hK184 => ?_)
   have l190 := ZN s.cl
   refine Zv (d := 11) rfl (by kernel_rfl) (Z0z w176 r166 a178 c179 (([] : List UInt8) ++ Zu ([114, 101, 113, 117, 101, 115, 116])) (H182.fin [3, 4] (by decide) rfl) (by simp only [List.length_append, List.length_nil]; omega) s.cl (by omega)) ?_
   rintro _ w185 ⟨a187, c188, rfl, T186⟩
   have H191 : Sat w [Z6 w (fun _ => False), Z3 b2 50 (([(.int .i64 (s.cl)), (.int .i64 (s.seq))] : List Value) ++ hc s.h ++ ([(.int .i64 (s.len)), (.int .i64 (s.sb)), (.int .i64 (s.sm))] : List Value)), Z0V (.slice (some ⟨b85, 0, none⟩) 7 7) ([114, 101, 113, 117, 101, 115, 116]), Z3 r166 174 ([(.slice a187 (((([] : List UInt8) ++ Zu ([114, 101, 113, 117, 101, 115, 116])) ++ Z9 s.cl).length) c188)] : List Value), Zb 5 1 (.slice a187 (((([] : List UInt8) ++ Zu ([114, 101, 113, 117, 101, 115, 116])) ++ Z9 s.cl).length) c188) (((([] : List UInt8) ++ Zu ([114, 101, 113, 117, 101, 115, 116])) ++ Z9 s.cl).length) (((([] : List UInt8) ++ Zu ([114, 101, 113, 117, 101, 115, 116])) ++ Z9 s.cl).flatMap Zr)] w185 := (Sat.turnL (L' := [Z3 r166 174 ([(.slice a187 (((([] : List UInt8) ++ Zu ([114, 101, 113, 117, 101, 115, 116])) ++ Z9 s.cl).length) c188)] : List Value), Zb 5 1 (.slice a187 (((([] : List UInt8) ++ Zu ([114, 101, 113, 117, 101, 115, 116])) ++ Z9 s.cl).length) c188) (((([] : List UInt8) ++ Zu ([114, 101, 113, 117, 101, 115, 116])) ++ Z9 s.cl).length) (((([] : List UInt8) ++ Zu ([114, 101, 113, 117, 101, 115, 116])) ++ Z9 s.cl).flatMap Zr)]) (R := [Z6 w (fun _ => False), Z3 b2 50 (([(.int .i64 (s.cl)), (.int .i64 (s.seq))] : List Value) ++ hc s.h ++ ([(.int .i64 (s.len)), (.int .i64 (s.sb)), (.int .i64 (s.sm))] : List Value)), Z0V (.slice (some ⟨b85, 0, none⟩) 7 7) ([114, 101, 113, 117, 101, 115, 116])]) H182 [3, 4] [0, 1, 2] (by decide) (by kernel_rfl) rfl T186).pick [2, 3, 4, 0, 1] (by decide)
   refine ⟨_, rfl, ?_⟩
   have S192 := H191.pick [0, 1] (by decide)
   refine hK184 _ _ S192 ?_
   clear hK184 K184
   refine Z0r 11 rfl (by kernel_rfl) (Z1 rfl) (fun K193 hK193 => ?_)
   have l199 := ZN s.seq
   refine Zv (d := 15) rfl (by kernel_rfl) (Z0z w185 r166 a187 c188 ((([] : List UInt8) ++ Zu ([114, 101, 113, 117, 101, 115, 116])) ++ Z9 s.cl) (H191.fin [3, 4] (by decide) rfl) (by simp only [List.length_append, List.length_nil]; omega) s.seq (by omega)) ?_
   rintro _ w194 ⟨a196, c197, rfl, T195⟩
   have H200 : Sat w [Z6 w (fun _ => False), Z3 b2 50 (([(.int .i64 (s.cl)), (.int .i64 (s.seq))] : List Value) ++ hc s.h ++ ([(.int .i64 (s.len)), (.int .i64 (s.sb)), (.int .i64 (s.sm))] : List Value)), Z0V (.slice (some ⟨b85, 0, none⟩) 7 7) ([114, 101, 113, 117, 101, 115, 116]), Z3 r166 174 ([(.slice a196 ((((([] : List UInt8) ++ Zu ([114, 101, 113, 117, 101, 115, 116])) ++ Z9 s.cl) ++ Z9 s.seq).length) c197)] : List Value), Zb 5 1 (.slice a196 ((((([] : List UInt8) ++ Zu ([114, 101, 113, 117, 101, 115, 116])) ++ Z9 s.cl) ++ Z9 s.seq).length) c197) ((((([] : List UInt8) ++ Zu ([114, 101, 113, 117, 101, 115, 116])) ++ Z9 s.cl) ++ Z9 s.seq).length) ((((([] : List UInt8) ++ Zu ([114, 101, 113, 117, 101, 115, 116])) ++ Z9 s.cl) ++ Z9 s.seq).flatMap Zr)] w194 := (Sat.turnL (L' := [Z3 r166 174 ([(.slice a196 ((((([] : List UInt8) ++ Zu ([114, 101, 113, 117, 101, 115, 116])) ++ Z9 s.cl) ++ Z9 s.seq).length) c197)] : List Value), Zb 5 1 (.slice a196 ((((([] : List UInt8) ++ Zu ([114, 101, 113, 117, 101, 115, 116])) ++ Z9 s.cl) ++ Z9 s.seq).length) c197) ((((([] : List UInt8) ++ Zu ([114, 101, 113, 117, 101, 115, 116])) ++ Z9 s.cl) ++ Z9 s.seq).length) ((((([] : List UInt8) ++ Zu ([114, 101, 113, 117, 101, 115, 116])) ++ Z9 s.cl) ++ Z9 s.seq).flatMap Zr)]) (R := [Z6 w (fun _ => False), Z3 b2 50 (([(.int .i64 (s.cl)), (.int .i64 (s.seq))] : List Value) ++ hc s.h ++ ([(.int .i64 (s.len)), (.int .i64 (s.sb)), (.int .i64 (s.sm))] : List Value)), Z0V (.slice (some ⟨b85, 0, none⟩) 7 7) ([114, 101, 113, 117, 101, 115, 116])]) H191 [3, 4] [0, 1, 2] (by decide) (by kernel_rfl) rfl T195).pick [2, 3, 4, 0, 1] (by decide)
   refine ⟨_, rfl, ?_⟩
   have S201 := H200.pick [0, 1] (by decide)
   refine hK193 _ _ S201 ?_
   clear hK193 K193
   refine Ze 12 rfl (by kernel_rfl) (by kernel_rfl) (by kernel_rfl) (fun _ _ _ h => h) S201 (Z1 rfl) (d := 3) (v := (.pointer (some ⟨r166, 0, none⟩))) rfl (fun _ H' => (by kernel_rfl)) ?_
   refine Z0C (by kernel_rfl) ?_
   refine Z4 ?_
   refine Zc ?_
   refine Z0k H200 [Z6 w (fun _ => False), Z3 b2 50 (([(.int .i64 (s.cl)), (.int .i64 (s.seq))] : List Value) ++ hc s.h ++ ([(.int .i64 (s.len)), (.int .i64 (s.sb)), (.int .i64 (s.sm))] : List Value)), Z0V (.slice (some ⟨b85, 0, none⟩) 7 7) ([114, 101, 113, 117, 101, 115, 116])] 9 rfl (by kernel_rfl) (fun Hx => (Hx.pick [0, 1, 2] (by decide))) ?_
   intro w202 H203 S204
   refine Ze 0 rfl (by kernel_rfl) (by kernel_rfl) (by kernel_rfl) (fun _ _ _ h => h) S204 (Z1 rfl) (d := 16) (v := (.pointer (some ⟨r166, 0, none⟩))) rfl (fun _ H' => (by kernel_rfl)) ?_
   refine Ze 1 rfl (by kernel_rfl) (by kernel_rfl) (by kernel_rfl) (fun _ _ _ h => h) S204 (Z1 rfl) (d := 17) (v := (.pointer (some ⟨b2, 2, none⟩))) rfl (fun _ H' => (by kernel_rfl)) ?_
   refine Ze 2 rfl (by kernel_rfl) (by kernel_rfl) (by kernel_rfl) (fun _ _ _ h => h) S204 (Z1 rfl) (d := 18) (v := (.agg ⟨(hc s.h)⟩)) rfl (fun _ H' => (ZB (vs := (hc s.h)) rfl (by kernel_rfl) (by kernel_rfl) (by exact Nat.le_of_ble_eq_true (by kernel_rfl)) (H'.at 1 rfl) (by kernel_rfl))) ?_
   refine Ze 4 rfl (by kernel_rfl) (by kernel_rfl) (by kernel_rfl) (fun _ _ _ h => h) S204 (Z1 rfl) (d := 20) (v := (.pointer (some ⟨b2, 34, none⟩))) rfl (fun _ H' => (by kernel_rfl)) ?_
   refine Ze 5 rfl (by kernel_rfl) (by kernel_rfl) (by kernel_rfl) (fun _ _ _ h => h) S204 (Z1 rfl) (d := 21) (v := (.int .i64 (s.len))) rfl (fun _ H' => (Zi rfl (by kernel_rfl) (H'.cell 1 rfl (by kernel_rfl)))) ?_
   refine Z0r 3 rfl (by kernel_rfl) (Z1 rfl) (fun K205 hK205 => ?_)
   have l211 := s.h.len
   refine Zv (d := 19) rfl (by kernel_rfl) (Z1B w202 r166 a196 c197 (((([] : List UInt8) ++ Zu ([114, 101, 113, 117, 101, 115, 116])) ++ Z9 s.cl) ++ Z9 s.seq) (H203.fin [3, 4] (by decide) rfl) (by simp only [List.length_append, List.length_nil]; omega) s.h) ?_
   rintro _ w206 ⟨a208, c209, rfl, T207⟩
   have H212 : Sat w [Z6 w (fun _ => False), Z3 b2 50 (([(.int .i64 (s.cl)), (.int .i64 (s.seq))] : List Value) ++ hc s.h ++ ([(.int .i64 (s.len)), (.int .i64 (s.sb)), (.int .i64 (s.sm))] : List Value)), Z0V (.slice (some ⟨b85, 0, none⟩) 7 7) ([114, 101, 113, 117, 101, 115, 116]), Z3 r166 174 ([(.slice a208 (((((([] : List UInt8) ++ Zu ([114, 101, 113, 117, 101, 115, 116])) ++ Z9 s.cl) ++ Z9 s.seq) ++ s.h.l).length) c209)] : List Value), Zb 5 1 (.slice a208 (((((([] : List UInt8) ++ Zu ([114, 101, 113, 117, 101, 115, 116])) ++ Z9 s.cl) ++ Z9 s.seq) ++ s.h.l).length) c209) (((((([] : List UInt8) ++ Zu ([114, 101, 113, 117, 101, 115, 116])) ++ Z9 s.cl) ++ Z9 s.seq) ++ s.h.l).length) (((((([] : List UInt8) ++ Zu ([114, 101, 113, 117, 101, 115, 116])) ++ Z9 s.cl) ++ Z9 s.seq) ++ s.h.l).flatMap Zr)] w206 := (Sat.turnL (L' := [Z3 r166 174 ([(.slice a208 (((((([] : List UInt8) ++ Zu ([114, 101, 113, 117, 101, 115, 116])) ++ Z9 s.cl) ++ Z9 s.seq) ++ s.h.l).length) c209)] : List Value), Zb 5 1 (.slice a208 (((((([] : List UInt8) ++ Zu ([114, 101, 113, 117, 101, 115, 116])) ++ Z9 s.cl) ++ Z9 s.seq) ++ s.h.l).length) c209) (((((([] : List UInt8) ++ Zu ([114, 101, 113, 117, 101, 115, 116])) ++ Z9 s.cl) ++ Z9 s.seq) ++ s.h.l).length) (((((([] : List UInt8) ++ Zu ([114, 101, 113, 117, 101, 115, 116])) ++ Z9 s.cl) ++ Z9 s.seq) ++ s.h.l).flatMap Zr)]) (R := [Z6 w (fun _ => False), Z3 b2 50 (([(.int .i64 (s.cl)), (.int .i64 (s.seq))] : List Value) ++ hc s.h ++ ([(.int .i64 (s.len)), (.int .i64 (s.sb)), (.int .i64 (s.sm))] : List Value)), Z0V (.slice (some ⟨b85, 0, none⟩) 7 7) ([114, 101, 113, 117, 101, 115, 116])]) H203 [3, 4] [0, 1, 2] (by decide) (by kernel_rfl) rfl T207).pick [2, 3, 4, 0, 1] (by decide)
   refine ⟨_, rfl, ?_⟩
   have S213 := H212.pick [0, 1, 2] (by decide)
   refine hK205 _ _ S213 ?_
   clear hK205 K205
   refine Z0r 6 rfl (by kernel_rfl) (Z1 rfl) (fun K214 hK214 => ?_)
   have l220 := ZN s.len
   refine Zv (d := 22) rfl (by kernel_rfl) (Z0z w206 r166 a208 c209 ((((([] : List UInt8) ++ Zu ([114, 101, 113, 117, 101, 115, 116])) ++ Z9 s.cl) ++ Z9 s.seq) ++ s.h.l) (H212.fin [3, 4] (by decide) rfl) (by simp only [List.length_append, List.length_nil]; omega) s.len (by omega)) ?_
   rintro _ w215 ⟨a217, c218, rfl, T216⟩
   have H221 : Sat w [Z6 w (fun _ => False), Z3 b2 50 (([(.int .i64 (s.cl)), (.int .i64 (s.seq))] : List Value) ++ hc s.h ++ ([(.int .i64 (s.len)), (.int .i64 (s.sb)), (.int .i64 (s.sm))] : List Value)), Z0V (.slice (some ⟨b85, 0, none⟩) 7 7) ([114, 101, 113, 117, 101, 115, 116]), Z3 r166 174 ([(.slice a217 ((((((([] : List UInt8) ++ Zu ([114, 101, 113, 117, 101, 115, 116])) ++ Z9 s.cl) ++ Z9 s.seq) ++ s.h.l) ++ Z9 s.len).length) c218)] : List Value), Zb 5 1 (.slice a217 ((((((([] : List UInt8) ++ Zu ([114, 101, 113, 117, 101, 115, 116])) ++ Z9 s.cl) ++ Z9 s.seq) ++ s.h.l) ++ Z9 s.len).length) c218) ((((((([] : List UInt8) ++ Zu ([114, 101, 113, 117, 101, 115, 116])) ++ Z9 s.cl) ++ Z9 s.seq) ++ s.h.l) ++ Z9 s.len).length) ((((((([] : List UInt8) ++ Zu ([114, 101, 113, 117, 101, 115, 116])) ++ Z9 s.cl) ++ Z9 s.seq) ++ s.h.l) ++ Z9 s.len).flatMap Zr)] w215 := (Sat.turnL (L' := [Z3 r166 174 ([(.slice a217 ((((((([] : List UInt8) ++ Zu ([114, 101, 113, 117, 101, 115, 116])) ++ Z9 s.cl) ++ Z9 s.seq) ++ s.h.l) ++ Z9 s.len).length) c218)] : List Value), Zb 5 1 (.slice a217 ((((((([] : List UInt8) ++ Zu ([114, 101, 113, 117, 101, 115, 116])) ++ Z9 s.cl) ++ Z9 s.seq) ++ s.h.l) ++ Z9 s.len).length) c218) ((((((([] : List UInt8) ++ Zu ([114, 101, 113, 117, 101, 115, 116])) ++ Z9 s.cl) ++ Z9 s.seq) ++ s.h.l) ++ Z9 s.len).length) ((((((([] : List UInt8) ++ Zu ([114, 101, 113, 117, 101, 115, 116])) ++ Z9 s.cl) ++ Z9 s.seq) ++ s.h.l) ++ Z9 s.len).flatMap Zr)]) (R := [Z6 w (fun _ => False), Z3 b2 50 (([(.int .i64 (s.cl)), (.int .i64 (s.seq))] : List Value) ++ hc s.h ++ ([(.int .i64 (s.len)), (.int .i64 (s.sb)), (.int .i64 (s.sm))] : List Value)), Z0V (.slice (some ⟨b85, 0, none⟩) 7 7) ([114, 101, 113, 117, 101, 115, 116])]) H212 [3, 4] [0, 1, 2] (by decide) (by kernel_rfl) rfl T216).pick [2, 3, 4, 0, 1] (by decide)
   refine ⟨_, rfl, ?_⟩
   have S222 := H221.pick [0, 1, 2] (by decide)
   refine hK214 _ _ S222 ?_
   clear hK214 K214
   refine Z0r 7 rfl (by kernel_rfl) (Z1 rfl) (fun K223 hK223 => ?_)
   refine Zv (d := 23) rfl (by kernel_rfl) (Z1r w215 r166 a217 c218 (((((([] : List UInt8) ++ Zu ([114, 101, 113, 117, 101, 115, 116])) ++ Z9 s.cl) ++ Z9 s.seq) ++ s.h.l) ++ Z9 s.len) (H221.fin [3, 4] (by decide) rfl) (by simp only [List.length_append, List.length_nil]; omega)) ?_
   rintro _ w224 ⟨u225, rfl, T226⟩
   have H227 : Sat w [Z6 w (fun _ => False), Z3 b2 50 (([(.int .i64 (s.cl)), (.int .i64 (s.seq))] : List Value) ++ hc s.h ++ ([(.int .i64 (s.len)), (.int .i64 (s.sb)), (.int .i64 (s.sm))] : List Value)), Z0V (.slice (some ⟨b85, 0, none⟩) 7 7) ([114, 101, 113, 117, 101, 115, 116]), Z3 r166 174 ([(.slice a217 ((((((([] : List UInt8) ++ Zu ([114, 101, 113, 117, 101, 115, 116])) ++ Z9 s.cl) ++ Z9 s.seq) ++ s.h.l) ++ Z9 s.len).length) c218)] : List Value), Zb 5 1 (.slice a217 ((((((([] : List UInt8) ++ Zu ([114, 101, 113, 117, 101, 115, 116])) ++ Z9 s.cl) ++ Z9 s.seq) ++ s.h.l) ++ Z9 s.len).length) c218) ((((((([] : List UInt8) ++ Zu ([114, 101, 113, 117, 101, 115, 116])) ++ Z9 s.cl) ++ Z9 s.seq) ++ s.h.l) ++ Z9 s.len).length) ((((((([] : List UInt8) ++ Zu ([114, 101, 113, 117, 101, 115, 116])) ++ Z9 s.cl) ++ Z9 s.seq) ++ s.h.l) ++ Z9 s.len).flatMap Zr), Zb 5 1 u225 ((((((([] : List UInt8) ++ Zu ([114, 101, 113, 117, 101, 115, 116])) ++ Z9 s.cl) ++ Z9 s.seq) ++ s.h.l) ++ Z9 s.len).length) ((((((([] : List UInt8) ++ Zu ([114, 101, 113, 117, 101, 115, 116])) ++ Z9 s.cl) ++ Z9 s.seq) ++ s.h.l) ++ Z9 s.len).flatMap Zr)] w224 := (Sat.turnL (L' := [Z3 r166 174 ([(.slice a217 ((((((([] : List UInt8) ++ Zu ([114, 101, 113, 117, 101, 115, 116])) ++ Z9 s.cl) ++ Z9 s.seq) ++ s.h.l) ++ Z9 s.len).length) c218)] : List Value), Zb 5 1 (.slice a217 ((((((([] : List UInt8) ++ Zu ([114, 101, 113, 117, 101, 115, 116])) ++ Z9 s.cl) ++ Z9 s.seq) ++ s.h.l) ++ Z9 s.len).length) c218) ((((((([] : List UInt8) ++ Zu ([114, 101, 113, 117, 101, 115, 116])) ++ Z9 s.cl) ++ Z9 s.seq) ++ s.h.l) ++ Z9 s.len).length) ((((((([] : List UInt8) ++ Zu ([114, 101, 113, 117, 101, 115, 116])) ++ Z9 s.cl) ++ Z9 s.seq) ++ s.h.l) ++ Z9 s.len).flatMap Zr), Zb 5 1 u225 ((((((([] : List UInt8) ++ Zu ([114, 101, 113, 117, 101, 115, 116])) ++ Z9 s.cl) ++ Z9 s.seq) ++ s.h.l) ++ Z9 s.len).length) ((((((([] : List UInt8) ++ Zu ([114, 101, 113, 117, 101, 115, 116])) ++ Z9 s.cl) ++ Z9 s.seq) ++ s.h.l) ++ Z9 s.len).flatMap Zr)]) (R := [Z6 w (fun _ => False), Z3 b2 50 (([(.int .i64 (s.cl)), (.int .i64 (s.seq))] : List Value) ++ hc s.h ++ ([(.int .i64 (s.len)), (.int .i64 (s.sb)), (.int .i64 (s.sm))] : List Value)), Z0V (.slice (some ⟨b85, 0, none⟩) 7 7) ([114, 101, 113, 117, 101, 115, 116])]) H221 [3, 4] [0, 1, 2] (by decide) (by kernel_rfl) rfl T226).pick [3, 4, 5, 0, 1, 2] (by decide)
   obtain ⟨a228, c229, rfl⟩ := Zl (H227.at 5 rfl)
   refine ⟨_, rfl, ?_⟩
   have S230 := H227.pick [0, 1, 2] (by decide)
   refine hK223 _ _ S230 ?_
   clear hK223 K223
   refine Ze 8 rfl (by kernel_rfl) (by kernel_rfl) (by kernel_rfl) (fun _ _ _ h => h) S230 (Z1 rfl) (d := 2) (v := (.slice a228 (((((([] : List UInt8) ++ Zu ([114, 101, 113, 117, 101, 115, 116])) ++ Z9 s.cl) ++ Z9 s.seq) ++ s.h.l) ++ Z9 s.len).length c229)) rfl (fun _ H' => (by kernel_rfl)) ?_
   refine Z0C (by kernel_rfl) ?_
   refine Z4 ?_
   refine ZY ?_
   refine Z0O rfl (ZF (v := (.slice a228 (((((([] : List UInt8) ++ Zu ([114, 101, 113, 117, 101, 115, 116])) ++ Z9 s.cl) ++ Z9 s.seq) ++ s.h.l) ++ Z9 s.len).length c229)) rfl) ?_
   have hX : (((((([] : List UInt8) ++ Zu ([114, 101, 113, 117, 101, 115, 116])) ++ Z9 s.cl) ++ Z9 s.seq) ++ s.h.l) ++ Z9 s.len) = Zk s := by simp only [Zw, Zk, Z0U, List.flatten_cons, List.flatten_nil, List.append_nil, List.append_assoc, List.nil_append]
   exact ⟨_, rfl, (by rw [← hX]; exact H227.at 5 rfl), H227.upd 0 rfl [] (fun _ h => h.elim), (by rw [← hX]; exact H227.fresh 0 rfl (fun _ h => h) 5 rfl rfl)⟩
end Go.Proofs.YtoaifondpohniaaGreat
