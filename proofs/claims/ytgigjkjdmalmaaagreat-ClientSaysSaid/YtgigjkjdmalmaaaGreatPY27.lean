/- WHAT IS PROVED: contracts and plain laws of WtA, IterU, CollU. Conditions: stated with each. -/
import Derived.Shelf.SlIter.Collect
import Derived.Test.YtgigjkjdmalmaaaGreatPY06
import Derived.Test.YtgigjkjdmalmaaaGreatPY11
import Derived.Test.YtgigjkjdmalmaaaGreatPY20
import Derived.Test.YtgigjkjdmalmaaaGreatPY26
set_option maxHeartbeats 4000000
set_option maxRecDepth 100000
namespace Go.Proofs.YtgigjkjdmalmaaaGreat
open Go.RowKit
theorem Z76 (w : World) (s : Zk) (hs : (s.r ≤ 9223372036854775807 ∧ s.cl ≤ 9223372036854775807 ∧ s.seq ≤ 9223372036854775807 ∧ 0 ≤ s.t ∧ s.t < 18446744073709551616)) :
  Calls Tryz.prog 85 #[(.agg ⟨(([(.int .i64 (s.r)), (.int .i64 (s.cl)), (.int .i64 (s.seq))] : List Value) ++ hc s.h ++ ([(.int .u64 (s.t)), (.int .i64 (s.sb)), (.int .i64 (s.sm))] : List Value))⟩)] w fun e w' => ∃ u, e = .returned u ∧ (Zc 5 1 u (Z8T s).length ((Z8T s).flatMap ZH)).ok w' ∧ Upd [] w w' ∧ ∀ q_, (Zc 5 1 u (Z8T s).length ((Z8T s).flatMap ZH)).fp q_ → w.heap.size ≤ q_ := by
 have H := Sat.start0 w
 refine Zg Tryz.func85 rfl 20 rfl (Nat.le_of_ble_eq_true rfl) ?_
 refine Zf ?_
 refine Zt ?_
 refine Z0B (Z5 rfl) (fun K1 hK1 => ?_)
 refine Z2R (vs := (([(.int .i64 (s.r)), (.int .i64 (s.cl)), (.int .i64 (s.seq))] : List Value) ++ hc s.h ++ ([(.int .u64 (s.t)), (.int .i64 (s.sb)), (.int .i64 (s.sm))] : List Value))) rfl H rfl rfl ?_
 intro b2 w3 (H4 : Sat w [Z7 w (fun _ => False), Z3 b2 59 (([(.int .i64 (s.r)), (.int .i64 (s.cl)), (.int .i64 (s.seq))] : List Value) ++ hc s.h ++ ([(.int .u64 (s.t)), (.int .i64 (s.sb)), (.int .i64 (s.sm))] : List Value))] w3)
 refine hK1 _ _ ?_
 clear hK1 K1
 refine Z6 (Z5 rfl) (d := 2) (v := (.slice none 0 0)) rfl (by kernel_rfl) ?_
 refine Zu ?_
 refine Zb ?_
 refine Zf ?_
 refine Z0b H4 [Z7 w (fun _ => False), Z3 b2 59 (([(.int .i64 (s.r)), (.int .i64 (s.cl)), (.int .i64 (s.seq))] : List Value) ++ hc s.h ++ ([(.int .u64 (s.t)), (.int .i64 (s.sb)), (.int .i64 (s.sm))] : List Value))] 5 rfl (by kernel_rfl) (fun Hx => (Hx.pick [0, 1] (by decide))) ?_
 intro w5 H6 S7
 refine Z0s 1 rfl (by kernel_rfl) (by kernel_rfl) (by kernel_rfl) (fun _ _ _ h => h) S7 (Z5 rfl) (d := 5) (v := (.pointer (some ⟨b2, 0, none⟩))) rfl (fun _ H' => (by kernel_rfl)) ?_
 refine Z0s 2 rfl (by kernel_rfl) (by kernel_rfl) (by kernel_rfl) (fun _ _ _ h => h) S7 (Z5 rfl) (d := 6) (v := (.int .i64 (s.r))) rfl (fun _ H' => (Zi rfl (by kernel_rfl) (H'.cell 1 rfl (by kernel_rfl)))) ?_
 refine Z6J 0 rfl (by kernel_rfl) (Z5 rfl) (fun K8 hK8 => ?_)
 refine Z0L (d := 4) rfl (by kernel_rfl) (Z78 w5 ([97, 99, 107]) (by decide)) ?_
 rintro _ w9 ⟨r10, a11, c12, rfl, k13, p14, q15⟩
 have H16 : Sat w [Z7 w (fun _ => False), Z3 b2 59 (([(.int .i64 (s.r)), (.int .i64 (s.cl)), (.int .i64 (s.seq))] : List Value) ++ hc s.h ++ ([(.int .u64 (s.t)), (.int .i64 (s.sb)), (.int .i64 (s.sm))] : List Value)), ZL (wrL r10 a11 c12 (Zs ([97, 99, 107])))] w9 := H6.addU p14 k13 q15
 have H17 : Sat w [Z7 w (fun _ => False), Z3 b2 59 (([(.int .i64 (s.r)), (.int .i64 (s.cl)), (.int .i64 (s.seq))] : List Value) ++ hc s.h ++ ([(.int .u64 (s.t)), (.int .i64 (s.sb)), (.int .i64 (s.sm))] : List Value)), Z3 r10 187 ([(.slice a11 ((Zs ([97, 99, 107])).length) c12)] : List Value), Zc 5 1 (.slice a11 ((Zs ([97, 99, 107])).length) c12) ((Zs ([97, 99, 107])).length) ((Zs ([97, 99, 107])).flatMap ZH)] w9 := H16.open 2 rfl
 refine ⟨_, rfl, ?_⟩
 have l18 := (show (Zs [97, 99, 107]).length ≤ 13 from Z10 _)
 have S19 := H17.pick [0, 1] (by decide)
 refine hK8 _ _ S19 ?_
 clear hK8 K8
 refine Z6J 3 rfl (by kernel_rfl) (Z5 rfl) (fun K20 hK20 => ?_)
 have l26 := Z0g s.r
 refine Z0L (d := 7) rfl (by kernel_rfl) (Z0z w9 r10 a11 c12 (Zs ([97, 99, 107])) (H17.fin [2, 3] (by decide) rfl) (by omega) s.r (by omega)) ?_
 rintro _ w21 ⟨a23, c24, rfl, T22⟩
 have H27 : Sat w [Z7 w (fun _ => False), Z3 b2 59 (([(.int .i64 (s.r)), (.int .i64 (s.cl)), (.int .i64 (s.seq))] : List Value) ++ hc s.h ++ ([(.int .u64 (s.t)), (.int .i64 (s.sb)), (.int .i64 (s.sm))] : List Value)), Z3 r10 187 ([(.slice a23 (((Zs ([97, 99, 107])) ++ Zl s.r).length) c24)] : List Value), Zc 5 1 (.slice a23 (((Zs ([97, 99, 107])) ++ Zl s.r).length) c24) (((Zs ([97, 99, 107])) ++ Zl s.r).length) (((Zs ([97, 99, 107])) ++ Zl s.r).flatMap ZH)] w21 := (Sat.turnL (L' := [Z3 r10 187 ([(.slice a23 (((Zs ([97, 99, 107])) ++ Zl s.r).length) c24)] : List Value), Zc 5 1 (.slice a23 (((Zs ([97, 99, 107])) ++ Zl s.r).length) c24) (((Zs ([97, 99, 107])) ++ Zl s.r).length) (((Zs ([97, 99, 107])) ++ Zl s.r).flatMap ZH)]) (R := [Z7 w (fun _ => False), Z3 b2 59 (([(.int .i64 (s.r)), (.int .i64 (s.cl)), (.int .i64 (s.seq))] : List Value) ++ hc s.h ++ ([(.int .u64 (s.t)), (.int .i64 (s.sb)), (.int .i64 (s.sm))] : List Value))]) H17 [2, 3] [0, 1] (by decide) (by kernel_rfl) rfl T22).pick [2, 3, 0, 1] (by decide)
 refine ⟨_, rfl, ?_⟩
 have S28 := H27.pick [0, 1] (by decide)
 refine hK20 _ _ S28 ?_
 clear hK20 K20
 refine Z0s 4 rfl (by kernel_rfl) (by kernel_rfl) (by kernel_rfl) (fun _ _ _ h => h) S28 (Z5 rfl) (d := 3) (v := (.pointer (some ⟨r10, 0, none⟩))) rfl (fun _ H' => (by kernel_rfl)) ?_
 refine Z5N (by kernel_rfl) ?_
 refine Zb ?_
 refine Zf ?_
 refine Zt ?_
 refine Z6 (Z5 rfl) (d := 8) (v := (.pointer (some ⟨r10, 0, none⟩))) rfl (by kernel_rfl) ?_
 refine Z6 (Z5 rfl) (d := 9) (v := (.pointer (some ⟨b2, 1, none⟩))) rfl (by kernel_rfl) ?_
 refine Z6 (Z5 rfl) (d := 10) (v := (.agg ⟨([(.int .i64 (s.cl)), (.int .i64 (s.seq))] : List Value)⟩)) rfl (ZG (vs := ([(.int .i64 (s.cl)), (.int .i64 (s.seq))] : List Value)) rfl (by kernel_rfl) (by kernel_rfl) (by exact Nat.le_of_ble_eq_true (by kernel_rfl)) (H27.at 1 rfl) (by kernel_rfl)) ?_
 refine Z0B (Z5 rfl) (fun K29 hK29 => ?_)
 have l35 := Z6S s.cl s.seq
 refine Z0L (d := 11) rfl (by kernel_rfl) (Z77 w21 r10 a23 c24 ((Zs ([97, 99, 107])) ++ Zl s.r) (H27.fin [2, 3] (by decide) rfl) (by simp only [List.length_append, List.length_nil]; omega) s.cl s.seq (by omega)) ?_
 rintro _ w30 ⟨a32, c33, rfl, T31⟩
 have H36 : Sat w [Z7 w (fun _ => False), Z3 b2 59 (([(.int .i64 (s.r)), (.int .i64 (s.cl)), (.int .i64 (s.seq))] : List Value) ++ hc s.h ++ ([(.int .u64 (s.t)), (.int .i64 (s.sb)), (.int .i64 (s.sm))] : List Value)), Z3 r10 187 ([(.slice a32 ((((Zs ([97, 99, 107])) ++ Zl s.r) ++ Z07 s.cl s.seq).length) c33)] : List Value), Zc 5 1 (.slice a32 ((((Zs ([97, 99, 107])) ++ Zl s.r) ++ Z07 s.cl s.seq).length) c33) ((((Zs ([97, 99, 107])) ++ Zl s.r) ++ Z07 s.cl s.seq).length) ((((Zs ([97, 99, 107])) ++ Zl s.r) ++ Z07 s.cl s.seq).flatMap ZH)] w30 := (Sat.turnL (L' := [Z3 r10 187 ([(.slice a32 ((((Zs ([97, 99, 107])) ++ Zl s.r) ++ Z07 s.cl s.seq).length) c33)] : List Value), Zc 5 1 (.slice a32 ((((Zs ([97, 99, 107])) ++ Zl s.r) ++ Z07 s.cl s.seq).length) c33) ((((Zs ([97, 99, 107])) ++ Zl s.r) ++ Z07 s.cl s.seq).length) ((((Zs ([97, 99, 107])) ++ Zl s.r) ++ Z07 s.cl s.seq).flatMap ZH)]) (R := [Z7 w (fun _ => False), Z3 b2 59 (([(.int .i64 (s.r)), (.int .i64 (s.cl)), (.int .i64 (s.seq))] : List Value) ++ hc s.h ++ ([(.int .u64 (s.t)), (.int .i64 (s.sb)), (.int .i64 (s.sm))] : List Value))]) H27 [2, 3] [0, 1] (by decide) (by kernel_rfl) rfl T31).pick [2, 3, 0, 1] (by decide)
 refine ⟨_, rfl, ?_⟩
 refine hK29 _ _ ?_
 clear hK29 K29
 refine Zu ?_
 refine Zb ?_
 refine Zf ?_
 refine Z0b H36 [Z7 w (fun _ => False), Z3 b2 59 (([(.int .i64 (s.r)), (.int .i64 (s.cl)), (.int .i64 (s.seq))] : List Value) ++ hc s.h ++ ([(.int .u64 (s.t)), (.int .i64 (s.sb)), (.int .i64 (s.sm))] : List Value))] 9 rfl (by kernel_rfl) (fun Hx => (Hx.pick [0, 1] (by decide))) ?_
 intro w37 H38 S39
 refine Z0s 0 rfl (by kernel_rfl) (by kernel_rfl) (by kernel_rfl) (fun _ _ _ h => h) S39 (Z5 rfl) (d := 12) (v := (.pointer (some ⟨r10, 0, none⟩))) rfl (fun _ H' => (by kernel_rfl)) ?_
 refine Z0s 1 rfl (by kernel_rfl) (by kernel_rfl) (by kernel_rfl) (fun _ _ _ h => h) S39 (Z5 rfl) (d := 13) (v := (.pointer (some ⟨b2, 3, none⟩))) rfl (fun _ H' => (by kernel_rfl)) ?_
 refine Z0s 2 rfl (by kernel_rfl) (by kernel_rfl) (by kernel_rfl) (fun _ _ _ h => h) S39 (Z5 rfl) (d := 14) (v := (.agg ⟨(hc s.h)⟩)) rfl (fun _ H' => (ZG (vs := (hc s.h)) rfl (by kernel_rfl) (by kernel_rfl) (by exact Nat.le_of_ble_eq_true (by kernel_rfl)) (H'.at 1 rfl) (by kernel_rfl))) ?_
 refine Z0s 4 rfl (by kernel_rfl) (by kernel_rfl) (by kernel_rfl) (fun _ _ _ h => h) S39 (Z5 rfl) (d := 16) (v := (.pointer (some ⟨b2, 35, none⟩))) rfl (fun _ H' => (by kernel_rfl)) ?_
 refine Z0s 5 rfl (by kernel_rfl) (by kernel_rfl) (by kernel_rfl) (fun _ _ _ h => h) S39 (Z5 rfl) (d := 17) (v := (.int .u64 (s.t))) rfl (fun _ H' => (Zi rfl (by kernel_rfl) (H'.cell 1 rfl (by kernel_rfl)))) ?_
 refine Z6J 3 rfl (by kernel_rfl) (Z5 rfl) (fun K40 hK40 => ?_)
 have l46 := s.h.len
 refine Z0L (d := 15) rfl (by kernel_rfl) (Z1u w37 r10 a32 c33 (((Zs ([97, 99, 107])) ++ Zl s.r) ++ Z07 s.cl s.seq) (H38.fin [2, 3] (by decide) rfl) (by simp only [List.length_append, List.length_nil]; omega) s.h) ?_
 rintro _ w41 ⟨a43, c44, rfl, T42⟩
 have H47 : Sat w [Z7 w (fun _ => False), Z3 b2 59 (([(.int .i64 (s.r)), (.int .i64 (s.cl)), (.int .i64 (s.seq))] : List Value) ++ hc s.h ++ ([(.int .u64 (s.t)), (.int .i64 (s.sb)), (.int .i64 (s.sm))] : List Value)), Z3 r10 187 ([(.slice a43 (((((Zs ([97, 99, 107])) ++ Zl s.r) ++ Z07 s.cl s.seq) ++ s.h.l).length) c44)] : List Value), Zc 5 1 (.slice a43 (((((Zs ([97, 99, 107])) ++ Zl s.r) ++ Z07 s.cl s.seq) ++ s.h.l).length) c44) (((((Zs ([97, 99, 107])) ++ Zl s.r) ++ Z07 s.cl s.seq) ++ s.h.l).length) (((((Zs ([97, 99, 107])) ++ Zl s.r) ++ Z07 s.cl s.seq) ++ s.h.l).flatMap ZH)] w41 := (Sat.turnL (L' := [Z3 r10 187 ([(.slice a43 (((((Zs ([97, 99, 107])) ++ Zl s.r) ++ Z07 s.cl s.seq) ++ s.h.l).length) c44)] : List Value), Zc 5 1 (.slice a43 (((((Zs ([97, 99, 107])) ++ Zl s.r) ++ Z07 s.cl s.seq) ++ s.h.l).length) c44) (((((Zs ([97, 99, 107])) ++ Zl s.r) ++ Z07 s.cl s.seq) ++ s.h.l).length) (((((Zs ([97, 99, 107])) ++ Zl s.r) ++ Z07 s.cl s.seq) ++ s.h.l).flatMap ZH)]) (R := [Z7 w (fun _ => False), Z3 b2 59 (([(.int .i64 (s.r)), (.int .i64 (s.cl)), (.int .i64 (s.seq))] : List Value) ++ hc s.h ++ ([(.int .u64 (s.t)), (.int .i64 (s.sb)), (.int .i64 (s.sm))] : List Value))]) H38 [2, 3] [0, 1] (by decide) (by kernel_rfl) rfl T42).pick [2, 3, 0, 1] (by decide)
 refine ⟨_, rfl, ?_⟩
 have S48 := H47.pick [0, 1] (by decide)
 refine hK40 _ _ S48 ?_
 clear hK40 K40
 refine Z6J 6 rfl (by kernel_rfl) (Z5 rfl) (fun K49 hK49 => ?_)
 have l55 := Z6b s.t.toNat
 refine Z0L (d := 18) rfl (by rw [show s.t = ((s.t.toNat : Nat) : Int) by omega]; kernel_rfl) (Z6d w41 r10 a43 c44 ((((Zs ([97, 99, 107])) ++ Zl s.r) ++ Z07 s.cl s.seq) ++ s.h.l) (H47.fin [2, 3] (by decide) rfl) (by simp only [List.length_append, List.length_nil]; omega) s.t.toNat (by omega)) ?_
 rintro _ w50 ⟨a52, c53, rfl, T51⟩
 have H56 : Sat w [Z7 w (fun _ => False), Z3 b2 59 (([(.int .i64 (s.r)), (.int .i64 (s.cl)), (.int .i64 (s.seq))] : List Value) ++ hc s.h ++ ([(.int .u64 (s.t)), (.int .i64 (s.sb)), (.int .i64 (s.sm))] : List Value)), Z3 r10 187 ([(.slice a52 ((((((Zs ([97, 99, 107])) ++ Zl s.r) ++ Z07 s.cl s.seq) ++ s.h.l) ++ Z1k s.t.toNat).length) c53)] : List Value), Zc 5 1 (.slice a52 ((((((Zs ([97, 99, 107])) ++ Zl s.r) ++ Z07 s.cl s.seq) ++ s.h.l) ++ Z1k s.t.toNat).length) c53) ((((((Zs ([97, 99, 107])) ++ Zl s.r) ++ Z07 s.cl s.seq) ++ s.h.l) ++ Z1k s.t.toNat).length) ((((((Zs ([97, 99, 107])) ++ Zl s.r) ++ Z07 s.cl s.seq) ++ s.h.l) ++ Z1k s.t.toNat).flatMap ZH)] w50 := (Sat.turnL (L' := [Z3 r10 187 ([(.slice a52 ((((((Zs ([97, 99, 107])) ++ Zl s.r) ++ Z07 s.cl s.seq) ++ s.h.l) ++ Z1k s.t.toNat).length) c53)] : List Value), Zc 5 1 (.slice a52 ((((((Zs ([97, 99, 107])) ++ Zl s.r) ++ Z07 s.cl s.seq) ++ s.h.l) ++ Z1k s.t.toNat).length) c53) ((((((Zs ([97, 99, 107])) ++ Zl s.r) ++ Z07 s.cl s.seq) ++ s.h.l) ++ Z1k s.t.toNat).length) ((((((Zs ([97, 99, 107])) ++ Zl s.r) ++ Z07 s.cl s.seq) ++ s.h.l) ++ Z1k s.t.toNat).flatMap ZH)]) (R := [Z7 w (fun _ => False), Z3 b2 59 (([(.int .i64 (s.r)), (.int .i64 (s.cl)), (.int .i64 (s.seq))] : List Value) ++ hc s.h ++ ([(.int .u64 (s.t)), (.int .i64 (s.sb)), (.int .i64 (s.sm))] : List Value))]) H47 [2, 3] [0, 1] (by decide) (by kernel_rfl) rfl T51).pick [2, 3, 0, 1] (by decide)
 refine ⟨_, rfl, ?_⟩
 have S57 := H56.pick [0, 1] (by decide)
 refine hK49 _ _ S57 ?_
 clear hK49 K49
 refine Z6J 7 rfl (by kernel_rfl) (Z5 rfl) (fun K58 hK58 => ?_)
 refine Z0L (d := 19) rfl (by kernel_rfl) (Z1i w50 r10 a52 c53 (((((Zs ([97, 99, 107])) ++ Zl s.r) ++ Z07 s.cl s.seq) ++ s.h.l) ++ Z1k s.t.toNat) (H56.fin [2, 3] (by decide) rfl) (by simp only [List.length_append, List.length_nil]; omega)) ?_
 rintro _ w59 ⟨u60, rfl, T61⟩
 have H62 : Sat w [Z7 w (fun _ => False), Z3 b2 59 (([(.int .i64 (s.r)), (.int .i64 (s.cl)), (.int .i64 (s.seq))] : List Value) ++ hc s.h ++ ([(.int .u64 (s.t)), (.int .i64 (s.sb)), (.int .i64 (s.sm))] : List Value)), Z3 r10 187 ([(.slice a52 ((((((Zs ([97, 99, 107])) ++ Zl s.r) ++ Z07 s.cl s.seq) ++ s.h.l) ++ Z1k s.t.toNat).length) c53)] : List Value), Zc 5 1 (.slice a52 ((((((Zs ([97, 99, 107])) ++ Zl s.r) ++ Z07 s.cl s.seq) ++ s.h.l) ++ Z1k s.t.toNat).length) c53) ((((((Zs ([97, 99, 107])) ++ Zl s.r) ++ Z07 s.cl s.seq) ++ s.h.l) ++ Z1k s.t.toNat).length) ((((((Zs ([97, 99, 107])) ++ Zl s.r) ++ Z07 s.cl s.seq) ++ s.h.l) ++ Z1k s.t.toNat).flatMap ZH), Zc 5 1 u60 ((((((Zs ([97, 99, 107])) ++ Zl s.r) ++ Z07 s.cl s.seq) ++ s.h.l) ++ Z1k s.t.toNat).length) ((((((Zs ([97, 99, 107])) ++ Zl s.r) ++ Z07 s.cl s.seq) ++ s.h.l) ++ Z1k s.t.toNat).flatMap ZH)] w59 := (Sat.turnL (L' := [Z3 r10 187 ([(.slice a52 ((((((Zs ([97, 99, 107])) ++ Zl s.r) ++ Z07 s.cl s.seq) ++ s.h.l) ++ Z1k s.t.toNat).length) c53)] : List Value), Zc 5 1 (.slice a52 ((((((Zs ([97, 99, 107])) ++ Zl s.r) ++ Z07 s.cl s.seq) ++ s.h.l) ++ Z1k s.t.toNat).length) c53) ((((((Zs ([97, 99, 107])) ++ Zl s.r) ++ Z07 s.cl s.seq) ++ s.h.l) ++ Z1k s.t.toNat).length) ((((((Zs ([97, 99, 107])) ++ Zl s.r) ++ Z07 s.cl s.seq) ++ s.h.l) ++ Z1k s.t.toNat).flatMap ZH), Zc 5 1 u60 ((((((Zs ([97, 99, 107])) ++ Zl s.r) ++ Z07 s.cl s.seq) ++ s.h.l) ++ Z1k s.t.toNat).length) ((((((Zs ([97, 99, 107])) ++ Zl s.r) ++ Z07 s.cl s.seq) ++ s.h.l) ++ Z1k s.t.toNat).flatMap ZH)]) (R := [Z7 w (fun _ => False), Z3 b2 59 (([(.int .i64 (s.r)), (.int .i64 (s.cl)), (.int .i64 (s.seq))] : List Value) ++ hc s.h ++ ([(.int .u64 (s.t)), (.int .i64 (s.sb)), (.int .i64 (s.sm))] : List Value))]) H56 [2, 3] [0, 1] (by decide) (by kernel_rfl) rfl T61).pick [3, 4, 0, 1, 2] (by decide)
 obtain ⟨a63, c64, rfl⟩ := Ze (H62.at 4 rfl)
 refine ⟨_, rfl, ?_⟩
 have S65 := H62.pick [0, 1] (by decide)
 refine hK58 _ _ S65 ?_
 clear hK58 K58
 refine Z0s 8 rfl (by kernel_rfl) (by kernel_rfl) (by kernel_rfl) (fun _ _ _ h => h) S65 (Z5 rfl) (d := 2) (v := (.slice a63 (((((Zs ([97, 99, 107])) ++ Zl s.r) ++ Z07 s.cl s.seq) ++ s.h.l) ++ Z1k s.t.toNat).length c64)) rfl (fun _ H' => (by kernel_rfl)) ?_
 refine Z5N (by kernel_rfl) ?_
 refine Zb ?_
 refine Zz ?_
 refine Z1x rfl (Z0c (v := (.slice a63 (((((Zs ([97, 99, 107])) ++ Zl s.r) ++ Z07 s.cl s.seq) ++ s.h.l) ++ Z1k s.t.toNat).length c64)) rfl) ?_
 have hX : (((((Zs ([97, 99, 107])) ++ Zl s.r) ++ Z07 s.cl s.seq) ++ s.h.l) ++ Z1k s.t.toNat) = Z8T s := by simp only [Z8T, Z7c, List.flatten_cons, List.flatten_nil, List.append_nil, List.append_assoc, List.nil_append]
 exact ⟨_, rfl, (by rw [← hX]; exact H62.at 4 rfl), H62.upd 0 rfl [] (fun _ h => h.elim), (by rw [← hX]; exact H62.fresh 0 rfl (fun _ h => h) 4 rfl rfl)⟩
end Go.Proofs.YtgigjkjdmalmaaaGreat
namespace Go.Proofs.YtgigjkjdmalmaaaGreat
open Go.RowKit Go.Maps Go.Sort Go.Shelf
theorem infoU : (Tryz.prog.info? 45).map (fun i => (i.zero, i.size, i.bytes)) = some (some ((Value.int .u64) 0), 1, 8) := by kernel_rfl
def Z5p (w : World) (a : Addr) (x : Int) : Prop := w.cell? a = some ((Value.int .u64) x)
def Zcc : Code := Code.region 2 #[{ dst := some 5, op := Op.assign (Operand.tmp 7), type := 45, pos := "iter.go:51", after := #[], guard := none }] false
def Zcd : Code := Code.block 1 (Code.region 3 #[{ dst := some 8, op := Op.load 23 (Operand.tmp 2), type := 23, pos := "iter.go:52", after := #[], guard := none },
 { dst := some 9, op := Op.move (Operand.tmp 5), type := 45, pos := "iter.go:52", after := #[], guard := none },
 { dst := some 10, op := Op.buildSlice 23 1 #[(0, Operand.tmp 9)], type := 23, pos := "iter.go:52", after := #[{ on := 1, ground := Ground.data }], guard := none },
 { dst := some 11, op := Op.call { callee := Callee.builtin Builtin.append, args := #[Operand.tmp 8, Operand.tmp 10], argTypes := #[23, 23] }, type := 23, pos := "iter.go:52", after := #[{ on := 0, ground := Ground.data }, { on := 2, ground := Ground.data }], guard := none },
 { dst := none, op := Op.store 23 (Operand.tmp 2) (Operand.tmp 11), type := 0, pos := "iter.go:52", after := #[{ on := 3, ground := Ground.data }, { on := 3, ground := Ground.chain }, { on := 0, ground := Ground.phase }, { on := 1, ground := Ground.phase }, { on := 2, ground := Ground.phase }, { on := 3, ground := Ground.phase }], guard := none }] false)
def Z4v (fn : FuncId) (sv : Value) (b d : Nat) (st : LoopState) : Loop :=
 { state := st, pending := none, fn, tmps := #[.slice none 0 0, sv, .pointer (some ⟨b, 0, none⟩), undef, .slice none 0 0, undef, sv, undef, undef, undef, undef, undef, undef], params := #[7], assign := Zcc, body := Zcd, defers := d }
structure Z7M (w0 : World) (fn : FuncId) (sv : Value) (b l d : Nat) (ss : List Int) (W : World) : Prop where
 box : ∃ v, W.heap[b]? = some (.cells #[v] 23 (0, 0)) ∧ W.ownsRow w0.heap.size 45 1 v ss.length (ss.map (Value.int .u64))
 lp : W.heap[l]? = some (.loop (Z4v fn sv b d .ready))
 dfr : W.heap[d]? = some (.deferred (some []))
 low : Below w0.heap.size w0 W
theorem Za2 (m : Nat) (w0 : World) (fn : FuncId) (sv : Value) (b l d : Nat) (hbl : b ≠ l) (hdl : d ≠ l) (hdb : d ≠ b) (h0b : w0.heap.size ≤ b) (h0l : w0.heap.size ≤ l) (ss : List Int) (x : Int) (W : World) (h : Z7M w0 fn sv b l d ss W) (hlen : ss.length < 1000000000) :
    YieldAt Fence.wide m Tryz.prog l #[(Value.int .u64) x] W fun e W' => e = .returned (.bool true) ∧ Z7M w0 fn sv b l d (ss ++ [x]) W' := by
  have mixed : Tryz.prog.follows .mixedOrders = true := by kernel_rfl
  have hne : (23 : TypeId) ≠ 45 := by decide
  obtain ⟨i0, hi, hz0, hz1, hz2⟩ := info_parts infoU
  obtain ⟨v, hv, hrow⟩ := h.box
  refine ⟨fn, #[.slice none 0 0, sv, .pointer (some ⟨b, 0, none⟩), undef, .slice none 0 0, undef, sv, (Value.int .u64) x, undef, undef, undef, undef, undef], Zcc, Zcd, by simpa [Z4v] using run_yield (P := Tryz.prog) (args := #[(Value.int .u64) x]) h.lp rfl, roundIn_of_wpIn trivial ?_⟩
  have hl : l < W.heap.size := Z0J h.lp
  have hbr := run_beginRound (P := Tryz.prog) h.lp rfl
  obtain ⟨W2, hW2⟩ : ∃ W2, W.putObj l (.loop { Z4v fn sv b d .ready with state := .busy }) = W2 := ⟨_, rfl⟩
  rw [hW2] at hbr
  have hg2 : W.grownBy W2 (some l) := by rw [← hW2]; exact grownBy_putObj_a _ _ _
  have hv2 : W2.heap[b]? = some (.cells #[v] 23 (0, 0)) := by rw [← hW2]; exact (World.putObj_heap_other hbl).trans hv
  have hd2 : W2.heap[d]? = some (.deferred (some [])) := by rw [← hW2]; exact (World.putObj_heap_other hdl).trans h.dfr
  have hL2 : W2.heap[l]? = some (.loop { Z4v fn sv b d .ready with state := .busy }) := by rw [← hW2]; exact World.putObj_heap_same hl
  have hrow2 : W2.ownsRow w0.heap.size 45 1 v ss.length (ss.map (Value.int .u64)) := hrow.kept hg2 (ownsRow_ne_a hrow h.lp (fun cur e => by cases e))
  have hb2 : Below w0.heap.size w0 W2 := h.low.grown hg2 h.low.size (fun k e => by cases e; exact h0l)
  obtain ⟨hc2, hf2⟩ := cell_of_box_a hv2
  have hblt : b < W2.heap.size := Z0J hv2
  have hl2 : l < W2.heap.size := Z0J hL2
  have hdlt : d < W2.heap.size := Z0J hd2
  have far : ∀ {j : Nat} {o : Obj}, W2.heap[j]? = some o → (∀ cur, o ≠ .cells cur 45 (0, 0)) → some j ≠ v.ownBlock := fun hj hno => by
    rcases ownsRow_ne_a hrow2 hj hno with e | e
    · rw [e]; simp
    · exact fun e' => e e'.symm
  have bne : ∀ cur, Obj.cells #[v] 23 (0, 0) ≠ .cells cur 45 (0, 0) := fun cur e => hne (Obj.cells.inj e).2.1
  clear hW2
  unfold Zcc
  gi_wp2_with gi_round_op_a
  unfold Zcd
  gi_wp2_with (first
    | (gi_at_builtin; refine wpListIn_append_own _ rfl _ _ 23 rfl w0.heap.size 45 i0 ((Value.int .u64) 0) 1 8 Tryz.underlying23 hi hz0 hz1 hz2 rfl (by decide) _ _ _ rfl (hrow2.alloc _) ⟨W2.heap.size, 0, none⟩ 1 1 [(Value.int .u64) x] rfl rfl (cell_one_new _ _ _) (by simp [Value.oneCell']) (by unfold maxLen; omega) (by omega) (by have := hb2.size; simp; omega) ?_; intro v' w3 hown' hg3 hnil3
       have hv3 : w3.heap[b]? = some (.cells #[v] 23 (0, 0)) := (hg3.block b (by simp; omega) (far hv2 bne)).trans ((Below.heap_alloc _ _ b hblt).trans hv2)
       obtain ⟨hc3, hf3⟩ := cell_of_box_a hv3
       obtain ⟨g', cap', hvs, _⟩ := Z6W hown' (by omega)
       subst hvs
       go_frame)
    | gi_round_op_a)
  have hg3' : (W2.alloc (.cells #[(Value.int .u64) x] 45)).grownBy w3 v.ownBlock := hg3
  have hL3 : w3.heap[l]? = some (.loop { Z4v fn sv b d .ready with state := .busy }) := (hg3'.block l (by simp; omega) (far hL2 (fun cur e => by cases e))).trans ((Below.heap_alloc _ _ l hl2).trans hL2)
  have hd3 : w3.heap[d]? = some (.deferred (some [])) := (hg3'.block d (by simp; omega) (far hd2 (fun cur e => by cases e))).trans ((Below.heap_alloc _ _ d hdlt).trans hd2)
  have hb3 : Below w0.heap.size w0 w3 := (hb2.alloc hb2.size _).grown hg3' (by have := hb2.size; simp; omega) (fun k e => (hrow2.lt k e).1)
  obtain ⟨w4, hw4⟩ : ∃ w4, w3.setCell ⟨b, 0, none⟩ (.slice (some ⟨g', 0, none⟩) (ss.length + 1) cap') = w4 := ⟨_, rfl⟩
  rw [hw4]
  have hg4 : w3.grownBy w4 (some b) := by rw [← hw4]; exact grownBy_setCell0_a _ _ _
  have hv4 : w4.heap[b]? = some (.cells #[.slice (some ⟨g', 0, none⟩) (ss.length + 1) cap'] 23 (0, 0)) := by rw [← hw4]; exact heap_setCell_box_a _ hv3
  have hL4 : w4.heap[l]? = some (.loop { Z4v fn sv b d .ready with state := .busy }) := (hg4.block l (Z0J hL3) (fun e => hbl (by cases e; rfl))).trans hL3
  have hd4 : w4.heap[d]? = some (.deferred (some [])) := (hg4.block d (Z0J hd3) (fun e => hdb (by cases e; rfl))).trans hd3
  have hrow4 := hown'.kept hg4 (ownsRow_ne_a hown' hv3 bne)
  have hb4 : Below w0.heap.size w0 w4 := hb3.grown hg4 hb3.size (fun k e => by cases e; exact h0b)
  have hl4 : l < w4.heap.size := Z0J hL4
  clear hw4
  refine ⟨_, _, run_endRound none hL4, rfl, ⟨⟨_, (World.putObj_heap_other hbl).trans hv4, ?_⟩, World.putObj_heap_same hl4, (World.putObj_heap_other hdl).trans hd4, hb4.grown (grownBy_putObj_a _ _ _) hb4.size (fun k e => by cases e; exact h0l)⟩⟩
  have := hrow4.kept (grownBy_putObj_a w4 l (.loop { { Z4v fn sv b d .ready with state := .busy } with state := if (none : Option Code).isNone then .ready else .done, pending := none })) (ownsRow_ne_a hrow4 hL4 (fun cur e => by cases e))
  simpa using this
theorem Z8L (n : Nat) (l c : Nat) (xs : List Int) (w0 : World) (v : Value) (hm : w0.cell? ⟨c, 0, none⟩ = some v) (hv : SliceOf Z5p 1 w0 v xs) (hxl : xs.length ≤ 1000000000) (J : List Int → World → Prop) (hJ : ∀ pre W, J pre W → Below w0.heap.size w0 W)
  (hY : ∀ pre x W, J pre W → pre.length < xs.length → YieldAt Fence.wide (n - 1) Tryz.prog l #[(Value.int .u64) x] W fun e W' => e = .returned (.bool true) ∧ J (pre ++ [x]) W') (W : World) (h0 : J [] W) :
  CallsIn Fence.wide n Tryz.prog 137 #[.func (.yield l) #[] #[], .pointer (some ⟨c, 0, none⟩)] W fun e W' => (∃ v, e = .returned v) ∧ J xs W' := by
 obtain ⟨a, cp, rfl⟩ := hv.len
 have hc : W.cell? ⟨c, 0, none⟩ = some (.slice a xs.length cp) := ((hJ [] W h0).cell (World.block_lt_of_cell? _ _ hm)).trans hm
 refine callsIn_of_wp Tryz.func137 rfl trivial ?_ rfl
 simp only [Tryz.ntmps137, List.size_toArray, List.length_cons, List.length_nil, Nat.reduceAdd, Nat.reduceSub, Array.replicate_succ, Array.replicate_zero, List.push_toArray, List.append_toArray, List.nil_append, List.cons_append]
 gi_wp2
 gi_loopw [7] (fun s wr => ∃ k : Nat, s = .int .i64 (k : Int) ∧ k ≤ xs.length ∧ J (xs.take k) wr) (fun s _ => xs.length - (intOf s).toNat)
 case atStart => exact ⟨0, rfl, Nat.zero_le _, by simpa using h0⟩
 case round =>
  obtain ⟨k, rfl, hk, hJk⟩ := hrel
  by_cases hlt : k < xs.length
  ·obtain ⟨b, off, cap, hvv, hcap, hall⟩ := hv.some (by omega)
   obtain ⟨rfl, _, rfl⟩ : a = some ⟨b, off, none⟩ ∧ xs.length = xs.length ∧ cp = cap := by simpa using hvv
   have hel0 : w0.cell? ⟨b, off + k, none⟩ = some ((Value.int .u64) xs[k]) := by
    have := hall k hlt
    simpa [Z5p] using this
   have hel : wr.cell? ⟨b, off + k, none⟩ = some ((Value.int .u64) xs[k]) := ((hJ _ _ hJk).cell (World.block_lt_of_cell? _ _ hel0)).trans hel0
   obtain ⟨x, hx⟩ : ∃ x, xs[k] = x := ⟨_, rfl⟩
   rw [hx] at hel
   obtain ⟨fn, tmps, assign, body, hy, hR⟩ := hY (xs.take k) x wr hJk (by rw [List.length_take]; omega)
   gi_wp2
   refine ⟨(fun h => by cases h), hR.mono ?_⟩
   rintro e W3 ⟨rfl, hJ3⟩
   gi_wp2
   go_roundw
   case rel => exact ⟨k + 1, by simp, by omega, by rw [List.take_add_one, List.getElem?_eq_getElem hlt, hx]; exact hJ3⟩
   case measure => simp [intOf]; omega
  ·gi_wp2
   go_end0
   exact ⟨⟨_, rfl⟩, by rwa [List.take_of_length_le (by omega)] at hJk⟩
theorem Z5s (c : Nat) (xs : List Int) (v : Value) (w : World) (hm : w.cell? ⟨c, 0, none⟩ = some v) (hv : SliceOf Z5p 1 w v xs) (hxl : xs.length ≤ 1000000000) :
    CallsIn Fence.wide 3 Tryz.prog 150 #[.slice none 0 0, .func (.func 137) #[] #[.pointer (some ⟨c, 0, none⟩)]] w fun e w' => ∃ u, e = .returned u ∧ w'.ownsRow w.heap.size 45 1 u xs.length (xs.map (Value.int .u64)) ∧ Below w.heap.size w w' := by
  have mixed : Tryz.prog.follows .mixedOrders = true := by kernel_rfl
  have hne : (23 : TypeId) ≠ 45 := by decide
  obtain ⟨i0, hi, hz0, hz1, hz2⟩ := info_parts infoU
  obtain ⟨sv, hsv⟩ : ∃ sv, Value.func (.func 137) #[] #[.pointer (some ⟨c, 0, none⟩)] = sv := ⟨_, rfl⟩
  refine callsIn_of_wp_marks Tryz.func150 rfl trivial ?_ rfl
  simp only [Tryz.ntmps150, List.size_toArray, List.length_cons, List.length_nil, Nat.reduceAdd, Nat.reduceSub, Array.replicate_succ, Array.replicate_zero, List.push_toArray, List.append_toArray, List.nil_append, List.cons_append]
  gi_wp2
  refine wpIn_rangeFunc ?_
  intro fn _
  obtain ⟨W0, hW0⟩ : ∃ W0, w.alloc (.cells #[.slice none 0 0] 23) = W0 := ⟨_, rfl⟩
  have hs0 : W0.heap.size = w.heap.size + 1 := by rw [← hW0]; simp
  have hv0 : W0.heap[w.heap.size]? = some (.cells #[.slice none 0 0] 23 (0, 0)) := by rw [← hW0]; exact World.alloc_heap_new w _
  have hb0 : Below w.heap.size w W0 := by rw [← hW0]; exact (Below.refl _ w).alloc (Nat.le_refl _) _
  rw [hW0]
  obtain ⟨W1, hW1⟩ : ∃ W1, (W0.alloc (.deferred (some []))).alloc (.loop (Z4v fn (.func (.func 137) #[] #[.pointer (some ⟨c, 0, none⟩)]) w.heap.size W0.heap.size .ready)) = W1 := ⟨_, rfl⟩
  have hold : ∀ k, k < W0.heap.size → W1.heap[k]? = W0.heap[k]? := fun k hk => by
    rw [← hW1]; exact (Below.heap_alloc _ _ k (by simp; omega)).trans (Below.heap_alloc _ _ k hk)
  have hb1 : Below w.heap.size w W1 := by rw [← hW1]; exact (hb0.alloc hb0.size _).alloc (by have := hb0.size; simp; omega) _
  have hM : Z7M w fn (.func (.func 137) #[] #[.pointer (some ⟨c, 0, none⟩)]) w.heap.size (W0.heap.size + 1) W0.heap.size [] W1 :=
    ⟨⟨_, (hold w.heap.size (by omega)).trans hv0, ⟨rfl, .inl ⟨rfl, rfl⟩⟩⟩,
     by rw [← hW1]; have := World.alloc_heap_new (W0.alloc (.deferred (some []))) (.loop (Z4v fn (.func (.func 137) #[] #[.pointer (some ⟨c, 0, none⟩)]) w.heap.size W0.heap.size .ready)); rwa [World.size_alloc] at this,
     by rw [← hW1]; exact (Below.heap_alloc _ _ _ (by simp)).trans (World.alloc_heap_new W0 _), hb1⟩
  refine ⟨W0.heap.size + 1, [{ target := .collected W0.heap.size, args := #[] }], W1, { target := .fn (.func 137) #[.pointer (some ⟨c, 0, none⟩)], args := #[.func (.yield (W0.heap.size + 1)) #[] #[]] }, W1, 137,
    #[.func (.yield (W0.heap.size + 1)) #[] #[], .pointer (some ⟨c, 0, none⟩)], W1, ?_, ?_, fun _ _ => trivial, ?_, (fun h => by cases h), ?_⟩
  · rw [← hW1]; exact run_enterLoop_outer _ _ _ _ _
  · simp [resolve, go_sem]
  · kernel_rfl
  · refine (Z8L 2 (W0.heap.size + 1) c xs w v hm hv hxl (Z7M w fn (.func (.func 137) #[] #[.pointer (some ⟨c, 0, none⟩)]) w.heap.size (W0.heap.size + 1) W0.heap.size) (fun _ _ h => h.low)
      (fun pre x W hJ hl => Za2 _ w fn _ w.heap.size (W0.heap.size + 1) W0.heap.size (by omega) (by omega) (by omega) (Nat.le_refl _) (by omega) pre x W hJ (by omega)) W1 hM).mono ?_
    rintro e W2 ⟨⟨v0, rfl⟩, h2⟩
    obtain ⟨u, hu, hrow⟩ := h2.box
    have hend := run_endLoop (P := Tryz.prog) h2.lp (by simp [Z4v])
    obtain ⟨W3, hW3⟩ : ∃ W3, W2.putObj (W0.heap.size + 1) (.loop { Z4v fn (.func (.func 137) #[] #[.pointer (some ⟨c, 0, none⟩)]) w.heap.size W0.heap.size .ready with state := .exhausted }) = W3 := ⟨_, rfl⟩
    rw [hW3] at hend
    have hg3 : W2.grownBy W3 (some (W0.heap.size + 1)) := by rw [← hW3]; exact grownBy_putObj_a _ _ _
    have hu3 : W3.heap[w.heap.size]? = some (.cells #[u] 23 (0, 0)) := by rw [← hW3]; exact (World.putObj_heap_other (by omega)).trans hu
    have hK3 : W3.heap[W0.heap.size]? = some (.deferred (some [])) := by rw [← hW3]; exact (World.putObj_heap_other (by omega)).trans h2.dfr
    have hrow3 := hrow.kept hg3 (ownsRow_ne_a hrow h2.lp (fun cur e => by cases e))
    have hb3 : Below w.heap.size w W3 := h2.low.grown hg3 h2.low.size (fun k e => by cases e; omega)
    obtain ⟨hc3, hf3⟩ := cell_of_box_a hu3
    clear hW3
    refine ⟨none, W3, hend, ?_⟩
    gi_wp2
    rw [← hs0]
    refine ⟨by simp, .inl ⟨_, _, rfl, run_takeDeferred hK3, ?_⟩⟩
    exact ⟨_, results_tmp rfl _ _ _, u, rfl, hrow3.kept (grownBy_putObj_a _ _ _) (ownsRow_ne_a hrow3 hK3 (fun cur e => by cases e)), hb3.grown (grownBy_putObj_a _ _ _) hb3.size (fun k e => by cases e; omega)⟩
end Go.Proofs.YtgigjkjdmalmaaaGreat
namespace Go.Proofs.YtgigjkjdmalmaaaGreat
open Go.RowKit
theorem Zap {w : World} {e size n base : Nat} {v : Value} {xs : List Value} (h : w.ownsRow base e size v n xs) : (Zc e size v n xs).ok w ∧ ∀ b, v.ownBlock = some b → base ≤ b := by
 refine ⟨⟨h.1, ?_⟩, fun b hb => ?_⟩
 ·rcases h.2 with hn | ⟨g, cap, cur, hv, hb, rest⟩
  ·exact .inl hn
  ·exact .inr ⟨g, cap, cur, hv, Nat.zero_le _, rest⟩
 ·rcases h.2 with ⟨rfl, _⟩ | ⟨g, cap, cur, rfl, hg, _⟩
  ·simp [Value.ownBlock] at hb
  ·simp [Value.ownBlock] at hb; omega
theorem mapU (xs : List Int) : xs.map (Value.int .u64) = xs.flatMap Z3D := by
 induction xs with
 | nil => rfl
 | cons x xs ih => rw [List.map_cons, List.flatMap_cons, ih]; rfl
theorem Z4H (w : World) (b : Nat) (v : Value) (xs : List Int) (hb : (Z3 b 23 [v]).ok w) (hv : ListAt Z3D 1 w v xs) (hx : xs.length ≤ 1000000000) :
  Calls Tryz.prog 150 #[.slice none 0 0, .func (.func 137) #[] #[.pointer (some ⟨b, 0, none⟩)]] w fun e w' => ∃ u, e = .returned u ∧ (Zc 45 1 u xs.length (xs.flatMap Z3D)).ok w' ∧ Upd [] w w' ∧ ∀ k, u.ownBlock = some k → w.heap.size ≤ k := by
 have hm : w.cell? ⟨b, 0, none⟩ = some v := by rw [Z0C hb 0]; rfl
 have hv' : SliceOf Z5p 1 w v xs := by
  rcases hv with h | ⟨h0, b', o, c', e, hc, h⟩
  ·exact .inl h
  ·exact .inr ⟨h0, b', o, c', e, hc, fun i hi => by have := h i hi 0 ((Value.int .u64) xs[i]) rfl; rw [Addr.add_lit] at this; exact this⟩
 refine (callsIn_wide.1 (Z5s b xs v w hm hv' hx)).mono ?_
 rintro e w' ⟨u, rfl, h, hl⟩
 obtain ⟨h1, h2⟩ := Zap h
 exact ⟨u, rfl, mapU xs ▸ h1, Below.upd hl, h2⟩
end Go.Proofs.YtgigjkjdmalmaaaGreat
