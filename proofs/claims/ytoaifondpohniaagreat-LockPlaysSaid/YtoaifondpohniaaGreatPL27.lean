/- WHAT IS PROVED: contracts and plain laws of WtA. Conditions: stated with each. -/
import Derived.Test.YtoaifondpohniaaGreatPL20
import Derived.Test.YtoaifondpohniaaGreatPL23
set_option maxHeartbeats 4000000
set_option maxRecDepth 100000
namespace Go.Proofs.YtoaifondpohniaaGreat
open Go.RowKit
theorem Z5b (w : World) (s : Za) (hs : (s.r ≤ 9223372036854775807 ∧ s.cl ≤ 9223372036854775807 ∧ s.seq ≤ 9223372036854775807 ∧ 0 ≤ s.t ∧ s.t < 18446744073709551616)) :
  Calls Tryz.prog 50 #[(.agg ⟨(([(.int .i64 (s.r)), (.int .i64 (s.cl)), (.int .i64 (s.seq))] : List Value) ++ hc s.h ++ ([(.int .u64 (s.t)), (.int .i64 (s.sb)), (.int .i64 (s.sm))] : List Value))⟩)] w fun e w' => ∃ u, e = .returned u ∧ (Zk 5 1 u (Z1q s).length ((Z1q s).flatMap ZE)).ok w' ∧ Upd [] w w' ∧ ∀ q_, (Zk 5 1 u (Z1q s).length ((Z1q s).flatMap ZE)).fp q_ → w.heap.size ≤ q_ := by
 have H := Sat.start0 w
 refine Zh Tryz.func50 rfl 20 rfl (Nat.le_of_ble_eq_true rfl) ?_
 refine Zd ?_
 refine Zq ?_
 refine Z07 (Z1 rfl) (fun K1 hK1 => ?_)
 refine Z34 (vs := (([(.int .i64 (s.r)), (.int .i64 (s.cl)), (.int .i64 (s.seq))] : List Value) ++ hc s.h ++ ([(.int .u64 (s.t)), (.int .i64 (s.sb)), (.int .i64 (s.sm))] : List Value))) rfl H rfl rfl ?_
 intro b2 w3 (H4 : Sat w [Z7 w (fun _ => False), Z0 b2 31 (([(.int .i64 (s.r)), (.int .i64 (s.cl)), (.int .i64 (s.seq))] : List Value) ++ hc s.h ++ ([(.int .u64 (s.t)), (.int .i64 (s.sb)), (.int .i64 (s.sm))] : List Value))] w3)
 refine hK1 _ _ ?_
 clear hK1 K1
 refine Z2 (Z1 rfl) (d := 2) (v := (.slice none 0 0)) rfl (by kernel_rfl) ?_
 refine Zn ?_
 refine Z4 ?_
 refine Zd ?_
 refine Z08 H4 [Z7 w (fun _ => False), Z0 b2 31 (([(.int .i64 (s.r)), (.int .i64 (s.cl)), (.int .i64 (s.seq))] : List Value) ++ hc s.h ++ ([(.int .u64 (s.t)), (.int .i64 (s.sb)), (.int .i64 (s.sm))] : List Value))] 5 rfl (by kernel_rfl) (fun Hx => (Hx.pick [0, 1] (by decide))) ?_
 intro w5 H6 S7
 refine Z09 1 rfl (by kernel_rfl) (by kernel_rfl) (by kernel_rfl) (fun _ _ _ h => h) S7 (Z1 rfl) (d := 5) (v := (.pointer (some ⟨b2, 0, none⟩))) rfl (fun _ H' => (by kernel_rfl)) ?_
 refine Z09 2 rfl (by kernel_rfl) (by kernel_rfl) (by kernel_rfl) (fun _ _ _ h => h) S7 (Z1 rfl) (d := 6) (v := (.int .i64 (s.r))) rfl (fun _ H' => (Z8 rfl (by kernel_rfl) (H'.cell 1 rfl (by kernel_rfl)))) ?_
 refine Z2R 0 rfl (by kernel_rfl) (Z1 rfl) (fun K8 hK8 => ?_)
 refine Z0g (d := 4) rfl (by kernel_rfl) (Z61 w5 ([97, 99, 107]) (by decide)) ?_
 rintro _ w9 ⟨r10, a11, c12, rfl, k13, p14, q15⟩
 have H16 : Sat w [Z7 w (fun _ => False), Z0 b2 31 (([(.int .i64 (s.r)), (.int .i64 (s.cl)), (.int .i64 (s.seq))] : List Value) ++ hc s.h ++ ([(.int .u64 (s.t)), (.int .i64 (s.sb)), (.int .i64 (s.sm))] : List Value)), ZL (wrL r10 a11 c12 (ZK ([97, 99, 107])))] w9 := H6.addU p14 k13 q15
 have H17 : Sat w [Z7 w (fun _ => False), Z0 b2 31 (([(.int .i64 (s.r)), (.int .i64 (s.cl)), (.int .i64 (s.seq))] : List Value) ++ hc s.h ++ ([(.int .u64 (s.t)), (.int .i64 (s.sb)), (.int .i64 (s.sm))] : List Value)), Z0 r10 174 ([(.slice a11 ((ZK ([97, 99, 107])).length) c12)] : List Value), Zk 5 1 (.slice a11 ((ZK ([97, 99, 107])).length) c12) ((ZK ([97, 99, 107])).length) ((ZK ([97, 99, 107])).flatMap ZE)] w9 := H16.open 2 rfl
 refine ⟨_, rfl, ?_⟩
 have l18 := (show (ZK [97, 99, 107]).length ≤ 13 from Z18 _)
 have S19 := H17.pick [0, 1] (by decide)
 refine hK8 _ _ S19 ?_
 clear hK8 K8
 refine Z2R 3 rfl (by kernel_rfl) (Z1 rfl) (fun K20 hK20 => ?_)
 have l26 := ZO s.r
 refine Z0g (d := 7) rfl (by kernel_rfl) (Z0N w9 r10 a11 c12 (ZK ([97, 99, 107])) (H17.fin [2, 3] (by decide) rfl) (by omega) s.r (by omega)) ?_
 rintro _ w21 ⟨a23, c24, rfl, T22⟩
 have H27 : Sat w [Z7 w (fun _ => False), Z0 b2 31 (([(.int .i64 (s.r)), (.int .i64 (s.cl)), (.int .i64 (s.seq))] : List Value) ++ hc s.h ++ ([(.int .u64 (s.t)), (.int .i64 (s.sb)), (.int .i64 (s.sm))] : List Value)), Z0 r10 174 ([(.slice a23 (((ZK ([97, 99, 107])) ++ Zf s.r).length) c24)] : List Value), Zk 5 1 (.slice a23 (((ZK ([97, 99, 107])) ++ Zf s.r).length) c24) (((ZK ([97, 99, 107])) ++ Zf s.r).length) (((ZK ([97, 99, 107])) ++ Zf s.r).flatMap ZE)] w21 := (Sat.turnL (L' := [Z0 r10 174 ([(.slice a23 (((ZK ([97, 99, 107])) ++ Zf s.r).length) c24)] : List Value), Zk 5 1 (.slice a23 (((ZK ([97, 99, 107])) ++ Zf s.r).length) c24) (((ZK ([97, 99, 107])) ++ Zf s.r).length) (((ZK ([97, 99, 107])) ++ Zf s.r).flatMap ZE)]) (R := [Z7 w (fun _ => False), Z0 b2 31 (([(.int .i64 (s.r)), (.int .i64 (s.cl)), (.int .i64 (s.seq))] : List Value) ++ hc s.h ++ ([(.int .u64 (s.t)), (.int .i64 (s.sb)), (.int .i64 (s.sm))] : List Value))]) H17 [2, 3] [0, 1] (by decide) (by kernel_rfl) rfl T22).pick [2, 3, 0, 1] (by decide)
 refine ⟨_, rfl, ?_⟩
 have S28 := H27.pick [0, 1] (by decide)
 refine hK20 _ _ S28 ?_
 clear hK20 K20
 refine Z09 4 rfl (by kernel_rfl) (by kernel_rfl) (by kernel_rfl) (fun _ _ _ h => h) S28 (Z1 rfl) (d := 3) (v := (.pointer (some ⟨r10, 0, none⟩))) rfl (fun _ H' => (by kernel_rfl)) ?_
 refine Z4t (by kernel_rfl) ?_
 refine Z4 ?_
 refine Zd ?_
 refine Zq ?_
 refine Z2 (Z1 rfl) (d := 8) (v := (.pointer (some ⟨r10, 0, none⟩))) rfl (by kernel_rfl) ?_
 refine Z2 (Z1 rfl) (d := 9) (v := (.pointer (some ⟨b2, 1, none⟩))) rfl (by kernel_rfl) ?_
 refine Z2 (Z1 rfl) (d := 10) (v := (.agg ⟨([(.int .i64 (s.cl)), (.int .i64 (s.seq))] : List Value)⟩)) rfl (Zi (vs := ([(.int .i64 (s.cl)), (.int .i64 (s.seq))] : List Value)) rfl (by kernel_rfl) (by kernel_rfl) (by exact Nat.le_of_ble_eq_true (by kernel_rfl)) (H27.at 1 rfl) (by kernel_rfl)) ?_
 refine Z07 (Z1 rfl) (fun K29 hK29 => ?_)
 have l35 := Z27 s.cl s.seq
 refine Z0g (d := 11) rfl (by kernel_rfl) (Z4I w21 r10 a23 c24 ((ZK ([97, 99, 107])) ++ Zf s.r) (H27.fin [2, 3] (by decide) rfl) (by simp only [List.length_append, List.length_nil]; omega) s.cl s.seq (by omega)) ?_
 rintro _ w30 ⟨a32, c33, rfl, T31⟩
 have H36 : Sat w [Z7 w (fun _ => False), Z0 b2 31 (([(.int .i64 (s.r)), (.int .i64 (s.cl)), (.int .i64 (s.seq))] : List Value) ++ hc s.h ++ ([(.int .u64 (s.t)), (.int .i64 (s.sb)), (.int .i64 (s.sm))] : List Value)), Z0 r10 174 ([(.slice a32 ((((ZK ([97, 99, 107])) ++ Zf s.r) ++ Z00 s.cl s.seq).length) c33)] : List Value), Zk 5 1 (.slice a32 ((((ZK ([97, 99, 107])) ++ Zf s.r) ++ Z00 s.cl s.seq).length) c33) ((((ZK ([97, 99, 107])) ++ Zf s.r) ++ Z00 s.cl s.seq).length) ((((ZK ([97, 99, 107])) ++ Zf s.r) ++ Z00 s.cl s.seq).flatMap ZE)] w30 := (Sat.turnL (L' := [Z0 r10 174 ([(.slice a32 ((((ZK ([97, 99, 107])) ++ Zf s.r) ++ Z00 s.cl s.seq).length) c33)] : List Value), Zk 5 1 (.slice a32 ((((ZK ([97, 99, 107])) ++ Zf s.r) ++ Z00 s.cl s.seq).length) c33) ((((ZK ([97, 99, 107])) ++ Zf s.r) ++ Z00 s.cl s.seq).length) ((((ZK ([97, 99, 107])) ++ Zf s.r) ++ Z00 s.cl s.seq).flatMap ZE)]) (R := [Z7 w (fun _ => False), Z0 b2 31 (([(.int .i64 (s.r)), (.int .i64 (s.cl)), (.int .i64 (s.seq))] : List Value) ++ hc s.h ++ ([(.int .u64 (s.t)), (.int .i64 (s.sb)), (.int .i64 (s.sm))] : List Value))]) H27 [2, 3] [0, 1] (by decide) (by kernel_rfl) rfl T31).pick [2, 3, 0, 1] (by decide)
 refine ⟨_, rfl, ?_⟩
 refine hK29 _ _ ?_
 clear hK29 K29
 refine Zn ?_
 refine Z4 ?_
 refine Zd ?_
 refine Z08 H36 [Z7 w (fun _ => False), Z0 b2 31 (([(.int .i64 (s.r)), (.int .i64 (s.cl)), (.int .i64 (s.seq))] : List Value) ++ hc s.h ++ ([(.int .u64 (s.t)), (.int .i64 (s.sb)), (.int .i64 (s.sm))] : List Value))] 9 rfl (by kernel_rfl) (fun Hx => (Hx.pick [0, 1] (by decide))) ?_
 intro w37 H38 S39
 refine Z09 0 rfl (by kernel_rfl) (by kernel_rfl) (by kernel_rfl) (fun _ _ _ h => h) S39 (Z1 rfl) (d := 12) (v := (.pointer (some ⟨r10, 0, none⟩))) rfl (fun _ H' => (by kernel_rfl)) ?_
 refine Z09 1 rfl (by kernel_rfl) (by kernel_rfl) (by kernel_rfl) (fun _ _ _ h => h) S39 (Z1 rfl) (d := 13) (v := (.pointer (some ⟨b2, 3, none⟩))) rfl (fun _ H' => (by kernel_rfl)) ?_
 refine Z09 2 rfl (by kernel_rfl) (by kernel_rfl) (by kernel_rfl) (fun _ _ _ h => h) S39 (Z1 rfl) (d := 14) (v := (.agg ⟨(hc s.h)⟩)) rfl (fun _ H' => (Zi (vs := (hc s.h)) rfl (by kernel_rfl) (by kernel_rfl) (by exact Nat.le_of_ble_eq_true (by kernel_rfl)) (H'.at 1 rfl) (by kernel_rfl))) ?_
 refine Z09 4 rfl (by kernel_rfl) (by kernel_rfl) (by kernel_rfl) (fun _ _ _ h => h) S39 (Z1 rfl) (d := 16) (v := (.pointer (some ⟨b2, 35, none⟩))) rfl (fun _ H' => (by kernel_rfl)) ?_
 refine Z09 5 rfl (by kernel_rfl) (by kernel_rfl) (by kernel_rfl) (fun _ _ _ h => h) S39 (Z1 rfl) (d := 17) (v := (.int .u64 (s.t))) rfl (fun _ H' => (Z8 rfl (by kernel_rfl) (H'.cell 1 rfl (by kernel_rfl)))) ?_
 refine Z2R 3 rfl (by kernel_rfl) (Z1 rfl) (fun K40 hK40 => ?_)
 have l46 := s.h.len
 refine Z0g (d := 15) rfl (by kernel_rfl) (Z2O w37 r10 a32 c33 (((ZK ([97, 99, 107])) ++ Zf s.r) ++ Z00 s.cl s.seq) (H38.fin [2, 3] (by decide) rfl) (by simp only [List.length_append, List.length_nil]; omega) s.h) ?_
 rintro _ w41 ⟨a43, c44, rfl, T42⟩
 have H47 : Sat w [Z7 w (fun _ => False), Z0 b2 31 (([(.int .i64 (s.r)), (.int .i64 (s.cl)), (.int .i64 (s.seq))] : List Value) ++ hc s.h ++ ([(.int .u64 (s.t)), (.int .i64 (s.sb)), (.int .i64 (s.sm))] : List Value)), Z0 r10 174 ([(.slice a43 (((((ZK ([97, 99, 107])) ++ Zf s.r) ++ Z00 s.cl s.seq) ++ s.h.l).length) c44)] : List Value), Zk 5 1 (.slice a43 (((((ZK ([97, 99, 107])) ++ Zf s.r) ++ Z00 s.cl s.seq) ++ s.h.l).length) c44) (((((ZK ([97, 99, 107])) ++ Zf s.r) ++ Z00 s.cl s.seq) ++ s.h.l).length) (((((ZK ([97, 99, 107])) ++ Zf s.r) ++ Z00 s.cl s.seq) ++ s.h.l).flatMap ZE)] w41 := (Sat.turnL (L' := [Z0 r10 174 ([(.slice a43 (((((ZK ([97, 99, 107])) ++ Zf s.r) ++ Z00 s.cl s.seq) ++ s.h.l).length) c44)] : List Value), Zk 5 1 (.slice a43 (((((ZK ([97, 99, 107])) ++ Zf s.r) ++ Z00 s.cl s.seq) ++ s.h.l).length) c44) (((((ZK ([97, 99, 107])) ++ Zf s.r) ++ Z00 s.cl s.seq) ++ s.h.l).length) (((((ZK ([97, 99, 107])) ++ Zf s.r) ++ Z00 s.cl s.seq) ++ s.h.l).flatMap ZE)]) (R := [Z7 w (fun _ => False), Z0 b2 31 (([(.int .i64 (s.r)), (.int .i64 (s.cl)), (.int .i64 (s.seq))] : List Value) ++ hc s.h ++ ([(.int .u64 (s.t)), (.int .i64 (s.sb)), (.int .i64 (s.sm))] : List Value))]) H38 [2, 3] [0, 1] (by decide) (by kernel_rfl) rfl T42).pick [2, 3, 0, 1] (by decide)
 refine ⟨_, rfl, ?_⟩
 have S48 := H47.pick [0, 1] (by decide)
 refine hK40 _ _ S48 ?_
 clear hK40 K40
 refine Z2R 6 rfl (by kernel_rfl) (Z1 rfl) (fun K49 hK49 => ?_)
 have l55 := Z2b s.t.toNat
 refine Z0g (d := 18) rfl (by rw [show s.t = ((s.t.toNat : Nat) : Int) by omega]; kernel_rfl) (Z4J w41 r10 a43 c44 ((((ZK ([97, 99, 107])) ++ Zf s.r) ++ Z00 s.cl s.seq) ++ s.h.l) (H47.fin [2, 3] (by decide) rfl) (by simp only [List.length_append, List.length_nil]; omega) s.t.toNat (by omega)) ?_
 rintro _ w50 ⟨a52, c53, rfl, T51⟩
 have H56 : Sat w [Z7 w (fun _ => False), Z0 b2 31 (([(.int .i64 (s.r)), (.int .i64 (s.cl)), (.int .i64 (s.seq))] : List Value) ++ hc s.h ++ ([(.int .u64 (s.t)), (.int .i64 (s.sb)), (.int .i64 (s.sm))] : List Value)), Z0 r10 174 ([(.slice a52 ((((((ZK ([97, 99, 107])) ++ Zf s.r) ++ Z00 s.cl s.seq) ++ s.h.l) ++ Z0H s.t.toNat).length) c53)] : List Value), Zk 5 1 (.slice a52 ((((((ZK ([97, 99, 107])) ++ Zf s.r) ++ Z00 s.cl s.seq) ++ s.h.l) ++ Z0H s.t.toNat).length) c53) ((((((ZK ([97, 99, 107])) ++ Zf s.r) ++ Z00 s.cl s.seq) ++ s.h.l) ++ Z0H s.t.toNat).length) ((((((ZK ([97, 99, 107])) ++ Zf s.r) ++ Z00 s.cl s.seq) ++ s.h.l) ++ Z0H s.t.toNat).flatMap ZE)] w50 := (Sat.turnL (L' := [Z0 r10 174 ([(.slice a52 ((((((ZK ([97, 99, 107])) ++ Zf s.r) ++ Z00 s.cl s.seq) ++ s.h.l) ++ Z0H s.t.toNat).length) c53)] : List Value), Zk 5 1 (.slice a52 ((((((ZK ([97, 99, 107])) ++ Zf s.r) ++ Z00 s.cl s.seq) ++ s.h.l) ++ Z0H s.t.toNat).length) c53) ((((((ZK ([97, 99, 107])) ++ Zf s.r) ++ Z00 s.cl s.seq) ++ s.h.l) ++ Z0H s.t.toNat).length) ((((((ZK ([97, 99, 107])) ++ Zf s.r) ++ Z00 s.cl s.seq) ++ s.h.l) ++ Z0H s.t.toNat).flatMap ZE)]) (R := [Z7 w (fun _ => False), Z0 b2 31 (([(.int .i64 (s.r)), (.int .i64 (s.cl)), (.int .i64 (s.seq))] : List Value) ++ hc s.h ++ ([(.int .u64 (s.t)), (.int .i64 (s.sb)), (.int .i64 (s.sm))] : List Value))]) H47 [2, 3] [0, 1] (by decide) (by kernel_rfl) rfl T51).pick [2, 3, 0, 1] (by decide)
 refine ⟨_, rfl, ?_⟩
 have S57 := H56.pick [0, 1] (by decide)
 refine hK49 _ _ S57 ?_
 clear hK49 K49
 refine Z2R 7 rfl (by kernel_rfl) (Z1 rfl) (fun K58 hK58 => ?_)
 refine Z0g (d := 19) rfl (by kernel_rfl) (Z2A w50 r10 a52 c53 (((((ZK ([97, 99, 107])) ++ Zf s.r) ++ Z00 s.cl s.seq) ++ s.h.l) ++ Z0H s.t.toNat) (H56.fin [2, 3] (by decide) rfl) (by simp only [List.length_append, List.length_nil]; omega)) ?_
 rintro _ w59 ⟨u60, rfl, T61⟩
 have H62 : Sat w [Z7 w (fun _ => False), Z0 b2 31 (([(.int .i64 (s.r)), (.int .i64 (s.cl)), (.int .i64 (s.seq))] : List Value) ++ hc s.h ++ ([(.int .u64 (s.t)), (.int .i64 (s.sb)), (.int .i64 (s.sm))] : List Value)), Z0 r10 174 ([(.slice a52 ((((((ZK ([97, 99, 107])) ++ Zf s.r) ++ Z00 s.cl s.seq) ++ s.h.l) ++ Z0H s.t.toNat).length) c53)] : List Value), Zk 5 1 (.slice a52 ((((((ZK ([97, 99, 107])) ++ Zf s.r) ++ Z00 s.cl s.seq) ++ s.h.l) ++ Z0H s.t.toNat).length) c53) ((((((ZK ([97, 99, 107])) ++ Zf s.r) ++ Z00 s.cl s.seq) ++ s.h.l) ++ Z0H s.t.toNat).length) ((((((ZK ([97, 99, 107])) ++ Zf s.r) ++ Z00 s.cl s.seq) ++ s.h.l) ++ Z0H s.t.toNat).flatMap ZE), Zk 5 1 u60 ((((((ZK ([97, 99, 107])) ++ Zf s.r) ++ Z00 s.cl s.seq) ++ s.h.l) ++ Z0H s.t.toNat).length) ((((((ZK ([97, 99, 107])) ++ Zf s.r) ++ Z00 s.cl s.seq) ++ s.h.l) ++ Z0H s.t.toNat).flatMap ZE)] w59 := (Sat.turnL (L' := [Z0 r10 174 ([(.slice a52 ((((((ZK ([97, 99, 107])) ++ Zf s.r) ++ Z00 s.cl s.seq) ++ s.h.l) ++ Z0H s.t.toNat).length) c53)] : List Value), Zk 5 1 (.slice a52 ((((((ZK ([97, 99, 107])) ++ Zf s.r) ++ Z00 s.cl s.seq) ++ s.h.l) ++ Z0H s.t.toNat).length) c53) ((((((ZK ([97, 99, 107])) ++ Zf s.r) ++ Z00 s.cl s.seq) ++ s.h.l) ++ Z0H s.t.toNat).length) ((((((ZK ([97, 99, 107])) ++ Zf s.r) ++ Z00 s.cl s.seq) ++ s.h.l) ++ Z0H s.t.toNat).flatMap ZE), Zk 5 1 u60 ((((((ZK ([97, 99, 107])) ++ Zf s.r) ++ Z00 s.cl s.seq) ++ s.h.l) ++ Z0H s.t.toNat).length) ((((((ZK ([97, 99, 107])) ++ Zf s.r) ++ Z00 s.cl s.seq) ++ s.h.l) ++ Z0H s.t.toNat).flatMap ZE)]) (R := [Z7 w (fun _ => False), Z0 b2 31 (([(.int .i64 (s.r)), (.int .i64 (s.cl)), (.int .i64 (s.seq))] : List Value) ++ hc s.h ++ ([(.int .u64 (s.t)), (.int .i64 (s.sb)), (.int .i64 (s.sm))] : List Value))]) H56 [2, 3] [0, 1] (by decide) (by kernel_rfl) rfl T61).pick [3, 4, 0, 1, 2] (by decide)
 obtain ⟨a63, c64, rfl⟩ := Z6 (H62.at 4 rfl)
 refine ⟨_, rfl, ?_⟩
 have S65 := H62.pick [0, 1] (by decide)
 refine hK58 _ _ S65 ?_
 clear hK58 K58
 refine Z09 8 rfl (by kernel_rfl) (by kernel_rfl) (by kernel_rfl) (fun _ _ _ h => h) S65 (Z1 rfl) (d := 2) (v := (.slice a63 (((((ZK ([97, 99, 107])) ++ Zf s.r) ++ Z00 s.cl s.seq) ++ s.h.l) ++ Z0H s.t.toNat).length c64)) rfl (fun _ H' => (by kernel_rfl)) ?_
 refine Z4t (by kernel_rfl) ?_
 refine Z4 ?_
 refine ZI ?_
 refine Z2e rfl (ZT (v := (.slice a63 (((((ZK ([97, 99, 107])) ++ Zf s.r) ++ Z00 s.cl s.seq) ++ s.h.l) ++ Z0H s.t.toNat).length c64)) rfl) ?_
 have hX : (((((ZK ([97, 99, 107])) ++ Zf s.r) ++ Z00 s.cl s.seq) ++ s.h.l) ++ Z0H s.t.toNat) = Z1q s := by simp only [Z1q, Z12, List.flatten_cons, List.flatten_nil, List.append_nil, List.append_assoc, List.nil_append]
 exact ⟨_, rfl, (by rw [← hX]; exact H62.at 4 rfl), H62.upd 0 rfl [] (fun _ h => h.elim), (by rw [← hX]; exact H62.fresh 0 rfl (fun _ h => h) 4 rfl rfl)⟩
end Go.Proofs.YtoaifondpohniaaGreat
