/- WHAT IS PROVED: contracts and plain laws of Wt2. Conditions: stated with each. -/
import Derived.Test.YtgigjkjdmalmaaaGreatPY05
import Derived.Test.YtgigjkjdmalmaaaGreatPY08
set_option maxHeartbeats 4000000
set_option maxRecDepth 100000
namespace Go.Proofs.YtgigjkjdmalmaaaGreat
open Go.RowKit
abbrev Z2O (p0 : Zk) : List Value := ([(.int .i64 p0.r), (.int .i64 p0.cl), (.int .i64 p0.seq)] : List Value) ++ hc p0.h ++ ([(.int .u64 p0.t), (.int .i64 p0.sb), (.int .i64 p0.sm)] : List Value)
abbrev Z0o (p0 : Option Addr) (p1 : Nat) (p2 : Nat) : List Value := ([(.slice p0 p1 p2)] : List Value)
abbrev Z0p (p0 : Option Addr) (p1 : List UInt8) (p2 : Nat) : Ck := Zc 5 1 (.slice p0 p1.length p2) p1.length (p1.flatMap ZH)
abbrev Z0G (p0 : Z0) : List Value := ([(.int .i64 p0.cl), (.int .i64 p0.seq)] : List Value) ++ hc p0.h ++ ([(.int .i64 p0.len), (.int .i64 p0.sb), (.int .i64 p0.sm)] : List Value)
abbrev Z5d : List Value := ([(.int .u8 (114)), (.int .u8 (101)), (.int .u8 (113)), (.int .u8 (117)), (.int .u8 (101)), (.int .u8 (115)), (.int .u8 (116))] : List Value)
theorem Z4R (w : World) (s : Zk) (hs : (s.r ≤ 9223372036854775807 ∧ s.cl ≤ 9223372036854775807 ∧ s.seq ≤ 9223372036854775807 ∧ 0 ≤ s.t ∧ s.t < 18446744073709551616)) :
  Calls Tryz.prog 77 #[(.agg ⟨(([(.int .i64 (s.r)), (.int .i64 (s.cl)), (.int .i64 (s.seq))] : List Value) ++ hc s.h ++ ([(.int .u64 (s.t)), (.int .i64 (s.sb)), (.int .i64 (s.sm))] : List Value))⟩)] w fun e w' => ∃ u, e = .returned u ∧ (Zc 5 1 u (Z1V s).length ((Z1V s).flatMap ZH)).ok w' ∧ Upd [] w w' ∧ ∀ q_, (Zc 5 1 u (Z1V s).length ((Z1V s).flatMap ZH)).fp q_ → w.heap.size ≤ q_ := by
 have H := Sat.start0 w
 refine Zg Tryz.func77 rfl 20 rfl (Nat.le_of_ble_eq_true rfl) ?_
 apply zsl
 refine zwd fun Kq kq => ?_
 refine zdb (Z2O s) H ?_
 intro b2 w3 H4
 refine kq _ _ ?_
 clear kq Kq
 refine wv 2 (.slice none 0 0) ?_
 apply znt
 apply Zf
 refine Z0b H4 [Z7 w (fun _ => False), Z3 b2 49 (Z2O s)] 5 rfl (by kernel_rfl) (fun Hx => (Hx.pk [0, 1])) ?_
 intro w5 H6 S7
 refine hv0 1 S7 5 (pt b2 0) ?_
 refine hv0 2 S7 6 (.int .i64 (s.r)) ?_ (he := fun _ H' => (Zi rfl (by kernel_rfl) (H'.cell 1 rfl (by kernel_rfl))))
 refine Z0H 0 fun Kq kq => ?_
 refine zdc 4 (Z78 w5 ([115, 116, 97, 109, 112]) (by decide)) ?_
 rintro _ w9 ⟨r10, a11, c12, rfl, k13, p14, q15⟩
 have H16 : Sat w [Z7 w (fun _ => False), Z3 b2 49 (Z2O s), ZL (wrL r10 a11 c12 (Zs ([115, 116, 97, 109, 112])))] w9 := H6.addU p14 k13 q15
 have H17 := H16.open 2 rfl
 refine ⟨_, rfl, ?_⟩
 have l18 := (show (Zs [115, 116, 97, 109, 112]).length ≤ 15 from Z10 _)
 have S19 := H17.pk [0, 1]
 refine kq _ _ S19 ?_
 clear kq Kq
 refine Z0H 3 fun Kq kq => ?_
 have l26 := Z0g s.r
 refine zdc 7 (Z0z w9 r10 a11 c12 (Zs ([115, 116, 97, 109, 112])) (H17.fn [2, 3]) (by omega) s.r (by omega)) ?_
 rintro _ w21 ⟨a23, c24, rfl, T22⟩
 have H27 : Sat w [Z7 w (fun _ => False), Z3 b2 49 (Z2O s), Z3 r10 187 (Z0o a23 (((Zs ([115, 116, 97, 109, 112])) ++ Zl s.r).length) c24), (Z0p a23 ((Zs ([115, 116, 97, 109, 112])) ++ Zl s.r) c24)] w21 := (Sat.turnL (L' := [Z3 r10 187 (Z0o a23 (((Zs ([115, 116, 97, 109, 112])) ++ Zl s.r).length) c24), (Z0p a23 ((Zs ([115, 116, 97, 109, 112])) ++ Zl s.r) c24)]) (R := [Z7 w (fun _ => False), Z3 b2 49 (Z2O s)]) H17 [2, 3] [0, 1] (by decide) (by kernel_rfl) rfl T22).pk [2, 3, 0, 1]
 refine ⟨_, rfl, ?_⟩
 have S28 := H27.pk [0, 1]
 refine kq _ _ S28 ?_
 clear kq Kq
 refine hv0 4 S28 3 (pt r10 0) ?_
 refine zhf ?_
 apply ztn
 apply zsl
 refine wv 8 (pt r10 0) ?_
 refine wv 9 (pt b2 1) ?_
 refine zwN 10 ([(.int .i64 (s.cl)), (.int .i64 (s.seq))] : List Value) (H27.at 1 rfl) ?_
 refine zwd fun Kq kq => ?_
 have l35 := Z6S s.cl s.seq
 refine zdc 11 (Z77 w21 r10 a23 c24 ((Zs ([115, 116, 97, 109, 112])) ++ Zl s.r) (H27.fn [2, 3]) (by simp only [List.length_append, List.length_nil]; omega) s.cl s.seq (by omega)) ?_
 rintro _ w30 ⟨a32, c33, rfl, T31⟩
 have H36 := H27.tl [Z3 r10 187 (Z0o a32 ((((Zs ([115, 116, 97, 109, 112])) ++ Zl s.r) ++ Z07 s.cl s.seq).length) c33), (Z0p a32 (((Zs ([115, 116, 97, 109, 112])) ++ Zl s.r) ++ Z07 s.cl s.seq) c33)] [2, 3] [0, 1] T31 [2, 3, 0, 1]
 refine ⟨_, rfl, ?_⟩
 refine kq _ _ ?_
 clear kq Kq
 apply znt
 apply Zf
 refine Z0b H36 [Z7 w (fun _ => False), Z3 b2 49 (Z2O s)] 9 rfl (by kernel_rfl) (fun Hx => (Hx.pk [0, 1])) ?_
 intro w37 H38 S39
 refine hv0 0 S39 12 (pt r10 0) ?_
 refine hv0 1 S39 13 (pt b2 3) ?_
 refine hv0 2 S39 14 (.agg ⟨(hc s.h)⟩) ?_ (he := fun _ H' => (ZG (vs := (hc s.h)) rfl (by kernel_rfl) (by kernel_rfl) (by exact Nat.le_of_ble_eq_true (by kernel_rfl)) (H'.at 1 rfl) (by kernel_rfl)))
 refine hv0 4 S39 16 (pt b2 35) ?_
 refine hv0 5 S39 17 (.int .u64 (s.t)) ?_ (he := fun _ H' => (Zi rfl (by kernel_rfl) (H'.cell 1 rfl (by kernel_rfl))))
 refine Z0H 3 fun Kq kq => ?_
 have l46 := s.h.len
 refine zdc 15 (Z1u w37 r10 a32 c33 (((Zs ([115, 116, 97, 109, 112])) ++ Zl s.r) ++ Z07 s.cl s.seq) (H38.fn [2, 3]) (by simp only [List.length_append, List.length_nil]; omega) s.h) ?_
 rintro _ w41 ⟨a43, c44, rfl, T42⟩
 have H47 : Sat w [Z7 w (fun _ => False), Z3 b2 49 (Z2O s), Z3 r10 187 (Z0o a43 (((((Zs ([115, 116, 97, 109, 112])) ++ Zl s.r) ++ Z07 s.cl s.seq) ++ s.h.l).length) c44), (Z0p a43 ((((Zs ([115, 116, 97, 109, 112])) ++ Zl s.r) ++ Z07 s.cl s.seq) ++ s.h.l) c44)] w41 := (Sat.turnL (L' := [Z3 r10 187 (Z0o a43 (((((Zs ([115, 116, 97, 109, 112])) ++ Zl s.r) ++ Z07 s.cl s.seq) ++ s.h.l).length) c44), (Z0p a43 ((((Zs ([115, 116, 97, 109, 112])) ++ Zl s.r) ++ Z07 s.cl s.seq) ++ s.h.l) c44)]) (R := [Z7 w (fun _ => False), Z3 b2 49 (Z2O s)]) H38 [2, 3] [0, 1] (by decide) (by kernel_rfl) rfl T42).pk [2, 3, 0, 1]
 refine ⟨_, rfl, ?_⟩
 have S48 := H47.pk [0, 1]
 refine kq _ _ S48 ?_
 clear kq Kq
 refine Z0H 6 fun Kq kq => ?_
 have l55 := Z6b s.t.toNat
 refine Z0L (d := 18) rfl (by rw [show s.t = ((s.t.toNat : Nat) : Int) by omega]; kernel_rfl) (Z6d w41 r10 a43 c44 ((((Zs ([115, 116, 97, 109, 112])) ++ Zl s.r) ++ Z07 s.cl s.seq) ++ s.h.l) (H47.fn [2, 3]) (by simp only [List.length_append, List.length_nil]; omega) s.t.toNat (by omega)) ?_
 rintro _ w50 ⟨a52, c53, rfl, T51⟩
 have H56 := H47.tl [Z3 r10 187 (Z0o a52 ((((((Zs ([115, 116, 97, 109, 112])) ++ Zl s.r) ++ Z07 s.cl s.seq) ++ s.h.l) ++ Z1k s.t.toNat).length) c53), (Z0p a52 (((((Zs ([115, 116, 97, 109, 112])) ++ Zl s.r) ++ Z07 s.cl s.seq) ++ s.h.l) ++ Z1k s.t.toNat) c53)] [2, 3] [0, 1] T51 [2, 3, 0, 1]
 refine ⟨_, rfl, ?_⟩
 have S57 := H56.pk [0, 1]
 refine kq _ _ S57 ?_
 clear kq Kq
 refine Z0H 7 fun Kq kq => ?_
 refine zdc 19 (Z1i w50 r10 a52 c53 (((((Zs ([115, 116, 97, 109, 112])) ++ Zl s.r) ++ Z07 s.cl s.seq) ++ s.h.l) ++ Z1k s.t.toNat) (H56.fn [2, 3]) (by simp only [List.length_append, List.length_nil]; omega)) ?_
 rintro _ w59 ⟨u60, rfl, T61⟩
 have H62 : Sat w [Z7 w (fun _ => False), Z3 b2 49 (Z2O s), Z3 r10 187 (Z0o a52 ((((((Zs ([115, 116, 97, 109, 112])) ++ Zl s.r) ++ Z07 s.cl s.seq) ++ s.h.l) ++ Z1k s.t.toNat).length) c53), (Z0p a52 (((((Zs ([115, 116, 97, 109, 112])) ++ Zl s.r) ++ Z07 s.cl s.seq) ++ s.h.l) ++ Z1k s.t.toNat) c53), Zc 5 1 u60 ((((((Zs ([115, 116, 97, 109, 112])) ++ Zl s.r) ++ Z07 s.cl s.seq) ++ s.h.l) ++ Z1k s.t.toNat).length) ((((((Zs ([115, 116, 97, 109, 112])) ++ Zl s.r) ++ Z07 s.cl s.seq) ++ s.h.l) ++ Z1k s.t.toNat).flatMap ZH)] w59 := (Sat.turnL (L' := [Z3 r10 187 (Z0o a52 ((((((Zs ([115, 116, 97, 109, 112])) ++ Zl s.r) ++ Z07 s.cl s.seq) ++ s.h.l) ++ Z1k s.t.toNat).length) c53), (Z0p a52 (((((Zs ([115, 116, 97, 109, 112])) ++ Zl s.r) ++ Z07 s.cl s.seq) ++ s.h.l) ++ Z1k s.t.toNat) c53), Zc 5 1 u60 ((((((Zs ([115, 116, 97, 109, 112])) ++ Zl s.r) ++ Z07 s.cl s.seq) ++ s.h.l) ++ Z1k s.t.toNat).length) ((((((Zs ([115, 116, 97, 109, 112])) ++ Zl s.r) ++ Z07 s.cl s.seq) ++ s.h.l) ++ Z1k s.t.toNat).flatMap ZH)]) (R := [Z7 w (fun _ => False), Z3 b2 49 (Z2O s)]) H56 [2, 3] [0, 1] (by decide) (by kernel_rfl) rfl T61).pk [3, 4, 0, 1, 2]
 obtain ⟨a63, c64, rfl⟩ := Ze (H62.at 4 rfl)
 refine ⟨_, rfl, ?_⟩
 have S65 := H62.pk [0, 1]
 refine kq _ _ S65 ?_
 clear kq Kq
 refine hv0 8 S65 2 (.slice a63 (((((Zs ([115, 116, 97, 109, 112])) ++ Zl s.r) ++ Z07 s.cl s.seq) ++ s.h.l) ++ Z1k s.t.toNat).length c64) ?_
 refine zhf ?_
 apply ztn
 apply Zz
 refine ze1 (.slice a63 (((((Zs ([115, 116, 97, 109, 112])) ++ Zl s.r) ++ Z07 s.cl s.seq) ++ s.h.l) ++ Z1k s.t.toNat).length c64) ?_
 have hX : (((((Zs ([115, 116, 97, 109, 112])) ++ Zl s.r) ++ Z07 s.cl s.seq) ++ s.h.l) ++ Z1k s.t.toNat) = Z1V s := by simp only [Z1V, Z1, Z7c, List.flatten_cons, List.flatten_nil, List.append_nil, List.append_assoc, List.nil_append]
 exact ⟨_, rfl, (by rw [← hX]; exact H62.at 4 rfl), H62.upd 0 rfl [] (fun _ h => h.elim), (by rw [← hX]; exact H62.fresh 0 rfl (fun _ h => h) 4 rfl rfl)⟩
theorem Z2y (w : World) (s : Z0) (hs : (s.cl ≤ 9223372036854775807 ∧ s.seq ≤ 9223372036854775807 ∧ s.len ≤ 9223372036854775807)) :
  Calls Tryz.prog 49 #[(.agg ⟨(([(.int .i64 (s.cl)), (.int .i64 (s.seq))] : List Value) ++ hc s.h ++ ([(.int .i64 (s.len)), (.int .i64 (s.sb)), (.int .i64 (s.sm))] : List Value))⟩)] w fun e w' => ∃ u, e = .returned u ∧ (Zc 5 1 u (Z1 s).length ((Z1 s).flatMap ZH)).ok w' ∧ Upd [] w w' ∧ ∀ q_, (Zc 5 1 u (Z1 s).length ((Z1 s).flatMap ZH)).fp q_ → w.heap.size ≤ q_ := by
 have H := Sat.start0 w
 refine Zg Tryz.func49 rfl 24 rfl (Nat.le_of_ble_eq_true rfl) ?_
 apply zsl
 refine zwd fun Kq kq => ?_
 refine zdb (Z0G s) H ?_
 intro b2 w3 H4
 refine kq _ _ ?_
 clear kq Kq
 refine wv 2 (.slice none 0 0) ?_
 apply znt
 apply Zf
 refine Z0b H4 [Z7 w (fun _ => False), Z3 b2 54 (Z0G s)] 13 rfl (by kernel_rfl) (fun Hx => (Hx.pk [0, 1])) ?_
 intro w5 H6 S7
 refine hv0 4 S7 8 (pt b2 0) ?_
 refine hv0 5 S7 9 (pt b2 0) ?_
 refine hv0 6 S7 10 (.int .i64 (s.cl)) ?_ (he := fun _ H' => (Zi rfl (by kernel_rfl) (H'.cell 1 rfl (by kernel_rfl))))
 refine hv0 8 S7 12 (pt b2 0) ?_
 refine hv0 9 S7 13 (pt b2 1) ?_
 refine hv0 10 S7 14 (.int .i64 (s.seq)) ?_ (he := fun _ H' => (Zi rfl (by kernel_rfl) (H'.cell 1 rfl (by kernel_rfl))))
 refine Z3W 0 1 rfl rfl (by kernel_rfl) (Z5 rfl) (Z5 rfl) (fun Kq kq => ?_) (fun Kq kq => ?_)
 ·refine zdc 4 (Z2b w5) ?_
  rintro _ w9 ⟨r10, a11, c12, rfl, k13, p14, q15⟩
  have H16 : Sat w [Z7 w (fun _ => False), Z3 b2 54 (Z0G s), ZL (wrL r10 a11 c12 ([] : List UInt8))] w9 := H6.addU p14 k13 q15
  have H17 := H16.open 2 rfl
  refine ⟨_, rfl, ?_⟩
  have S18 := H17.pk [0, 1]
  refine kq _ _ S18 ?_
  clear kq Kq
  refine Z0H 1 fun Kq kq => ?_
  refine Z3U 5 1 1 (.int .u8 (0)) [(0, (.int .u8 (114))), (1, (.int .u8 (101))), (2, (.int .u8 (113))), (3, (.int .u8 (117))), (4, (.int .u8 (101))), (5, (.int .u8 (115))), (6, (.int .u8 (116)))] (Z5d) H17 ?_
  intro b20 w21 (H22 : Sat w [Z7 w (fun _ => False), Z3 b2 54 (Z0G s), Z3 r10 187 (Z0o a11 (([] : List UInt8).length) c12), (Z0p a11 (([] : List UInt8)) c12), Zc 5 1 (.slice (some ⟨b20, 0, none⟩) 7 7) 7 (Z5d)] w21)
  have H23 := H22.ct 4 rfl (Zc 5 1 (.slice (some ⟨b20, 0, none⟩) 7 7) 7 ([114, 101, 113, 117, 101, 115, 116].flatMap ZH)) (by rw [show ((Z5d) : List Value) = [114, 101, 113, 117, 101, 115, 116].flatMap ZH from rfl])
  have S24 := H23.pk [0, 1]
  refine kq _ _ S24 ?_
  clear kq Kq
  refine Z0H 2 fun Kq kq => ?_
  refine Z1n (e := 5) (s := [114, 101, 113, 117, 101, 115, 116]) rfl H23 4 rfl (by kernel_rfl) (by kernel_rfl) rfl ?_
  intro w26 (H27 : Sat w [Z7 w (fun _ => False), Z3 b2 54 (Z0G s), Z3 r10 187 (Z0o a11 (([] : List UInt8).length) c12), (Z0p a11 (([] : List UInt8)) c12), ZX (.slice (some ⟨b20, 0, none⟩) 7 7) ([114, 101, 113, 117, 101, 115, 116])] w26)
  have S28 := H27.pk [0, 1]
  refine kq _ _ S28 ?_
  clear kq Kq
  refine Z0H 3 fun Kq kq => ?_
  have l35 := (show (Zs [114, 101, 113, 117, 101, 115, 116]).length ≤ 17 from Z10 _)
  refine zdc 7 (Z19 w26 r10 a11 c12 ([] : List UInt8) (H27.fn [2, 3]) (by simp) (some ⟨b20, 0, none⟩) 7 ([114, 101, 113, 117, 101, 115, 116]) (ListAt.ofTxt (H27.at 4 rfl)) (Z2W (fun b hb => H27.offP [2, 3] 4 rfl rfl (by decide) hb)) (by first | omega | simp)) ?_
  rintro _ w30 ⟨a32, c33, rfl, T31⟩
  have H36 := H27.tl [Z3 r10 187 (Z0o a32 ((([] : List UInt8) ++ Zs ([114, 101, 113, 117, 101, 115, 116])).length) c33), (Z0p a32 (([] : List UInt8) ++ Zs ([114, 101, 113, 117, 101, 115, 116])) c33)] [2, 3] [0, 1, 4] T31 [2, 3, 0, 1, 4]
  refine ⟨_, rfl, ?_⟩
  have S37 := H36.pk [0, 1]
  refine kq _ _ S37 ?_
  clear kq Kq
  refine Z0H 7 fun Kq kq => ?_
  have l44 := Z0g s.cl
  refine zdc 11 (Z0z w30 r10 a32 c33 (([] : List UInt8) ++ Zs ([114, 101, 113, 117, 101, 115, 116])) (H36.fn [2, 3]) (by simp only [List.length_append, List.length_nil]; omega) s.cl (by omega)) ?_
  rintro _ w39 ⟨a41, c42, rfl, T40⟩
  have H45 : Sat w [Z7 w (fun _ => False), Z3 b2 54 (Z0G s), Z3 r10 187 (Z0o a41 (((([] : List UInt8) ++ Zs ([114, 101, 113, 117, 101, 115, 116])) ++ Zl s.cl).length) c42), (Z0p a41 ((([] : List UInt8) ++ Zs ([114, 101, 113, 117, 101, 115, 116])) ++ Zl s.cl) c42), ZX (.slice (some ⟨b20, 0, none⟩) 7 7) ([114, 101, 113, 117, 101, 115, 116])] w39 := (Sat.turnL (L' := [Z3 r10 187 (Z0o a41 (((([] : List UInt8) ++ Zs ([114, 101, 113, 117, 101, 115, 116])) ++ Zl s.cl).length) c42), (Z0p a41 ((([] : List UInt8) ++ Zs ([114, 101, 113, 117, 101, 115, 116])) ++ Zl s.cl) c42)]) (R := [Z7 w (fun _ => False), Z3 b2 54 (Z0G s), ZX (.slice (some ⟨b20, 0, none⟩) 7 7) ([114, 101, 113, 117, 101, 115, 116])]) H36 [2, 3] [0, 1, 4] (by decide) (by kernel_rfl) rfl T40).pk [2, 3, 0, 1, 4]
  refine ⟨_, rfl, ?_⟩
  have S46 := H45.pk [0, 1]
  refine kq _ _ S46 ?_
  clear kq Kq
  refine Z0H 11 fun Kq kq => ?_
  have l53 := Z0g s.seq
  refine zdc 15 (Z0z w39 r10 a41 c42 ((([] : List UInt8) ++ Zs ([114, 101, 113, 117, 101, 115, 116])) ++ Zl s.cl) (H45.fn [2, 3]) (by simp only [List.length_append, List.length_nil]; omega) s.seq (by omega)) ?_
  rintro _ w48 ⟨a50, c51, rfl, T49⟩
  have H54 := H45.tl [Z3 r10 187 (Z0o a50 ((((([] : List UInt8) ++ Zs ([114, 101, 113, 117, 101, 115, 116])) ++ Zl s.cl) ++ Zl s.seq).length) c51), (Z0p a50 (((([] : List UInt8) ++ Zs ([114, 101, 113, 117, 101, 115, 116])) ++ Zl s.cl) ++ Zl s.seq) c51)] [2, 3] [0, 1, 4] T49 [2, 3, 0, 1, 4]
  refine ⟨_, rfl, ?_⟩
  have S55 := H54.pk [0, 1]
  refine kq _ _ S55 ?_
  clear kq Kq
  refine hv0 12 S55 3 (pt r10 0) ?_
  refine zhf ?_
  apply ztn
  apply Zf
  refine Z0b H54 [Z7 w (fun _ => False), Z3 b2 54 (Z0G s), ZX (.slice (some ⟨b20, 0, none⟩) 7 7) ([114, 101, 113, 117, 101, 115, 116])] 9 rfl (by kernel_rfl) (fun Hx => (Hx.pk [0, 1, 4])) ?_
  intro w56 H57 S58
  refine hv0 0 S58 16 (pt r10 0) ?_
  refine hv0 1 S58 17 (pt b2 2) ?_
  refine hv0 2 S58 18 (.agg ⟨(hc s.h)⟩) ?_ (he := fun _ H' => (ZG (vs := (hc s.h)) rfl (by kernel_rfl) (by kernel_rfl) (by exact Nat.le_of_ble_eq_true (by kernel_rfl)) (H'.at 1 rfl) (by kernel_rfl)))
  refine hv0 4 S58 20 (pt b2 34) ?_
  refine hv0 5 S58 21 (.int .i64 (s.len)) ?_ (he := fun _ H' => (Zi rfl (by kernel_rfl) (H'.cell 1 rfl (by kernel_rfl))))
  refine Z0H 3 fun Kq kq => ?_
  have l65 := s.h.len
  refine zdc 19 (Z1u w56 r10 a50 c51 (((([] : List UInt8) ++ Zs ([114, 101, 113, 117, 101, 115, 116])) ++ Zl s.cl) ++ Zl s.seq) (H57.fn [2, 3]) (by simp only [List.length_append, List.length_nil]; omega) s.h) ?_
  rintro _ w60 ⟨a62, c63, rfl, T61⟩
  have H66 : Sat w [Z7 w (fun _ => False), Z3 b2 54 (Z0G s), Z3 r10 187 (Z0o a62 (((((([] : List UInt8) ++ Zs ([114, 101, 113, 117, 101, 115, 116])) ++ Zl s.cl) ++ Zl s.seq) ++ s.h.l).length) c63), (Z0p a62 ((((([] : List UInt8) ++ Zs ([114, 101, 113, 117, 101, 115, 116])) ++ Zl s.cl) ++ Zl s.seq) ++ s.h.l) c63), ZX (.slice (some ⟨b20, 0, none⟩) 7 7) ([114, 101, 113, 117, 101, 115, 116])] w60 := (Sat.turnL (L' := [Z3 r10 187 (Z0o a62 (((((([] : List UInt8) ++ Zs ([114, 101, 113, 117, 101, 115, 116])) ++ Zl s.cl) ++ Zl s.seq) ++ s.h.l).length) c63), (Z0p a62 ((((([] : List UInt8) ++ Zs ([114, 101, 113, 117, 101, 115, 116])) ++ Zl s.cl) ++ Zl s.seq) ++ s.h.l) c63)]) (R := [Z7 w (fun _ => False), Z3 b2 54 (Z0G s), ZX (.slice (some ⟨b20, 0, none⟩) 7 7) ([114, 101, 113, 117, 101, 115, 116])]) H57 [2, 3] [0, 1, 4] (by decide) (by kernel_rfl) rfl T61).pk [2, 3, 0, 1, 4]
  refine ⟨_, rfl, ?_⟩
  have S67 := H66.pk [0, 1, 4]
  refine kq _ _ S67 ?_
  clear kq Kq
  refine Z0H 6 fun Kq kq => ?_
  have l74 := Z0g s.len
  refine zdc 22 (Z0z w60 r10 a62 c63 ((((([] : List UInt8) ++ Zs ([114, 101, 113, 117, 101, 115, 116])) ++ Zl s.cl) ++ Zl s.seq) ++ s.h.l) (H66.fn [2, 3]) (by simp only [List.length_append, List.length_nil]; omega) s.len (by omega)) ?_
  rintro _ w69 ⟨a71, c72, rfl, T70⟩
  have H75 := H66.tl [Z3 r10 187 (Z0o a71 ((((((([] : List UInt8) ++ Zs ([114, 101, 113, 117, 101, 115, 116])) ++ Zl s.cl) ++ Zl s.seq) ++ s.h.l) ++ Zl s.len).length) c72), (Z0p a71 (((((([] : List UInt8) ++ Zs ([114, 101, 113, 117, 101, 115, 116])) ++ Zl s.cl) ++ Zl s.seq) ++ s.h.l) ++ Zl s.len) c72)] [2, 3] [0, 1, 4] T70 [2, 3, 0, 1, 4]
  refine ⟨_, rfl, ?_⟩
  have S76 := H75.pk [0, 1, 4]
  refine kq _ _ S76 ?_
  clear kq Kq
  refine Z0H 7 fun Kq kq => ?_
  refine zdc 23 (Z1i w69 r10 a71 c72 (((((([] : List UInt8) ++ Zs ([114, 101, 113, 117, 101, 115, 116])) ++ Zl s.cl) ++ Zl s.seq) ++ s.h.l) ++ Zl s.len) (H75.fn [2, 3]) (by simp only [List.length_append, List.length_nil]; omega)) ?_
  rintro _ w78 ⟨u79, rfl, T80⟩
  have H81 : Sat w [Z7 w (fun _ => False), Z3 b2 54 (Z0G s), Z3 r10 187 (Z0o a71 ((((((([] : List UInt8) ++ Zs ([114, 101, 113, 117, 101, 115, 116])) ++ Zl s.cl) ++ Zl s.seq) ++ s.h.l) ++ Zl s.len).length) c72), (Z0p a71 (((((([] : List UInt8) ++ Zs ([114, 101, 113, 117, 101, 115, 116])) ++ Zl s.cl) ++ Zl s.seq) ++ s.h.l) ++ Zl s.len) c72), ZX (.slice (some ⟨b20, 0, none⟩) 7 7) ([114, 101, 113, 117, 101, 115, 116]), Zc 5 1 u79 ((((((([] : List UInt8) ++ Zs ([114, 101, 113, 117, 101, 115, 116])) ++ Zl s.cl) ++ Zl s.seq) ++ s.h.l) ++ Zl s.len).length) ((((((([] : List UInt8) ++ Zs ([114, 101, 113, 117, 101, 115, 116])) ++ Zl s.cl) ++ Zl s.seq) ++ s.h.l) ++ Zl s.len).flatMap ZH)] w78 := (Sat.turnL (L' := [Z3 r10 187 (Z0o a71 ((((((([] : List UInt8) ++ Zs ([114, 101, 113, 117, 101, 115, 116])) ++ Zl s.cl) ++ Zl s.seq) ++ s.h.l) ++ Zl s.len).length) c72), (Z0p a71 (((((([] : List UInt8) ++ Zs ([114, 101, 113, 117, 101, 115, 116])) ++ Zl s.cl) ++ Zl s.seq) ++ s.h.l) ++ Zl s.len) c72), Zc 5 1 u79 ((((((([] : List UInt8) ++ Zs ([114, 101, 113, 117, 101, 115, 116])) ++ Zl s.cl) ++ Zl s.seq) ++ s.h.l) ++ Zl s.len).length) ((((((([] : List UInt8) ++ Zs ([114, 101, 113, 117, 101, 115, 116])) ++ Zl s.cl) ++ Zl s.seq) ++ s.h.l) ++ Zl s.len).flatMap ZH)]) (R := [Z7 w (fun _ => False), Z3 b2 54 (Z0G s), ZX (.slice (some ⟨b20, 0, none⟩) 7 7) ([114, 101, 113, 117, 101, 115, 116])]) H75 [2, 3] [0, 1, 4] (by decide) (by kernel_rfl) rfl T80).pk [3, 4, 0, 1, 5, 2]
  obtain ⟨a82, c83, rfl⟩ := Ze (H81.at 5 rfl)
  refine ⟨_, rfl, ?_⟩
  have S84 := H81.pk [0, 1, 4]
  refine kq _ _ S84 ?_
  clear kq Kq
  refine hv0 8 S84 2 (.slice a82 (((((([] : List UInt8) ++ Zs ([114, 101, 113, 117, 101, 115, 116])) ++ Zl s.cl) ++ Zl s.seq) ++ s.h.l) ++ Zl s.len).length c83) ?_
  refine zhf ?_
  apply ztn
  apply Zz
  refine ze1 (.slice a82 (((((([] : List UInt8) ++ Zs ([114, 101, 113, 117, 101, 115, 116])) ++ Zl s.cl) ++ Zl s.seq) ++ s.h.l) ++ Zl s.len).length c83) ?_
  have hX : (((((([] : List UInt8) ++ Zs ([114, 101, 113, 117, 101, 115, 116])) ++ Zl s.cl) ++ Zl s.seq) ++ s.h.l) ++ Zl s.len) = Z1 s := by simp only [Z1V, Z1, Z7c, List.flatten_cons, List.flatten_nil, List.append_nil, List.append_assoc, List.nil_append]
  exact ⟨_, rfl, (by rw [← hX]; exact H81.at 5 rfl), H81.upd 0 rfl [] (fun _ h => h.elim), (by rw [← hX]; exact H81.fresh 0 rfl (fun _ h => h) 5 rfl rfl)⟩
 refine Z3U 5 1 1 (.int .u8 (0)) [(0, (.int .u8 (114))), (1, (.int .u8 (101))), (2, (.int .u8 (113))), (3, (.int .u8 (117))), (4, (.int .u8 (101))), (5, (.int .u8 (115))), (6, (.int .u8 (116)))] (Z5d) H6 ?_
 intro b85 w86 (H87 : Sat w [Z7 w (fun _ => False), Z3 b2 54 (Z0G s), Zc 5 1 (.slice (some ⟨b85, 0, none⟩) 7 7) 7 (Z5d)] w86)
 have H88 : Sat w [Z7 w (fun _ => False), Z3 b2 54 (Z0G s), Zc 5 1 (.slice (some ⟨b85, 0, none⟩) 7 7) 7 ([114, 101, 113, 117, 101, 115, 116].flatMap ZH)] w86 := H87.cast (by rw [show ((Z5d) : List Value) = [114, 101, 113, 117, 101, 115, 116].flatMap ZH from rfl])
 have S89 := H88.pk [0, 1]
 refine kq _ _ S89 ?_
 clear kq Kq
 refine Z3W 0 2 rfl rfl (by kernel_rfl) (Z5 rfl) (Z5 rfl) (fun Kq kq => ?_) (fun Kq kq => ?_)
 ·refine zdc 4 (Z2b w86) ?_
  rintro _ w91 ⟨r92, a93, c94, rfl, k95, p96, q97⟩
  have H98 := H88.addU p96 k95 q97
  have H99 : Sat w [Z7 w (fun _ => False), Z3 b2 54 (Z0G s), Zc 5 1 (.slice (some ⟨b85, 0, none⟩) 7 7) 7 ([114, 101, 113, 117, 101, 115, 116].flatMap ZH), Z3 r92 187 (Z0o a93 (([] : List UInt8).length) c94), (Z0p a93 (([] : List UInt8)) c94)] w91 := H98.open 3 rfl
  refine ⟨_, rfl, ?_⟩
  have S100 := H99.pk [0, 1]
  refine kq _ _ S100 ?_
  clear kq Kq
  refine Z0H 2 fun Kq kq => ?_
  refine Z1n (e := 5) (s := [114, 101, 113, 117, 101, 115, 116]) rfl H99 2 rfl (by kernel_rfl) (by kernel_rfl) rfl ?_
  intro w102 H103
  have S104 := H103.pk [0, 1]
  refine kq _ _ S104 ?_
  clear kq Kq
  refine Z0H 3 fun Kq kq => ?_
  have l111 := (show (Zs [114, 101, 113, 117, 101, 115, 116]).length ≤ 17 from Z10 _)
  refine zdc 7 (Z19 w102 r92 a93 c94 ([] : List UInt8) (H103.fn [3, 4]) (by simp) (some ⟨b85, 0, none⟩) 7 ([114, 101, 113, 117, 101, 115, 116]) (ListAt.ofTxt (H103.at 2 rfl)) (Z2W (fun b hb => H103.offP [3, 4] 2 rfl rfl (by decide) hb)) (by first | omega | simp)) ?_
  rintro _ w106 ⟨a108, c109, rfl, T107⟩
  have H112 : Sat w [Z7 w (fun _ => False), Z3 b2 54 (Z0G s), ZX (.slice (some ⟨b85, 0, none⟩) 7 7) ([114, 101, 113, 117, 101, 115, 116]), Z3 r92 187 (Z0o a108 ((([] : List UInt8) ++ Zs ([114, 101, 113, 117, 101, 115, 116])).length) c109), (Z0p a108 (([] : List UInt8) ++ Zs ([114, 101, 113, 117, 101, 115, 116])) c109)] w106 := (Sat.turnL (L' := [Z3 r92 187 (Z0o a108 ((([] : List UInt8) ++ Zs ([114, 101, 113, 117, 101, 115, 116])).length) c109), (Z0p a108 (([] : List UInt8) ++ Zs ([114, 101, 113, 117, 101, 115, 116])) c109)]) (R := [Z7 w (fun _ => False), Z3 b2 54 (Z0G s), ZX (.slice (some ⟨b85, 0, none⟩) 7 7) ([114, 101, 113, 117, 101, 115, 116])]) H103 [3, 4] [0, 1, 2] (by decide) (by kernel_rfl) rfl T107).pk [2, 3, 4, 0, 1]
  refine ⟨_, rfl, ?_⟩
  have S113 := H112.pk [0, 1]
  refine kq _ _ S113 ?_
  clear kq Kq
  refine Z0H 7 fun Kq kq => ?_
  have l120 := Z0g s.cl
  refine zdc 11 (Z0z w106 r92 a108 c109 (([] : List UInt8) ++ Zs ([114, 101, 113, 117, 101, 115, 116])) (H112.fn [3, 4]) (by simp only [List.length_append, List.length_nil]; omega) s.cl (by omega)) ?_
  rintro _ w115 ⟨a117, c118, rfl, T116⟩
  have H121 := H112.tl [Z3 r92 187 (Z0o a117 (((([] : List UInt8) ++ Zs ([114, 101, 113, 117, 101, 115, 116])) ++ Zl s.cl).length) c118), (Z0p a117 ((([] : List UInt8) ++ Zs ([114, 101, 113, 117, 101, 115, 116])) ++ Zl s.cl) c118)] [3, 4] [0, 1, 2] T116 [2, 3, 4, 0, 1]
  refine ⟨_, rfl, ?_⟩
  have S122 := H121.pk [0, 1]
  refine kq _ _ S122 ?_
  clear kq Kq
  refine Z0H 11 fun Kq kq => ?_
  have l129 := Z0g s.seq
  refine zdc 15 (Z0z w115 r92 a117 c118 ((([] : List UInt8) ++ Zs ([114, 101, 113, 117, 101, 115, 116])) ++ Zl s.cl) (H121.fn [3, 4]) (by simp only [List.length_append, List.length_nil]; omega) s.seq (by omega)) ?_
  rintro _ w124 ⟨a126, c127, rfl, T125⟩
  have H130 : Sat w [Z7 w (fun _ => False), Z3 b2 54 (Z0G s), ZX (.slice (some ⟨b85, 0, none⟩) 7 7) ([114, 101, 113, 117, 101, 115, 116]), Z3 r92 187 (Z0o a126 ((((([] : List UInt8) ++ Zs ([114, 101, 113, 117, 101, 115, 116])) ++ Zl s.cl) ++ Zl s.seq).length) c127), (Z0p a126 (((([] : List UInt8) ++ Zs ([114, 101, 113, 117, 101, 115, 116])) ++ Zl s.cl) ++ Zl s.seq) c127)] w124 := (Sat.turnL (L' := [Z3 r92 187 (Z0o a126 ((((([] : List UInt8) ++ Zs ([114, 101, 113, 117, 101, 115, 116])) ++ Zl s.cl) ++ Zl s.seq).length) c127), (Z0p a126 (((([] : List UInt8) ++ Zs ([114, 101, 113, 117, 101, 115, 116])) ++ Zl s.cl) ++ Zl s.seq) c127)]) (R := [Z7 w (fun _ => False), Z3 b2 54 (Z0G s), ZX (.slice (some ⟨b85, 0, none⟩) 7 7) ([114, 101, 113, 117, 101, 115, 116])]) H121 [3, 4] [0, 1, 2] (by decide) (by kernel_rfl) rfl T125).pk [2, 3, 4, 0, 1]
  refine ⟨_, rfl, ?_⟩
  have S131 := H130.pk [0, 1]
  refine kq _ _ S131 ?_
  clear kq Kq
  refine hv0 12 S131 3 (pt r92 0) ?_
  refine zhf ?_
  apply ztn
  apply Zf
  refine Z0b H130 [Z7 w (fun _ => False), Z3 b2 54 (Z0G s), ZX (.slice (some ⟨b85, 0, none⟩) 7 7) ([114, 101, 113, 117, 101, 115, 116])] 9 rfl (by kernel_rfl) (fun Hx => (Hx.pk [0, 1, 2])) ?_
  intro w132 H133 S134
  refine hv0 0 S134 16 (pt r92 0) ?_
  refine hv0 1 S134 17 (pt b2 2) ?_
  refine hv0 2 S134 18 (.agg ⟨(hc s.h)⟩) ?_ (he := fun _ H' => (ZG (vs := (hc s.h)) rfl (by kernel_rfl) (by kernel_rfl) (by exact Nat.le_of_ble_eq_true (by kernel_rfl)) (H'.at 1 rfl) (by kernel_rfl)))
  refine hv0 4 S134 20 (pt b2 34) ?_
  refine hv0 5 S134 21 (.int .i64 (s.len)) ?_ (he := fun _ H' => (Zi rfl (by kernel_rfl) (H'.cell 1 rfl (by kernel_rfl))))
  refine Z0H 3 fun Kq kq => ?_
  have l141 := s.h.len
  refine zdc 19 (Z1u w132 r92 a126 c127 (((([] : List UInt8) ++ Zs ([114, 101, 113, 117, 101, 115, 116])) ++ Zl s.cl) ++ Zl s.seq) (H133.fn [3, 4]) (by simp only [List.length_append, List.length_nil]; omega) s.h) ?_
  rintro _ w136 ⟨a138, c139, rfl, T137⟩
  have H142 := H133.tl [Z3 r92 187 (Z0o a138 (((((([] : List UInt8) ++ Zs ([114, 101, 113, 117, 101, 115, 116])) ++ Zl s.cl) ++ Zl s.seq) ++ s.h.l).length) c139), (Z0p a138 ((((([] : List UInt8) ++ Zs ([114, 101, 113, 117, 101, 115, 116])) ++ Zl s.cl) ++ Zl s.seq) ++ s.h.l) c139)] [3, 4] [0, 1, 2] T137 [2, 3, 4, 0, 1]
  refine ⟨_, rfl, ?_⟩
  have S143 := H142.pk [0, 1, 2]
  refine kq _ _ S143 ?_
  clear kq Kq
  refine Z0H 6 fun Kq kq => ?_
  have l150 := Z0g s.len
  refine zdc 22 (Z0z w136 r92 a138 c139 ((((([] : List UInt8) ++ Zs ([114, 101, 113, 117, 101, 115, 116])) ++ Zl s.cl) ++ Zl s.seq) ++ s.h.l) (H142.fn [3, 4]) (by simp only [List.length_append, List.length_nil]; omega) s.len (by omega)) ?_
  rintro _ w145 ⟨a147, c148, rfl, T146⟩
  have H151 : Sat w [Z7 w (fun _ => False), Z3 b2 54 (Z0G s), ZX (.slice (some ⟨b85, 0, none⟩) 7 7) ([114, 101, 113, 117, 101, 115, 116]), Z3 r92 187 (Z0o a147 ((((((([] : List UInt8) ++ Zs ([114, 101, 113, 117, 101, 115, 116])) ++ Zl s.cl) ++ Zl s.seq) ++ s.h.l) ++ Zl s.len).length) c148), (Z0p a147 (((((([] : List UInt8) ++ Zs ([114, 101, 113, 117, 101, 115, 116])) ++ Zl s.cl) ++ Zl s.seq) ++ s.h.l) ++ Zl s.len) c148)] w145 := (Sat.turnL (L' := [Z3 r92 187 (Z0o a147 ((((((([] : List UInt8) ++ Zs ([114, 101, 113, 117, 101, 115, 116])) ++ Zl s.cl) ++ Zl s.seq) ++ s.h.l) ++ Zl s.len).length) c148), (Z0p a147 (((((([] : List UInt8) ++ Zs ([114, 101, 113, 117, 101, 115, 116])) ++ Zl s.cl) ++ Zl s.seq) ++ s.h.l) ++ Zl s.len) c148)]) (R := [Z7 w (fun _ => False), Z3 b2 54 (Z0G s), ZX (.slice (some ⟨b85, 0, none⟩) 7 7) ([114, 101, 113, 117, 101, 115, 116])]) H142 [3, 4] [0, 1, 2] (by decide) (by kernel_rfl) rfl T146).pk [2, 3, 4, 0, 1]
  refine ⟨_, rfl, ?_⟩
  have S152 := H151.pk [0, 1, 2]
  refine kq _ _ S152 ?_
  clear kq Kq
  refine Z0H 7 fun Kq kq => ?_
  refine zdc 23 (Z1i w145 r92 a147 c148 (((((([] : List UInt8) ++ Zs ([114, 101, 113, 117, 101, 115, 116])) ++ Zl s.cl) ++ Zl s.seq) ++ s.h.l) ++ Zl s.len) (H151.fn [3, 4]) (by simp only [List.length_append, List.length_nil]; omega)) ?_
  rintro _ w154 ⟨u155, rfl, T156⟩
  have H157 := H151.tl [Z3 r92 187 (Z0o a147 ((((((([] : List UInt8) ++ Zs ([114, 101, 113, 117, 101, 115, 116])) ++ Zl s.cl) ++ Zl s.seq) ++ s.h.l) ++ Zl s.len).length) c148), (Z0p a147 (((((([] : List UInt8) ++ Zs ([114, 101, 113, 117, 101, 115, 116])) ++ Zl s.cl) ++ Zl s.seq) ++ s.h.l) ++ Zl s.len) c148), Zc 5 1 u155 ((((((([] : List UInt8) ++ Zs ([114, 101, 113, 117, 101, 115, 116])) ++ Zl s.cl) ++ Zl s.seq) ++ s.h.l) ++ Zl s.len).length) ((((((([] : List UInt8) ++ Zs ([114, 101, 113, 117, 101, 115, 116])) ++ Zl s.cl) ++ Zl s.seq) ++ s.h.l) ++ Zl s.len).flatMap ZH)] [3, 4] [0, 1, 2] T156 [3, 4, 5, 0, 1, 2]
  obtain ⟨a158, c159, rfl⟩ := Ze (H157.at 5 rfl)
  refine ⟨_, rfl, ?_⟩
  have S160 := H157.pk [0, 1, 2]
  refine kq _ _ S160 ?_
  clear kq Kq
  refine hv0 8 S160 2 (.slice a158 (((((([] : List UInt8) ++ Zs ([114, 101, 113, 117, 101, 115, 116])) ++ Zl s.cl) ++ Zl s.seq) ++ s.h.l) ++ Zl s.len).length c159) ?_
  refine zhf ?_
  apply ztn
  apply Zz
  refine ze1 (.slice a158 (((((([] : List UInt8) ++ Zs ([114, 101, 113, 117, 101, 115, 116])) ++ Zl s.cl) ++ Zl s.seq) ++ s.h.l) ++ Zl s.len).length c159) ?_
  have hX : (((((([] : List UInt8) ++ Zs ([114, 101, 113, 117, 101, 115, 116])) ++ Zl s.cl) ++ Zl s.seq) ++ s.h.l) ++ Zl s.len) = Z1 s := by simp only [Z1V, Z1, Z7c, List.flatten_cons, List.flatten_nil, List.append_nil, List.append_assoc, List.nil_append]
  exact ⟨_, rfl, (by rw [← hX]; exact H157.at 5 rfl), H157.upd 0 rfl [] (fun _ h => h.elim), (by rw [← hX]; exact H157.fresh 0 rfl (fun _ h => h) 5 rfl rfl)⟩
 refine Z1n (e := 5) (s := [114, 101, 113, 117, 101, 115, 116]) rfl H88 2 rfl (by kernel_rfl) (by kernel_rfl) rfl ?_
 intro w161 (H162 : Sat w [Z7 w (fun _ => False), Z3 b2 54 (Z0G s), ZX (.slice (some ⟨b85, 0, none⟩) 7 7) ([114, 101, 113, 117, 101, 115, 116])] w161)
 have S163 := H162.pk [0, 1]
 refine kq _ _ S163 ?_
 clear kq Kq
 refine Z0H 0 fun Kq kq => ?_
 refine zdc 4 (Z2b w161) ?_
 rintro _ w165 ⟨r166, a167, c168, rfl, k169, p170, q171⟩
 have H172 := H162.addU p170 k169 q171
 have H173 : Sat w [Z7 w (fun _ => False), Z3 b2 54 (Z0G s), ZX (.slice (some ⟨b85, 0, none⟩) 7 7) ([114, 101, 113, 117, 101, 115, 116]), Z3 r166 187 (Z0o a167 (([] : List UInt8).length) c168), (Z0p a167 (([] : List UInt8)) c168)] w165 := H172.open 3 rfl
 refine ⟨_, rfl, ?_⟩
 have S174 := H173.pk [0, 1]
 refine kq _ _ S174 ?_
 clear kq Kq
 refine Z0H 3 fun Kq kq => ?_
 have l181 := (show (Zs [114, 101, 113, 117, 101, 115, 116]).length ≤ 17 from Z10 _)
 refine zdc 7 (Z19 w165 r166 a167 c168 ([] : List UInt8) (H173.fn [3, 4]) (by simp) (some ⟨b85, 0, none⟩) 7 ([114, 101, 113, 117, 101, 115, 116]) (ListAt.ofTxt (H173.at 2 rfl)) (Z2W (fun b hb => H173.offP [3, 4] 2 rfl rfl (by decide) hb)) (by first | omega | simp)) ?_
 rintro _ w176 ⟨a178, c179, rfl, T177⟩
 have H182 := H173.tl [Z3 r166 187 (Z0o a178 ((([] : List UInt8) ++ Zs ([114, 101, 113, 117, 101, 115, 116])).length) c179), (Z0p a178 (([] : List UInt8) ++ Zs ([114, 101, 113, 117, 101, 115, 116])) c179)] [3, 4] [0, 1, 2] T177 [2, 3, 4, 0, 1]
 refine ⟨_, rfl, ?_⟩
 have S183 := H182.pk [0, 1]
 refine kq _ _ S183 ?_
 clear kq Kq
 refine Z0H 7 fun Kq kq => ?_
 have l190 := Z0g s.cl
 refine zdc 11 (Z0z w176 r166 a178 c179 (([] : List UInt8) ++ Zs ([114, 101, 113, 117, 101, 115, 116])) (H182.fn [3, 4]) (by simp only [List.length_append, List.length_nil]; omega) s.cl (by omega)) ?_
 rintro _ w185 ⟨a187, c188, rfl, T186⟩
 have H191 : Sat w [Z7 w (fun _ => False), Z3 b2 54 (Z0G s), ZX (.slice (some ⟨b85, 0, none⟩) 7 7) ([114, 101, 113, 117, 101, 115, 116]), Z3 r166 187 (Z0o a187 (((([] : List UInt8) ++ Zs ([114, 101, 113, 117, 101, 115, 116])) ++ Zl s.cl).length) c188), (Z0p a187 ((([] : List UInt8) ++ Zs ([114, 101, 113, 117, 101, 115, 116])) ++ Zl s.cl) c188)] w185 := (Sat.turnL (L' := [Z3 r166 187 (Z0o a187 (((([] : List UInt8) ++ Zs ([114, 101, 113, 117, 101, 115, 116])) ++ Zl s.cl).length) c188), (Z0p a187 ((([] : List UInt8) ++ Zs ([114, 101, 113, 117, 101, 115, 116])) ++ Zl s.cl) c188)]) (R := [Z7 w (fun _ => False), Z3 b2 54 (Z0G s), ZX (.slice (some ⟨b85, 0, none⟩) 7 7) ([114, 101, 113, 117, 101, 115, 116])]) H182 [3, 4] [0, 1, 2] (by decide) (by kernel_rfl) rfl T186).pk [2, 3, 4, 0, 1]
 refine ⟨_, rfl, ?_⟩
 have S192 := H191.pk [0, 1]
 refine kq _ _ S192 ?_
 clear kq Kq
 refine Z0H 11 fun Kq kq => ?_
 have l199 := Z0g s.seq
 refine zdc 15 (Z0z w185 r166 a187 c188 ((([] : List UInt8) ++ Zs ([114, 101, 113, 117, 101, 115, 116])) ++ Zl s.cl) (H191.fn [3, 4]) (by simp only [List.length_append, List.length_nil]; omega) s.seq (by omega)) ?_
 rintro _ w194 ⟨a196, c197, rfl, T195⟩
 have H200 := H191.tl [Z3 r166 187 (Z0o a196 ((((([] : List UInt8) ++ Zs ([114, 101, 113, 117, 101, 115, 116])) ++ Zl s.cl) ++ Zl s.seq).length) c197), (Z0p a196 (((([] : List UInt8) ++ Zs ([114, 101, 113, 117, 101, 115, 116])) ++ Zl s.cl) ++ Zl s.seq) c197)] [3, 4] [0, 1, 2] T195 [2, 3, 4, 0, 1]
 refine ⟨_, rfl, ?_⟩
 have S201 := H200.pk [0, 1]
 refine kq _ _ S201 ?_
 clear kq Kq
 refine hv0 12 S201 3 (pt r166 0) ?_
 refine zhf ?_
 apply ztn
 apply Zf
 refine Z0b H200 [Z7 w (fun _ => False), Z3 b2 54 (Z0G s), ZX (.slice (some ⟨b85, 0, none⟩) 7 7) ([114, 101, 113, 117, 101, 115, 116])] 9 rfl (by kernel_rfl) (fun Hx => (Hx.pk [0, 1, 2])) ?_
 intro w202 H203 S204
 refine hv0 0 S204 16 (pt r166 0) ?_
 refine hv0 1 S204 17 (pt b2 2) ?_
 refine hv0 2 S204 18 (.agg ⟨(hc s.h)⟩) ?_ (he := fun _ H' => (ZG (vs := (hc s.h)) rfl (by kernel_rfl) (by kernel_rfl) (by exact Nat.le_of_ble_eq_true (by kernel_rfl)) (H'.at 1 rfl) (by kernel_rfl)))
 refine hv0 4 S204 20 (pt b2 34) ?_
 refine hv0 5 S204 21 (.int .i64 (s.len)) ?_ (he := fun _ H' => (Zi rfl (by kernel_rfl) (H'.cell 1 rfl (by kernel_rfl))))
 refine Z0H 3 fun Kq kq => ?_
 have l211 := s.h.len
 refine zdc 19 (Z1u w202 r166 a196 c197 (((([] : List UInt8) ++ Zs ([114, 101, 113, 117, 101, 115, 116])) ++ Zl s.cl) ++ Zl s.seq) (H203.fn [3, 4]) (by simp only [List.length_append, List.length_nil]; omega) s.h) ?_
 rintro _ w206 ⟨a208, c209, rfl, T207⟩
 have H212 : Sat w [Z7 w (fun _ => False), Z3 b2 54 (Z0G s), ZX (.slice (some ⟨b85, 0, none⟩) 7 7) ([114, 101, 113, 117, 101, 115, 116]), Z3 r166 187 (Z0o a208 (((((([] : List UInt8) ++ Zs ([114, 101, 113, 117, 101, 115, 116])) ++ Zl s.cl) ++ Zl s.seq) ++ s.h.l).length) c209), (Z0p a208 ((((([] : List UInt8) ++ Zs ([114, 101, 113, 117, 101, 115, 116])) ++ Zl s.cl) ++ Zl s.seq) ++ s.h.l) c209)] w206 := (Sat.turnL (L' := [Z3 r166 187 (Z0o a208 (((((([] : List UInt8) ++ Zs ([114, 101, 113, 117, 101, 115, 116])) ++ Zl s.cl) ++ Zl s.seq) ++ s.h.l).length) c209), (Z0p a208 ((((([] : List UInt8) ++ Zs ([114, 101, 113, 117, 101, 115, 116])) ++ Zl s.cl) ++ Zl s.seq) ++ s.h.l) c209)]) (R := [Z7 w (fun _ => False), Z3 b2 54 (Z0G s), ZX (.slice (some ⟨b85, 0, none⟩) 7 7) ([114, 101, 113, 117, 101, 115, 116])]) H203 [3, 4] [0, 1, 2] (by decide) (by kernel_rfl) rfl T207).pk [2, 3, 4, 0, 1]
 refine ⟨_, rfl, ?_⟩
 have S213 := H212.pk [0, 1, 2]
 refine kq _ _ S213 ?_
 clear kq Kq
 refine Z0H 6 fun Kq kq => ?_
 have l220 := Z0g s.len
 refine zdc 22 (Z0z w206 r166 a208 c209 ((((([] : List UInt8) ++ Zs ([114, 101, 113, 117, 101, 115, 116])) ++ Zl s.cl) ++ Zl s.seq) ++ s.h.l) (H212.fn [3, 4]) (by simp only [List.length_append, List.length_nil]; omega) s.len (by omega)) ?_
 rintro _ w215 ⟨a217, c218, rfl, T216⟩
 have H221 := H212.tl [Z3 r166 187 (Z0o a217 ((((((([] : List UInt8) ++ Zs ([114, 101, 113, 117, 101, 115, 116])) ++ Zl s.cl) ++ Zl s.seq) ++ s.h.l) ++ Zl s.len).length) c218), (Z0p a217 (((((([] : List UInt8) ++ Zs ([114, 101, 113, 117, 101, 115, 116])) ++ Zl s.cl) ++ Zl s.seq) ++ s.h.l) ++ Zl s.len) c218)] [3, 4] [0, 1, 2] T216 [2, 3, 4, 0, 1]
 refine ⟨_, rfl, ?_⟩
 have S222 := H221.pk [0, 1, 2]
 refine kq _ _ S222 ?_
 clear kq Kq
 refine Z0H 7 fun Kq kq => ?_
 refine zdc 23 (Z1i w215 r166 a217 c218 (((((([] : List UInt8) ++ Zs ([114, 101, 113, 117, 101, 115, 116])) ++ Zl s.cl) ++ Zl s.seq) ++ s.h.l) ++ Zl s.len) (H221.fn [3, 4]) (by simp only [List.length_append, List.length_nil]; omega)) ?_
 rintro _ w224 ⟨u225, rfl, T226⟩
 have H227 : Sat w [Z7 w (fun _ => False), Z3 b2 54 (Z0G s), ZX (.slice (some ⟨b85, 0, none⟩) 7 7) ([114, 101, 113, 117, 101, 115, 116]), Z3 r166 187 (Z0o a217 ((((((([] : List UInt8) ++ Zs ([114, 101, 113, 117, 101, 115, 116])) ++ Zl s.cl) ++ Zl s.seq) ++ s.h.l) ++ Zl s.len).length) c218), (Z0p a217 (((((([] : List UInt8) ++ Zs ([114, 101, 113, 117, 101, 115, 116])) ++ Zl s.cl) ++ Zl s.seq) ++ s.h.l) ++ Zl s.len) c218), Zc 5 1 u225 ((((((([] : List UInt8) ++ Zs ([114, 101, 113, 117, 101, 115, 116])) ++ Zl s.cl) ++ Zl s.seq) ++ s.h.l) ++ Zl s.len).length) ((((((([] : List UInt8) ++ Zs ([114, 101, 113, 117, 101, 115, 116])) ++ Zl s.cl) ++ Zl s.seq) ++ s.h.l) ++ Zl s.len).flatMap ZH)] w224 := (Sat.turnL (L' := [Z3 r166 187 (Z0o a217 ((((((([] : List UInt8) ++ Zs ([114, 101, 113, 117, 101, 115, 116])) ++ Zl s.cl) ++ Zl s.seq) ++ s.h.l) ++ Zl s.len).length) c218), (Z0p a217 (((((([] : List UInt8) ++ Zs ([114, 101, 113, 117, 101, 115, 116])) ++ Zl s.cl) ++ Zl s.seq) ++ s.h.l) ++ Zl s.len) c218), Zc 5 1 u225 ((((((([] : List UInt8) ++ Zs ([114, 101, 113, 117, 101, 115, 116])) ++ Zl s.cl) ++ Zl s.seq) ++ s.h.l) ++ Zl s.len).length) ((((((([] : List UInt8) ++ Zs ([114, 101, 113, 117, 101, 115, 116])) ++ Zl s.cl) ++ Zl s.seq) ++ s.h.l) ++ Zl s.len).flatMap ZH)]) (R := [Z7 w (fun _ => False), Z3 b2 54 (Z0G s), ZX (.slice (some ⟨b85, 0, none⟩) 7 7) ([114, 101, 113, 117, 101, 115, 116])]) H221 [3, 4] [0, 1, 2] (by decide) (by kernel_rfl) rfl T226).pk [3, 4, 5, 0, 1, 2]
 obtain ⟨a228, c229, rfl⟩ := Ze (H227.at 5 rfl)
 refine ⟨_, rfl, ?_⟩
 have S230 := H227.pk [0, 1, 2]
 refine kq _ _ S230 ?_
 clear kq Kq
 refine hv0 8 S230 2 (.slice a228 (((((([] : List UInt8) ++ Zs ([114, 101, 113, 117, 101, 115, 116])) ++ Zl s.cl) ++ Zl s.seq) ++ s.h.l) ++ Zl s.len).length c229) ?_
 refine zhf ?_
 apply ztn
 apply Zz
 refine ze1 (.slice a228 (((((([] : List UInt8) ++ Zs ([114, 101, 113, 117, 101, 115, 116])) ++ Zl s.cl) ++ Zl s.seq) ++ s.h.l) ++ Zl s.len).length c229) ?_
 have hX : (((((([] : List UInt8) ++ Zs ([114, 101, 113, 117, 101, 115, 116])) ++ Zl s.cl) ++ Zl s.seq) ++ s.h.l) ++ Zl s.len) = Z1 s := by simp only [Z1V, Z1, Z7c, List.flatten_cons, List.flatten_nil, List.append_nil, List.append_assoc, List.nil_append]
 exact ⟨_, rfl, (by rw [← hX]; exact H227.at 5 rfl), H227.upd 0 rfl [] (fun _ h => h.elim), (by rw [← hX]; exact H227.fresh 0 rfl (fun _ h => h) 5 rfl rfl)⟩
end Go.Proofs.YtgigjkjdmalmaaaGreat
