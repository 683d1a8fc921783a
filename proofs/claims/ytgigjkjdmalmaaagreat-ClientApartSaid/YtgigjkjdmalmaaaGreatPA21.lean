/- WHAT IS PROVED: contracts and plain laws of Wt2, CloneBt. Conditions: stated with each. -/
import Derived.Shelf.SlicesE.Clone
import Derived.Test.YtgigjkjdmalmaaaGreatPA05
import Derived.Test.YtgigjkjdmalmaaaGreatPA06
import Derived.Test.YtgigjkjdmalmaaaGreatPA07
set_option maxHeartbeats 4000000
set_option maxRecDepth 100000
namespace Go.Proofs.YtgigjkjdmalmaaaGreat
open Go.RowKit
abbrev Z0k (p0 : Option Addr) (p1 : Nat) (p2 : Nat) : List Value := ([(.slice p0 p1 p2)] : List Value)
abbrev Z0l (p0 : Option Addr) (p1 : List UInt8) (p2 : Nat) : Ck := Zd 5 1 (.slice p0 p1.length p2) p1.length (p1.flatMap Zi)
abbrev Z0m (p0 : Z0) : List Value := ([(.int .i64 p0.cl), (.int .i64 p0.seq)] : List Value) ++ hc p0.h ++ ([(.int .i64 p0.len), (.int .i64 p0.sb), (.int .i64 p0.sm)] : List Value)
abbrev Z2T : List Value := ([(.int .u8 (114)), (.int .u8 (101)), (.int .u8 (113)), (.int .u8 (117)), (.int .u8 (101)), (.int .u8 (115)), (.int .u8 (116))] : List Value)
theorem Z1v (w : World) (s : Z0) (hs : (s.cl ≤ 9223372036854775807 ∧ s.seq ≤ 9223372036854775807 ∧ s.len ≤ 9223372036854775807)) :
  Calls Tryz.prog 49 #[(.agg ⟨(([(.int .i64 (s.cl)), (.int .i64 (s.seq))] : List Value) ++ hc s.h ++ ([(.int .i64 (s.len)), (.int .i64 (s.sb)), (.int .i64 (s.sm))] : List Value))⟩)] w fun e w' => ∃ u, e = .returned u ∧ (Zd 5 1 u (Z2 s).length ((Z2 s).flatMap Zi)).ok w' ∧ Upd [] w w' ∧ ∀ q_, (Zd 5 1 u (Z2 s).length ((Z2 s).flatMap Zi)).fp q_ → w.heap.size ≤ q_ := by
 have H := Sat.start0 w
 refine Zx Tryz.func49 rfl 24 rfl (Nat.le_of_ble_eq_true rfl) ?_
 apply zsl
 refine zwd fun Kq kq => ?_
 refine zdb (Z0m s) H ?_
 intro b2 w3 H4
 refine kq _ _ ?_
 clear kq Kq
 refine wv 2 (.slice none 0 0) ?_
 apply znt
 apply Zg
 refine Z0g H4 [Zb w (fun _ => False), Z5 b2 54 (Z0m s)] 13 rfl (by kernel_rfl) (fun Hx => (Hx.pk [0, 1])) ?_
 intro w5 H6 S7
 refine hv0 4 S7 8 (pt b2 0) ?_
 refine hv0 5 S7 9 (pt b2 0) ?_
 refine hv0 6 S7 10 (.int .i64 (s.cl)) ?_ (he := fun _ H' => (Zj rfl (by kernel_rfl) (H'.cell 1 rfl (by kernel_rfl))))
 refine hv0 8 S7 12 (pt b2 0) ?_
 refine hv0 9 S7 13 (pt b2 1) ?_
 refine hv0 10 S7 14 (.int .i64 (s.seq)) ?_ (he := fun _ H' => (Zj rfl (by kernel_rfl) (H'.cell 1 rfl (by kernel_rfl))))
 refine Z2B 0 1 rfl rfl (by kernel_rfl) (Z1 rfl) (Z1 rfl) (fun Kq kq => ?_) (fun Kq kq => ?_)
 ·refine zdc 4 (Z1E w5) ?_
  rintro _ w9 ⟨r10, a11, c12, rfl, k13, p14, q15⟩
  have H16 : Sat w [Zb w (fun _ => False), Z5 b2 54 (Z0m s), ZF (wrL r10 a11 c12 ([] : List UInt8))] w9 := H6.addU p14 k13 q15
  have H17 := H16.open 2 rfl
  refine ⟨_, rfl, ?_⟩
  have S18 := H17.pk [0, 1]
  refine kq _ _ S18 ?_
  clear kq Kq
  refine Z0G 1 fun Kq kq => ?_
  refine Z5A 5 1 1 (.int .u8 (0)) [(0, (.int .u8 (114))), (1, (.int .u8 (101))), (2, (.int .u8 (113))), (3, (.int .u8 (117))), (4, (.int .u8 (101))), (5, (.int .u8 (115))), (6, (.int .u8 (116)))] (Z2T) H17 ?_
  intro b20 w21 (H22 : Sat w [Zb w (fun _ => False), Z5 b2 54 (Z0m s), Z5 r10 187 (Z0k a11 (([] : List UInt8).length) c12), (Z0l a11 (([] : List UInt8)) c12), Zd 5 1 (.slice (some ⟨b20, 0, none⟩) 7 7) 7 (Z2T)] w21)
  have H23 := H22.ct 4 rfl (Zd 5 1 (.slice (some ⟨b20, 0, none⟩) 7 7) 7 ([114, 101, 113, 117, 101, 115, 116].flatMap Zi)) (by rw [show ((Z2T) : List Value) = [114, 101, 113, 117, 101, 115, 116].flatMap Zi from rfl])
  have S24 := H23.pk [0, 1]
  refine kq _ _ S24 ?_
  clear kq Kq
  refine Z0G 2 fun Kq kq => ?_
  refine Z0F (e := 5) (s := [114, 101, 113, 117, 101, 115, 116]) rfl H23 4 rfl (by kernel_rfl) (by kernel_rfl) rfl ?_
  intro w26 (H27 : Sat w [Zb w (fun _ => False), Z5 b2 54 (Z0m s), Z5 r10 187 (Z0k a11 (([] : List UInt8).length) c12), (Z0l a11 (([] : List UInt8)) c12), ZH (.slice (some ⟨b20, 0, none⟩) 7 7) ([114, 101, 113, 117, 101, 115, 116])] w26)
  have S28 := H27.pk [0, 1]
  refine kq _ _ S28 ?_
  clear kq Kq
  refine Z0G 3 fun Kq kq => ?_
  have l35 := (show (Zw [114, 101, 113, 117, 101, 115, 116]).length ≤ 17 from Z0C _)
  refine zdc 7 (Z0O w26 r10 a11 c12 ([] : List UInt8) (H27.fn [2, 3]) (by simp) (some ⟨b20, 0, none⟩) 7 ([114, 101, 113, 117, 101, 115, 116]) (ListAt.ofTxt (H27.at 4 rfl)) (Z2a (fun b hb => H27.offP [2, 3] 4 rfl rfl (by decide) hb)) (by first | omega | simp)) ?_
  rintro _ w30 ⟨a32, c33, rfl, T31⟩
  have H36 := H27.tl [Z5 r10 187 (Z0k a32 ((([] : List UInt8) ++ Zw ([114, 101, 113, 117, 101, 115, 116])).length) c33), (Z0l a32 (([] : List UInt8) ++ Zw ([114, 101, 113, 117, 101, 115, 116])) c33)] [2, 3] [0, 1, 4] T31 [2, 3, 0, 1, 4]
  refine ⟨_, rfl, ?_⟩
  have S37 := H36.pk [0, 1]
  refine kq _ _ S37 ?_
  clear kq Kq
  refine Z0G 7 fun Kq kq => ?_
  have l44 := Z08 s.cl
  refine zdc 11 (Z0q w30 r10 a32 c33 (([] : List UInt8) ++ Zw ([114, 101, 113, 117, 101, 115, 116])) (H36.fn [2, 3]) (by simp only [List.length_append, List.length_nil]; omega) s.cl (by omega)) ?_
  rintro _ w39 ⟨a41, c42, rfl, T40⟩
  have H45 : Sat w [Zb w (fun _ => False), Z5 b2 54 (Z0m s), Z5 r10 187 (Z0k a41 (((([] : List UInt8) ++ Zw ([114, 101, 113, 117, 101, 115, 116])) ++ Zp s.cl).length) c42), (Z0l a41 ((([] : List UInt8) ++ Zw ([114, 101, 113, 117, 101, 115, 116])) ++ Zp s.cl) c42), ZH (.slice (some ⟨b20, 0, none⟩) 7 7) ([114, 101, 113, 117, 101, 115, 116])] w39 := (Sat.turnL (L' := [Z5 r10 187 (Z0k a41 (((([] : List UInt8) ++ Zw ([114, 101, 113, 117, 101, 115, 116])) ++ Zp s.cl).length) c42), (Z0l a41 ((([] : List UInt8) ++ Zw ([114, 101, 113, 117, 101, 115, 116])) ++ Zp s.cl) c42)]) (R := [Zb w (fun _ => False), Z5 b2 54 (Z0m s), ZH (.slice (some ⟨b20, 0, none⟩) 7 7) ([114, 101, 113, 117, 101, 115, 116])]) H36 [2, 3] [0, 1, 4] (by decide) (by kernel_rfl) rfl T40).pk [2, 3, 0, 1, 4]
  refine ⟨_, rfl, ?_⟩
  have S46 := H45.pk [0, 1]
  refine kq _ _ S46 ?_
  clear kq Kq
  refine Z0G 11 fun Kq kq => ?_
  have l53 := Z08 s.seq
  refine zdc 15 (Z0q w39 r10 a41 c42 ((([] : List UInt8) ++ Zw ([114, 101, 113, 117, 101, 115, 116])) ++ Zp s.cl) (H45.fn [2, 3]) (by simp only [List.length_append, List.length_nil]; omega) s.seq (by omega)) ?_
  rintro _ w48 ⟨a50, c51, rfl, T49⟩
  have H54 := H45.tl [Z5 r10 187 (Z0k a50 ((((([] : List UInt8) ++ Zw ([114, 101, 113, 117, 101, 115, 116])) ++ Zp s.cl) ++ Zp s.seq).length) c51), (Z0l a50 (((([] : List UInt8) ++ Zw ([114, 101, 113, 117, 101, 115, 116])) ++ Zp s.cl) ++ Zp s.seq) c51)] [2, 3] [0, 1, 4] T49 [2, 3, 0, 1, 4]
  refine ⟨_, rfl, ?_⟩
  have S55 := H54.pk [0, 1]
  refine kq _ _ S55 ?_
  clear kq Kq
  refine hv0 12 S55 3 (pt r10 0) ?_
  refine zhf ?_
  apply ztn
  apply Zg
  refine Z0g H54 [Zb w (fun _ => False), Z5 b2 54 (Z0m s), ZH (.slice (some ⟨b20, 0, none⟩) 7 7) ([114, 101, 113, 117, 101, 115, 116])] 9 rfl (by kernel_rfl) (fun Hx => (Hx.pk [0, 1, 4])) ?_
  intro w56 H57 S58
  refine hv0 0 S58 16 (pt r10 0) ?_
  refine hv0 1 S58 17 (pt b2 2) ?_
  refine hv0 2 S58 18 (.agg ⟨(hc s.h)⟩) ?_ (he := fun _ H' => (ZJ (vs := (hc s.h)) rfl (by kernel_rfl) (by kernel_rfl) (by exact Nat.le_of_ble_eq_true (by kernel_rfl)) (H'.at 1 rfl) (by kernel_rfl)))
  refine hv0 4 S58 20 (pt b2 34) ?_
  refine hv0 5 S58 21 (.int .i64 (s.len)) ?_ (he := fun _ H' => (Zj rfl (by kernel_rfl) (H'.cell 1 rfl (by kernel_rfl))))
  refine Z0G 3 fun Kq kq => ?_
  have l65 := s.h.len
  refine zdc 19 (Z1j w56 r10 a50 c51 (((([] : List UInt8) ++ Zw ([114, 101, 113, 117, 101, 115, 116])) ++ Zp s.cl) ++ Zp s.seq) (H57.fn [2, 3]) (by simp only [List.length_append, List.length_nil]; omega) s.h) ?_
  rintro _ w60 ⟨a62, c63, rfl, T61⟩
  have H66 : Sat w [Zb w (fun _ => False), Z5 b2 54 (Z0m s), Z5 r10 187 (Z0k a62 (((((([] : List UInt8) ++ Zw ([114, 101, 113, 117, 101, 115, 116])) ++ Zp s.cl) ++ Zp s.seq) ++ s.h.l).length) c63), (Z0l a62 ((((([] : List UInt8) ++ Zw ([114, 101, 113, 117, 101, 115, 116])) ++ Zp s.cl) ++ Zp s.seq) ++ s.h.l) c63), ZH (.slice (some ⟨b20, 0, none⟩) 7 7) ([114, 101, 113, 117, 101, 115, 116])] w60 := (Sat.turnL (L' := [Z5 r10 187 (Z0k a62 (((((([] : List UInt8) ++ Zw ([114, 101, 113, 117, 101, 115, 116])) ++ Zp s.cl) ++ Zp s.seq) ++ s.h.l).length) c63), (Z0l a62 ((((([] : List UInt8) ++ Zw ([114, 101, 113, 117, 101, 115, 116])) ++ Zp s.cl) ++ Zp s.seq) ++ s.h.l) c63)]) (R := [Zb w (fun _ => False), Z5 b2 54 (Z0m s), ZH (.slice (some ⟨b20, 0, none⟩) 7 7) ([114, 101, 113, 117, 101, 115, 116])]) H57 [2, 3] [0, 1, 4] (by decide) (by kernel_rfl) rfl T61).pk [2, 3, 0, 1, 4]
  refine ⟨_, rfl, ?_⟩
  have S67 := H66.pk [0, 1, 4]
  refine kq _ _ S67 ?_
  clear kq Kq
  refine Z0G 6 fun Kq kq => ?_
  have l74 := Z08 s.len
  refine zdc 22 (Z0q w60 r10 a62 c63 ((((([] : List UInt8) ++ Zw ([114, 101, 113, 117, 101, 115, 116])) ++ Zp s.cl) ++ Zp s.seq) ++ s.h.l) (H66.fn [2, 3]) (by simp only [List.length_append, List.length_nil]; omega) s.len (by omega)) ?_
  rintro _ w69 ⟨a71, c72, rfl, T70⟩
  have H75 := H66.tl [Z5 r10 187 (Z0k a71 ((((((([] : List UInt8) ++ Zw ([114, 101, 113, 117, 101, 115, 116])) ++ Zp s.cl) ++ Zp s.seq) ++ s.h.l) ++ Zp s.len).length) c72), (Z0l a71 (((((([] : List UInt8) ++ Zw ([114, 101, 113, 117, 101, 115, 116])) ++ Zp s.cl) ++ Zp s.seq) ++ s.h.l) ++ Zp s.len) c72)] [2, 3] [0, 1, 4] T70 [2, 3, 0, 1, 4]
  refine ⟨_, rfl, ?_⟩
  have S76 := H75.pk [0, 1, 4]
  refine kq _ _ S76 ?_
  clear kq Kq
  refine Z0G 7 fun Kq kq => ?_
  refine zdc 23 (Z14 w69 r10 a71 c72 (((((([] : List UInt8) ++ Zw ([114, 101, 113, 117, 101, 115, 116])) ++ Zp s.cl) ++ Zp s.seq) ++ s.h.l) ++ Zp s.len) (H75.fn [2, 3]) (by simp only [List.length_append, List.length_nil]; omega)) ?_
  rintro _ w78 ⟨u79, rfl, T80⟩
  have H81 : Sat w [Zb w (fun _ => False), Z5 b2 54 (Z0m s), Z5 r10 187 (Z0k a71 ((((((([] : List UInt8) ++ Zw ([114, 101, 113, 117, 101, 115, 116])) ++ Zp s.cl) ++ Zp s.seq) ++ s.h.l) ++ Zp s.len).length) c72), (Z0l a71 (((((([] : List UInt8) ++ Zw ([114, 101, 113, 117, 101, 115, 116])) ++ Zp s.cl) ++ Zp s.seq) ++ s.h.l) ++ Zp s.len) c72), ZH (.slice (some ⟨b20, 0, none⟩) 7 7) ([114, 101, 113, 117, 101, 115, 116]), Zd 5 1 u79 ((((((([] : List UInt8) ++ Zw ([114, 101, 113, 117, 101, 115, 116])) ++ Zp s.cl) ++ Zp s.seq) ++ s.h.l) ++ Zp s.len).length) ((((((([] : List UInt8) ++ Zw ([114, 101, 113, 117, 101, 115, 116])) ++ Zp s.cl) ++ Zp s.seq) ++ s.h.l) ++ Zp s.len).flatMap Zi)] w78 := (Sat.turnL (L' := [Z5 r10 187 (Z0k a71 ((((((([] : List UInt8) ++ Zw ([114, 101, 113, 117, 101, 115, 116])) ++ Zp s.cl) ++ Zp s.seq) ++ s.h.l) ++ Zp s.len).length) c72), (Z0l a71 (((((([] : List UInt8) ++ Zw ([114, 101, 113, 117, 101, 115, 116])) ++ Zp s.cl) ++ Zp s.seq) ++ s.h.l) ++ Zp s.len) c72), Zd 5 1 u79 ((((((([] : List UInt8) ++ Zw ([114, 101, 113, 117, 101, 115, 116])) ++ Zp s.cl) ++ Zp s.seq) ++ s.h.l) ++ Zp s.len).length) ((((((([] : List UInt8) ++ Zw ([114, 101, 113, 117, 101, 115, 116])) ++ Zp s.cl) ++ Zp s.seq) ++ s.h.l) ++ Zp s.len).flatMap Zi)]) (R := [Zb w (fun _ => False), Z5 b2 54 (Z0m s), ZH (.slice (some ⟨b20, 0, none⟩) 7 7) ([114, 101, 113, 117, 101, 115, 116])]) H75 [2, 3] [0, 1, 4] (by decide) (by kernel_rfl) rfl T80).pk [3, 4, 0, 1, 5, 2]
  obtain ⟨a82, c83, rfl⟩ := Zo (H81.at 5 rfl)
  refine ⟨_, rfl, ?_⟩
  have S84 := H81.pk [0, 1, 4]
  refine kq _ _ S84 ?_
  clear kq Kq
  refine hv0 8 S84 2 (.slice a82 (((((([] : List UInt8) ++ Zw ([114, 101, 113, 117, 101, 115, 116])) ++ Zp s.cl) ++ Zp s.seq) ++ s.h.l) ++ Zp s.len).length c83) ?_
  refine zhf ?_
  apply ztn
  apply ZW
  refine ze1 (.slice a82 (((((([] : List UInt8) ++ Zw ([114, 101, 113, 117, 101, 115, 116])) ++ Zp s.cl) ++ Zp s.seq) ++ s.h.l) ++ Zp s.len).length c83) ?_
  have hX : (((((([] : List UInt8) ++ Zw ([114, 101, 113, 117, 101, 115, 116])) ++ Zp s.cl) ++ Zp s.seq) ++ s.h.l) ++ Zp s.len) = Z2 s := by simp only [Z5u, Z2, Z5F, List.flatten_cons, List.flatten_nil, List.append_nil, List.append_assoc, List.nil_append]
  exact ⟨_, rfl, (by rw [← hX]; exact H81.at 5 rfl), H81.upd 0 rfl [] (fun _ h => h.elim), (by rw [← hX]; exact H81.fresh 0 rfl (fun _ h => h) 5 rfl rfl)⟩
 refine Z5A 5 1 1 (.int .u8 (0)) [(0, (.int .u8 (114))), (1, (.int .u8 (101))), (2, (.int .u8 (113))), (3, (.int .u8 (117))), (4, (.int .u8 (101))), (5, (.int .u8 (115))), (6, (.int .u8 (116)))] (Z2T) H6 ?_
 intro b85 w86 (H87 : Sat w [Zb w (fun _ => False), Z5 b2 54 (Z0m s), Zd 5 1 (.slice (some ⟨b85, 0, none⟩) 7 7) 7 (Z2T)] w86)
 have H88 : Sat w [Zb w (fun _ => False), Z5 b2 54 (Z0m s), Zd 5 1 (.slice (some ⟨b85, 0, none⟩) 7 7) 7 ([114, 101, 113, 117, 101, 115, 116].flatMap Zi)] w86 := H87.cast (by rw [show ((Z2T) : List Value) = [114, 101, 113, 117, 101, 115, 116].flatMap Zi from rfl])
 have S89 := H88.pk [0, 1]
 refine kq _ _ S89 ?_
 clear kq Kq
 refine Z2B 0 2 rfl rfl (by kernel_rfl) (Z1 rfl) (Z1 rfl) (fun Kq kq => ?_) (fun Kq kq => ?_)
 ·refine zdc 4 (Z1E w86) ?_
  rintro _ w91 ⟨r92, a93, c94, rfl, k95, p96, q97⟩
  have H98 := H88.addU p96 k95 q97
  have H99 : Sat w [Zb w (fun _ => False), Z5 b2 54 (Z0m s), Zd 5 1 (.slice (some ⟨b85, 0, none⟩) 7 7) 7 ([114, 101, 113, 117, 101, 115, 116].flatMap Zi), Z5 r92 187 (Z0k a93 (([] : List UInt8).length) c94), (Z0l a93 (([] : List UInt8)) c94)] w91 := H98.open 3 rfl
  refine ⟨_, rfl, ?_⟩
  have S100 := H99.pk [0, 1]
  refine kq _ _ S100 ?_
  clear kq Kq
  refine Z0G 2 fun Kq kq => ?_
  refine Z0F (e := 5) (s := [114, 101, 113, 117, 101, 115, 116]) rfl H99 2 rfl (by kernel_rfl) (by kernel_rfl) rfl ?_
  intro w102 H103
  have S104 := H103.pk [0, 1]
  refine kq _ _ S104 ?_
  clear kq Kq
  refine Z0G 3 fun Kq kq => ?_
  have l111 := (show (Zw [114, 101, 113, 117, 101, 115, 116]).length ≤ 17 from Z0C _)
  refine zdc 7 (Z0O w102 r92 a93 c94 ([] : List UInt8) (H103.fn [3, 4]) (by simp) (some ⟨b85, 0, none⟩) 7 ([114, 101, 113, 117, 101, 115, 116]) (ListAt.ofTxt (H103.at 2 rfl)) (Z2a (fun b hb => H103.offP [3, 4] 2 rfl rfl (by decide) hb)) (by first | omega | simp)) ?_
  rintro _ w106 ⟨a108, c109, rfl, T107⟩
  have H112 : Sat w [Zb w (fun _ => False), Z5 b2 54 (Z0m s), ZH (.slice (some ⟨b85, 0, none⟩) 7 7) ([114, 101, 113, 117, 101, 115, 116]), Z5 r92 187 (Z0k a108 ((([] : List UInt8) ++ Zw ([114, 101, 113, 117, 101, 115, 116])).length) c109), (Z0l a108 (([] : List UInt8) ++ Zw ([114, 101, 113, 117, 101, 115, 116])) c109)] w106 := (Sat.turnL (L' := [Z5 r92 187 (Z0k a108 ((([] : List UInt8) ++ Zw ([114, 101, 113, 117, 101, 115, 116])).length) c109), (Z0l a108 (([] : List UInt8) ++ Zw ([114, 101, 113, 117, 101, 115, 116])) c109)]) (R := [Zb w (fun _ => False), Z5 b2 54 (Z0m s), ZH (.slice (some ⟨b85, 0, none⟩) 7 7) ([114, 101, 113, 117, 101, 115, 116])]) H103 [3, 4] [0, 1, 2] (by decide) (by kernel_rfl) rfl T107).pk [2, 3, 4, 0, 1]
  refine ⟨_, rfl, ?_⟩
  have S113 := H112.pk [0, 1]
  refine kq _ _ S113 ?_
  clear kq Kq
  refine Z0G 7 fun Kq kq => ?_
  have l120 := Z08 s.cl
  refine zdc 11 (Z0q w106 r92 a108 c109 (([] : List UInt8) ++ Zw ([114, 101, 113, 117, 101, 115, 116])) (H112.fn [3, 4]) (by simp only [List.length_append, List.length_nil]; omega) s.cl (by omega)) ?_
  rintro _ w115 ⟨a117, c118, rfl, T116⟩
  have H121 := H112.tl [Z5 r92 187 (Z0k a117 (((([] : List UInt8) ++ Zw ([114, 101, 113, 117, 101, 115, 116])) ++ Zp s.cl).length) c118), (Z0l a117 ((([] : List UInt8) ++ Zw ([114, 101, 113, 117, 101, 115, 116])) ++ Zp s.cl) c118)] [3, 4] [0, 1, 2] T116 [2, 3, 4, 0, 1]
  refine ⟨_, rfl, ?_⟩
  have S122 := H121.pk [0, 1]
  refine kq _ _ S122 ?_
  clear kq Kq
  refine Z0G 11 fun Kq kq => ?_
  have l129 := Z08 s.seq
  refine zdc 15 (Z0q w115 r92 a117 c118 ((([] : List UInt8) ++ Zw ([114, 101, 113, 117, 101, 115, 116])) ++ Zp s.cl) (H121.fn [3, 4]) (by simp only [List.length_append, List.length_nil]; omega) s.seq (by omega)) ?_
  rintro _ w124 ⟨a126, c127, rfl, T125⟩
  have H130 : Sat w [Zb w (fun _ => False), Z5 b2 54 (Z0m s), ZH (.slice (some ⟨b85, 0, none⟩) 7 7) ([114, 101, 113, 117, 101, 115, 116]), Z5 r92 187 (Z0k a126 ((((([] : List UInt8) ++ Zw ([114, 101, 113, 117, 101, 115, 116])) ++ Zp s.cl) ++ Zp s.seq).length) c127), (Z0l a126 (((([] : List UInt8) ++ Zw ([114, 101, 113, 117, 101, 115, 116])) ++ Zp s.cl) ++ Zp s.seq) c127)] w124 := (Sat.turnL (L' := [Z5 r92 187 (Z0k a126 ((((([] : List UInt8) ++ Zw ([114, 101, 113, 117, 101, 115, 116])) ++ Zp s.cl) ++ Zp s.seq).length) c127), (Z0l a126 (((([] : List UInt8) ++ Zw ([114, 101, 113, 117, 101, 115, 116])) ++ Zp s.cl) ++ Zp s.seq) c127)]) (R := [Zb w (fun _ => False), Z5 b2 54 (Z0m s), ZH (.slice (some ⟨b85, 0, none⟩) 7 7) ([114, 101, 113, 117, 101, 115, 116])]) H121 [3, 4] [0, 1, 2] (by decide) (by kernel_rfl) rfl T125).pk [2, 3, 4, 0, 1]
  refine ⟨_, rfl, ?_⟩
  have S131 := H130.pk [0, 1]
  refine kq _ _ S131 ?_
  clear kq Kq
  refine hv0 12 S131 3 (pt r92 0) ?_
  refine zhf ?_
  apply ztn
  apply Zg
  refine Z0g H130 [Zb w (fun _ => False), Z5 b2 54 (Z0m s), ZH (.slice (some ⟨b85, 0, none⟩) 7 7) ([114, 101, 113, 117, 101, 115, 116])] 9 rfl (by kernel_rfl) (fun Hx => (Hx.pk [0, 1, 2])) ?_
  intro w132 H133 S134
  refine hv0 0 S134 16 (pt r92 0) ?_
  refine hv0 1 S134 17 (pt b2 2) ?_
  refine hv0 2 S134 18 (.agg ⟨(hc s.h)⟩) ?_ (he := fun _ H' => (ZJ (vs := (hc s.h)) rfl (by kernel_rfl) (by kernel_rfl) (by exact Nat.le_of_ble_eq_true (by kernel_rfl)) (H'.at 1 rfl) (by kernel_rfl)))
  refine hv0 4 S134 20 (pt b2 34) ?_
  refine hv0 5 S134 21 (.int .i64 (s.len)) ?_ (he := fun _ H' => (Zj rfl (by kernel_rfl) (H'.cell 1 rfl (by kernel_rfl))))
  refine Z0G 3 fun Kq kq => ?_
  have l141 := s.h.len
  refine zdc 19 (Z1j w132 r92 a126 c127 (((([] : List UInt8) ++ Zw ([114, 101, 113, 117, 101, 115, 116])) ++ Zp s.cl) ++ Zp s.seq) (H133.fn [3, 4]) (by simp only [List.length_append, List.length_nil]; omega) s.h) ?_
  rintro _ w136 ⟨a138, c139, rfl, T137⟩
  have H142 := H133.tl [Z5 r92 187 (Z0k a138 (((((([] : List UInt8) ++ Zw ([114, 101, 113, 117, 101, 115, 116])) ++ Zp s.cl) ++ Zp s.seq) ++ s.h.l).length) c139), (Z0l a138 ((((([] : List UInt8) ++ Zw ([114, 101, 113, 117, 101, 115, 116])) ++ Zp s.cl) ++ Zp s.seq) ++ s.h.l) c139)] [3, 4] [0, 1, 2] T137 [2, 3, 4, 0, 1]
  refine ⟨_, rfl, ?_⟩
  have S143 := H142.pk [0, 1, 2]
  refine kq _ _ S143 ?_
  clear kq Kq
  refine Z0G 6 fun Kq kq => ?_
  have l150 := Z08 s.len
  refine zdc 22 (Z0q w136 r92 a138 c139 ((((([] : List UInt8) ++ Zw ([114, 101, 113, 117, 101, 115, 116])) ++ Zp s.cl) ++ Zp s.seq) ++ s.h.l) (H142.fn [3, 4]) (by simp only [List.length_append, List.length_nil]; omega) s.len (by omega)) ?_
  rintro _ w145 ⟨a147, c148, rfl, T146⟩
  have H151 : Sat w [Zb w (fun _ => False), Z5 b2 54 (Z0m s), ZH (.slice (some ⟨b85, 0, none⟩) 7 7) ([114, 101, 113, 117, 101, 115, 116]), Z5 r92 187 (Z0k a147 ((((((([] : List UInt8) ++ Zw ([114, 101, 113, 117, 101, 115, 116])) ++ Zp s.cl) ++ Zp s.seq) ++ s.h.l) ++ Zp s.len).length) c148), (Z0l a147 (((((([] : List UInt8) ++ Zw ([114, 101, 113, 117, 101, 115, 116])) ++ Zp s.cl) ++ Zp s.seq) ++ s.h.l) ++ Zp s.len) c148)] w145 := (Sat.turnL (L' := [Z5 r92 187 (Z0k a147 ((((((([] : List UInt8) ++ Zw ([114, 101, 113, 117, 101, 115, 116])) ++ Zp s.cl) ++ Zp s.seq) ++ s.h.l) ++ Zp s.len).length) c148), (Z0l a147 (((((([] : List UInt8) ++ Zw ([114, 101, 113, 117, 101, 115, 116])) ++ Zp s.cl) ++ Zp s.seq) ++ s.h.l) ++ Zp s.len) c148)]) (R := [Zb w (fun _ => False), Z5 b2 54 (Z0m s), ZH (.slice (some ⟨b85, 0, none⟩) 7 7) ([114, 101, 113, 117, 101, 115, 116])]) H142 [3, 4] [0, 1, 2] (by decide) (by kernel_rfl) rfl T146).pk [2, 3, 4, 0, 1]
  refine ⟨_, rfl, ?_⟩
  have S152 := H151.pk [0, 1, 2]
  refine kq _ _ S152 ?_
  clear kq Kq
  refine Z0G 7 fun Kq kq => ?_
  refine zdc 23 (Z14 w145 r92 a147 c148 (((((([] : List UInt8) ++ Zw ([114, 101, 113, 117, 101, 115, 116])) ++ Zp s.cl) ++ Zp s.seq) ++ s.h.l) ++ Zp s.len) (H151.fn [3, 4]) (by simp only [List.length_append, List.length_nil]; omega)) ?_
  rintro _ w154 ⟨u155, rfl, T156⟩
  have H157 := H151.tl [Z5 r92 187 (Z0k a147 ((((((([] : List UInt8) ++ Zw ([114, 101, 113, 117, 101, 115, 116])) ++ Zp s.cl) ++ Zp s.seq) ++ s.h.l) ++ Zp s.len).length) c148), (Z0l a147 (((((([] : List UInt8) ++ Zw ([114, 101, 113, 117, 101, 115, 116])) ++ Zp s.cl) ++ Zp s.seq) ++ s.h.l) ++ Zp s.len) c148), Zd 5 1 u155 ((((((([] : List UInt8) ++ Zw ([114, 101, 113, 117, 101, 115, 116])) ++ Zp s.cl) ++ Zp s.seq) ++ s.h.l) ++ Zp s.len).length) ((((((([] : List UInt8) ++ Zw ([114, 101, 113, 117, 101, 115, 116])) ++ Zp s.cl) ++ Zp s.seq) ++ s.h.l) ++ Zp s.len).flatMap Zi)] [3, 4] [0, 1, 2] T156 [3, 4, 5, 0, 1, 2]
  obtain ⟨a158, c159, rfl⟩ := Zo (H157.at 5 rfl)
  refine ⟨_, rfl, ?_⟩
  have S160 := H157.pk [0, 1, 2]
  refine kq _ _ S160 ?_
  clear kq Kq
  refine hv0 8 S160 2 (.slice a158 (((((([] : List UInt8) ++ Zw ([114, 101, 113, 117, 101, 115, 116])) ++ Zp s.cl) ++ Zp s.seq) ++ s.h.l) ++ Zp s.len).length c159) ?_
  refine zhf ?_
  apply ztn
  apply ZW
  refine ze1 (.slice a158 (((((([] : List UInt8) ++ Zw ([114, 101, 113, 117, 101, 115, 116])) ++ Zp s.cl) ++ Zp s.seq) ++ s.h.l) ++ Zp s.len).length c159) ?_
  have hX : (((((([] : List UInt8) ++ Zw ([114, 101, 113, 117, 101, 115, 116])) ++ Zp s.cl) ++ Zp s.seq) ++ s.h.l) ++ Zp s.len) = Z2 s := by simp only [Z5u, Z2, Z5F, List.flatten_cons, List.flatten_nil, List.append_nil, List.append_assoc, List.nil_append]
  exact ⟨_, rfl, (by rw [← hX]; exact H157.at 5 rfl), H157.upd 0 rfl [] (fun _ h => h.elim), (by rw [← hX]; exact H157.fresh 0 rfl (fun _ h => h) 5 rfl rfl)⟩
 refine Z0F (e := 5) (s := [114, 101, 113, 117, 101, 115, 116]) rfl H88 2 rfl (by kernel_rfl) (by kernel_rfl) rfl ?_
 intro w161 (H162 : Sat w [Zb w (fun _ => False), Z5 b2 54 (Z0m s), ZH (.slice (some ⟨b85, 0, none⟩) 7 7) ([114, 101, 113, 117, 101, 115, 116])] w161)
 have S163 := H162.pk [0, 1]
 refine kq _ _ S163 ?_
 clear kq Kq
 refine Z0G 0 fun Kq kq => ?_
 refine zdc 4 (Z1E w161) ?_
 rintro _ w165 ⟨r166, a167, c168, rfl, k169, p170, q171⟩
 have H172 := H162.addU p170 k169 q171
 have H173 : Sat w [Zb w (fun _ => False), Z5 b2 54 (Z0m s), ZH (.slice (some ⟨b85, 0, none⟩) 7 7) ([114, 101, 113, 117, 101, 115, 116]), Z5 r166 187 (Z0k a167 (([] : List UInt8).length) c168), (Z0l a167 (([] : List UInt8)) c168)] w165 := H172.open 3 rfl
 refine ⟨_, rfl, ?_⟩
 have S174 := H173.pk [0, 1]
 refine kq _ _ S174 ?_
 clear kq Kq
 refine Z0G 3 fun Kq kq => ?_
 have l181 := (show (Zw [114, 101, 113, 117, 101, 115, 116]).length ≤ 17 from Z0C _)
 refine zdc 7 (Z0O w165 r166 a167 c168 ([] : List UInt8) (H173.fn [3, 4]) (by simp) (some ⟨b85, 0, none⟩) 7 ([114, 101, 113, 117, 101, 115, 116]) (ListAt.ofTxt (H173.at 2 rfl)) (Z2a (fun b hb => H173.offP [3, 4] 2 rfl rfl (by decide) hb)) (by first | omega | simp)) ?_
 rintro _ w176 ⟨a178, c179, rfl, T177⟩
 have H182 := H173.tl [Z5 r166 187 (Z0k a178 ((([] : List UInt8) ++ Zw ([114, 101, 113, 117, 101, 115, 116])).length) c179), (Z0l a178 (([] : List UInt8) ++ Zw ([114, 101, 113, 117, 101, 115, 116])) c179)] [3, 4] [0, 1, 2] T177 [2, 3, 4, 0, 1]
 refine ⟨_, rfl, ?_⟩
 have S183 := H182.pk [0, 1]
 refine kq _ _ S183 ?_
 clear kq Kq
 refine Z0G 7 fun Kq kq => ?_
 have l190 := Z08 s.cl
 refine zdc 11 (Z0q w176 r166 a178 c179 (([] : List UInt8) ++ Zw ([114, 101, 113, 117, 101, 115, 116])) (H182.fn [3, 4]) (by simp only [List.length_append, List.length_nil]; omega) s.cl (by omega)) ?_
 rintro _ w185 ⟨a187, c188, rfl, T186⟩
 have H191 : Sat w [Zb w (fun _ => False), Z5 b2 54 (Z0m s), ZH (.slice (some ⟨b85, 0, none⟩) 7 7) ([114, 101, 113, 117, 101, 115, 116]), Z5 r166 187 (Z0k a187 (((([] : List UInt8) ++ Zw ([114, 101, 113, 117, 101, 115, 116])) ++ Zp s.cl).length) c188), (Z0l a187 ((([] : List UInt8) ++ Zw ([114, 101, 113, 117, 101, 115, 116])) ++ Zp s.cl) c188)] w185 := (Sat.turnL (L' := [Z5 r166 187 (Z0k a187 (((([] : List UInt8) ++ Zw ([114, 101, 113, 117, 101, 115, 116])) ++ Zp s.cl).length) c188), (Z0l a187 ((([] : List UInt8) ++ Zw ([114, 101, 113, 117, 101, 115, 116])) ++ Zp s.cl) c188)]) (R := [Zb w (fun _ => False), Z5 b2 54 (Z0m s), ZH (.slice (some ⟨b85, 0, none⟩) 7 7) ([114, 101, 113, 117, 101, 115, 116])]) H182 [3, 4] [0, 1, 2] (by decide) (by kernel_rfl) rfl T186).pk [2, 3, 4, 0, 1]
 refine ⟨_, rfl, ?_⟩
 have S192 := H191.pk [0, 1]
 refine kq _ _ S192 ?_
 clear kq Kq
 refine Z0G 11 fun Kq kq => ?_
 have l199 := Z08 s.seq
 refine zdc 15 (Z0q w185 r166 a187 c188 ((([] : List UInt8) ++ Zw ([114, 101, 113, 117, 101, 115, 116])) ++ Zp s.cl) (H191.fn [3, 4]) (by simp only [List.length_append, List.length_nil]; omega) s.seq (by omega)) ?_
 rintro _ w194 ⟨a196, c197, rfl, T195⟩
 have H200 := H191.tl [Z5 r166 187 (Z0k a196 ((((([] : List UInt8) ++ Zw ([114, 101, 113, 117, 101, 115, 116])) ++ Zp s.cl) ++ Zp s.seq).length) c197), (Z0l a196 (((([] : List UInt8) ++ Zw ([114, 101, 113, 117, 101, 115, 116])) ++ Zp s.cl) ++ Zp s.seq) c197)] [3, 4] [0, 1, 2] T195 [2, 3, 4, 0, 1]
 refine ⟨_, rfl, ?_⟩
 have S201 := H200.pk [0, 1]
 refine kq _ _ S201 ?_
 clear kq Kq
 refine hv0 12 S201 3 (pt r166 0) ?_
 refine zhf ?_
 apply ztn
 apply Zg
 refine Z0g H200 [Zb w (fun _ => False), Z5 b2 54 (Z0m s), ZH (.slice (some ⟨b85, 0, none⟩) 7 7) ([114, 101, 113, 117, 101, 115, 116])] 9 rfl (by kernel_rfl) (fun Hx => (Hx.pk [0, 1, 2])) ?_
 intro w202 H203 S204
 refine hv0 0 S204 16 (pt r166 0) ?_
 refine hv0 1 S204 17 (pt b2 2) ?_
 refine hv0 2 S204 18 (.agg ⟨(hc s.h)⟩) ?_ (he := fun _ H' => (ZJ (vs := (hc s.h)) rfl (by kernel_rfl) (by kernel_rfl) (by exact Nat.le_of_ble_eq_true (by kernel_rfl)) (H'.at 1 rfl) (by kernel_rfl)))
 refine hv0 4 S204 20 (pt b2 34) ?_
 refine hv0 5 S204 21 (.int .i64 (s.len)) ?_ (he := fun _ H' => (Zj rfl (by kernel_rfl) (H'.cell 1 rfl (by kernel_rfl))))
 refine Z0G 3 fun Kq kq => ?_
 have l211 := s.h.len
 refine zdc 19 (Z1j w202 r166 a196 c197 (((([] : List UInt8) ++ Zw ([114, 101, 113, 117, 101, 115, 116])) ++ Zp s.cl) ++ Zp s.seq) (H203.fn [3, 4]) (by simp only [List.length_append, List.length_nil]; omega) s.h) ?_
 rintro _ w206 ⟨a208, c209, rfl, T207⟩
 have H212 : Sat w [Zb w (fun _ => False), Z5 b2 54 (Z0m s), ZH (.slice (some ⟨b85, 0, none⟩) 7 7) ([114, 101, 113, 117, 101, 115, 116]), Z5 r166 187 (Z0k a208 (((((([] : List UInt8) ++ Zw ([114, 101, 113, 117, 101, 115, 116])) ++ Zp s.cl) ++ Zp s.seq) ++ s.h.l).length) c209), (Z0l a208 ((((([] : List UInt8) ++ Zw ([114, 101, 113, 117, 101, 115, 116])) ++ Zp s.cl) ++ Zp s.seq) ++ s.h.l) c209)] w206 := (Sat.turnL (L' := [Z5 r166 187 (Z0k a208 (((((([] : List UInt8) ++ Zw ([114, 101, 113, 117, 101, 115, 116])) ++ Zp s.cl) ++ Zp s.seq) ++ s.h.l).length) c209), (Z0l a208 ((((([] : List UInt8) ++ Zw ([114, 101, 113, 117, 101, 115, 116])) ++ Zp s.cl) ++ Zp s.seq) ++ s.h.l) c209)]) (R := [Zb w (fun _ => False), Z5 b2 54 (Z0m s), ZH (.slice (some ⟨b85, 0, none⟩) 7 7) ([114, 101, 113, 117, 101, 115, 116])]) H203 [3, 4] [0, 1, 2] (by decide) (by kernel_rfl) rfl T207).pk [2, 3, 4, 0, 1]
 refine ⟨_, rfl, ?_⟩
 have S213 := H212.pk [0, 1, 2]
 refine kq _ _ S213 ?_
 clear kq Kq
 refine Z0G 6 fun Kq kq => ?_
 have l220 := Z08 s.len
 refine zdc 22 (Z0q w206 r166 a208 c209 ((((([] : List UInt8) ++ Zw ([114, 101, 113, 117, 101, 115, 116])) ++ Zp s.cl) ++ Zp s.seq) ++ s.h.l) (H212.fn [3, 4]) (by simp only [List.length_append, List.length_nil]; omega) s.len (by omega)) ?_
 rintro _ w215 ⟨a217, c218, rfl, T216⟩
 have H221 := H212.tl [Z5 r166 187 (Z0k a217 ((((((([] : List UInt8) ++ Zw ([114, 101, 113, 117, 101, 115, 116])) ++ Zp s.cl) ++ Zp s.seq) ++ s.h.l) ++ Zp s.len).length) c218), (Z0l a217 (((((([] : List UInt8) ++ Zw ([114, 101, 113, 117, 101, 115, 116])) ++ Zp s.cl) ++ Zp s.seq) ++ s.h.l) ++ Zp s.len) c218)] [3, 4] [0, 1, 2] T216 [2, 3, 4, 0, 1]
 refine ⟨_, rfl, ?_⟩
 have S222 := H221.pk [0, 1, 2]
 refine kq _ _ S222 ?_
 clear kq Kq
 refine Z0G 7 fun Kq kq => ?_
 refine zdc 23 (Z14 w215 r166 a217 c218 (((((([] : List UInt8) ++ Zw ([114, 101, 113, 117, 101, 115, 116])) ++ Zp s.cl) ++ Zp s.seq) ++ s.h.l) ++ Zp s.len) (H221.fn [3, 4]) (by simp only [List.length_append, List.length_nil]; omega)) ?_
 rintro _ w224 ⟨u225, rfl, T226⟩
 have H227 : Sat w [Zb w (fun _ => False), Z5 b2 54 (Z0m s), ZH (.slice (some ⟨b85, 0, none⟩) 7 7) ([114, 101, 113, 117, 101, 115, 116]), Z5 r166 187 (Z0k a217 ((((((([] : List UInt8) ++ Zw ([114, 101, 113, 117, 101, 115, 116])) ++ Zp s.cl) ++ Zp s.seq) ++ s.h.l) ++ Zp s.len).length) c218), (Z0l a217 (((((([] : List UInt8) ++ Zw ([114, 101, 113, 117, 101, 115, 116])) ++ Zp s.cl) ++ Zp s.seq) ++ s.h.l) ++ Zp s.len) c218), Zd 5 1 u225 ((((((([] : List UInt8) ++ Zw ([114, 101, 113, 117, 101, 115, 116])) ++ Zp s.cl) ++ Zp s.seq) ++ s.h.l) ++ Zp s.len).length) ((((((([] : List UInt8) ++ Zw ([114, 101, 113, 117, 101, 115, 116])) ++ Zp s.cl) ++ Zp s.seq) ++ s.h.l) ++ Zp s.len).flatMap Zi)] w224 := (Sat.turnL (L' := [Z5 r166 187 (Z0k a217 ((((((([] : List UInt8) ++ Zw ([114, 101, 113, 117, 101, 115, 116])) ++ Zp s.cl) ++ Zp s.seq) ++ s.h.l) ++ Zp s.len).length) c218), (Z0l a217 (((((([] : List UInt8) ++ Zw ([114, 101, 113, 117, 101, 115, 116])) ++ Zp s.cl) ++ Zp s.seq) ++ s.h.l) ++ Zp s.len) c218), Zd 5 1 u225 ((((((([] : List UInt8) ++ Zw ([114, 101, 113, 117, 101, 115, 116])) ++ Zp s.cl) ++ Zp s.seq) ++ s.h.l) ++ Zp s.len).length) ((((((([] : List UInt8) ++ Zw ([114, 101, 113, 117, 101, 115, 116])) ++ Zp s.cl) ++ Zp s.seq) ++ s.h.l) ++ Zp s.len).flatMap Zi)]) (R := [Zb w (fun _ => False), Z5 b2 54 (Z0m s), ZH (.slice (some ⟨b85, 0, none⟩) 7 7) ([114, 101, 113, 117, 101, 115, 116])]) H221 [3, 4] [0, 1, 2] (by decide) (by kernel_rfl) rfl T226).pk [3, 4, 5, 0, 1, 2]
 obtain ⟨a228, c229, rfl⟩ := Zo (H227.at 5 rfl)
 refine ⟨_, rfl, ?_⟩
 have S230 := H227.pk [0, 1, 2]
 refine kq _ _ S230 ?_
 clear kq Kq
 refine hv0 8 S230 2 (.slice a228 (((((([] : List UInt8) ++ Zw ([114, 101, 113, 117, 101, 115, 116])) ++ Zp s.cl) ++ Zp s.seq) ++ s.h.l) ++ Zp s.len).length c229) ?_
 refine zhf ?_
 apply ztn
 apply ZW
 refine ze1 (.slice a228 (((((([] : List UInt8) ++ Zw ([114, 101, 113, 117, 101, 115, 116])) ++ Zp s.cl) ++ Zp s.seq) ++ s.h.l) ++ Zp s.len).length c229) ?_
 have hX : (((((([] : List UInt8) ++ Zw ([114, 101, 113, 117, 101, 115, 116])) ++ Zp s.cl) ++ Zp s.seq) ++ s.h.l) ++ Zp s.len) = Z2 s := by simp only [Z5u, Z2, Z5F, List.flatten_cons, List.flatten_nil, List.append_nil, List.append_assoc, List.nil_append]
 exact ⟨_, rfl, (by rw [← hX]; exact H227.at 5 rfl), H227.upd 0 rfl [] (fun _ h => h.elim), (by rw [← hX]; exact H227.fresh 0 rfl (fun _ h => h) 5 rfl rfl)⟩
def Z3X : Go.Shelf.Ren := ⟨fun | 41 => 29 | n => n, fun | 22 => 38 | 23 => 5 | 4 => 4 | n => n, fun | n => n⟩
theorem Z4S : Go.Proofs.SlLaysE0.n41 Tryz.prog Z3X := {
 mixed := by kernel_rfl,
 f41 := ⟨Tryz.f29.name, by decide, Tryz.func29.trans (congrArg some (by kernel_rfl))⟩,
 t4 := Tryz.underlying4,
 a4 := Tryz.isAgg4,
 z4 := Tryz.sizeOf4,
 v4 := Tryz.zeroValue4,
 t22 := Tryz.underlying38,
 a22 := Tryz.isAgg38,
 z22 := Tryz.sizeOf38,
 v22 := Tryz.zeroValue38 }
end Go.Proofs.YtgigjkjdmalmaaaGreat
