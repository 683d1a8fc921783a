/- WHAT IS PROVED: contracts and plain laws of CloneBt, ClW, ClS. Conditions: stated with each. -/
import Derived.Shelf.SlicesE.Clone
import Derived.Test.YtgigjkjdmalmaaaGreatPY04
import Derived.Test.YtgigjkjdmalmaaaGreatPY05
import Derived.Test.YtgigjkjdmalmaaaGreatPY06
import Derived.Test.YtgigjkjdmalmaaaGreatPY09
import Derived.Test.YtgigjkjdmalmaaaGreatPY17
import Derived.Test.YtgigjkjdmalmaaaGreatPY19
import Derived.Test.YtgigjkjdmalmaaaGreatPY20
set_option maxHeartbeats 4000000
set_option maxRecDepth 100000
namespace Go.Proofs.YtgigjkjdmalmaaaGreat
open Go.RowKit
def Z7j : Go.Shelf.Ren := ⟨fun | 41 => 29 | n => n, fun | 22 => 38 | 23 => 5 | 4 => 4 | n => n, fun | n => n⟩
theorem Z8Z : Go.Proofs.SlLaysE0.n41 Tryz.prog Z7j := {
 mixed := by kernel_rfl,
 f41 := ⟨Tryz.f29.name, by decide, Tryz.func29.trans (congrArg some (by kernel_rfl))⟩,
 t4 := Tryz.underlying4,
 a4 := Tryz.isAgg4,
 z4 := Tryz.sizeOf4,
 v4 := Tryz.zeroValue4,
 t22 := Tryz.underlying38,
 a22 := Tryz.isAgg38,
 z22 := Tryz.sizeOf38,
 v22 := Tryz.zeroValue38 }
theorem Z2A (w : World) (oa : Option Addr) (oc : Nat) (s : List UInt8) (hP : ListAt ZH 1 w (.slice oa s.length oc) s) (hsp : ∀ ad, oa = some ad → ad.spot = none) (hl : s.length ≤ 1000) : Calls Tryz.prog 29 #[.slice oa s.length oc] w fun e w' => ∃ u, e = .returned u ∧ (Zc 5 1 u s.length (s.flatMap ZH)).ok w' ∧ Upd [] w w' ∧ ∀ b, (Zc 5 1 u s.length (s.flatMap ZH)).fp b → w.heap.size ≤ b := by
 have hfl : (s.flatMap ZH).length = s.length * 1 := Z1p ZH 1 Z0u s
 have hcap := ListAt.cap hP
 obtain ⟨i, z, _, h1, h2, h3, h4, h5, h6⟩ := Z43 (P := Tryz.prog) (T := 38) (e := 5) (size := 1) (bytes := 1) (by kernel_rfl)
 cases oa with
 | none =>
  rcases hP with ⟨a, c, e, rfl, hc, ha⟩ | ⟨_, b, o, c, e, _⟩
  ·simp only [Value.slice.injEq] at e
   obtain ⟨e1, _, rfl⟩ := e
   obtain rfl : oc = 0 := ha e1.symm
   exact (AnyE.slices_Clone_nil (P := Tryz.prog) Z8Z 0 0 w).mono fun e w' ⟨he, hw⟩ => ⟨_, he, World.ownsRow_nil _ 0 _ _, hw ▸ Upd.refl _ _, fun b hb => by simp [Zc, Value.ownBlock] at hb⟩
  ·simp only [Value.slice.injEq, reduceCtorEq, false_and] at e
 | some ad =>
  have hs0 := hsp ad rfl
  obtain ⟨b, o, sp⟩ := ad
  simp only at hs0
  subst hs0
  refine (AnyE.slices_Clone (P := Tryz.prog) Z8Z i z 1 1 h1 h2 h3 h4 h5 h6 Tryz.sizeOf5 b o s.length oc (s.flatMap ZH) w hfl (by unfold maxLen; omega) (by omega) (fun j u hu => by
   have h0 : 0 < s.length := by
    rcases Nat.eq_zero_or_pos s.length with q | q
    ·rw [List.eq_nil_of_length_eq_zero q] at hu; simp at hu
    ·exact q
   obtain ⟨vb, vo, vc, hva, hvs⟩ := hP.cells Z0u (by decide) h0
   simp only [Value.slice.injEq, Option.some.injEq, Addr.mk.injEq] at hva
   obtain ⟨⟨rfl, rfl, _⟩, _, _⟩ := hva
   have := hvs j u hu
   rw [Addr.add_lit] at this
   exact this) (fun u hu => List.all_eq_true.1 (Z0e ZH Z1b s) u hu)).mono fun e w' ⟨v', he, hr, _, hb⟩ => ⟨v', he, ?_, Below.upd hb, ?_⟩
  ·refine ⟨hr.1, ?_⟩
   rcases hr.2 with h | ⟨g', cap, cur', e1, _, r⟩
   ·exact .inl h
   ·exact .inr ⟨g', cap, cur', e1, Nat.zero_le _, r⟩
  ·intro b hb2
   rcases hr.2 with ⟨rfl, _⟩ | ⟨g', cap, cur', rfl, hge, _⟩
   ·simp [Zc, Value.ownBlock] at hb2
   ·simp only [Zc, Value.ownBlock, Option.some.injEq] at hb2; omega
abbrev Z4m (p0 : Nat) : List Value := ([(.map (some p0))] : List Value)
abbrev Z3G (p0 : Nat) (p1 : List Z4) : Ck := ZI p0 ZK (Value.int .i64) (ZU p1)
abbrev Z2e (p0 : Int) (p1 : Int) : List Value := ([(.int .i64 p0), (.int .i64 p1)] : List Value)
abbrev Z3H : List Value := ([(.int .i64 (0)), (.int .i64 (0))] : List Value) ++ hc Zx ++ ([(.int .i64 (0)), (.int .i64 (0)), (.int .i64 (0))] : List Value)
abbrev Z2L (p0 : Int) (p1 : Int) (p2 : Z1e) (p3 : Int) : List Value := ([(.int .i64 p0), (.int .i64 p1)] : List Value) ++ hc p2 ++ ([(.int .i64 p3), (.int .i64 (0)), (.int .i64 (0))] : List Value)
abbrev Zbu (p0 : Option Addr) (p1 : List UInt8) (p2 : Nat) : Ck := Zc 5 1 (.slice p0 p1.length p2) p1.length (p1.flatMap ZH)
abbrev Z3I (p0 : Int) (p1 : Int) (p2 : Z1e) (p3 : Int) (p4 : Int) (p5 : Int) : List Value := ([(.int .i64 p0), (.int .i64 p1)] : List Value) ++ hc p2 ++ ([(.int .i64 p3), (.int .i64 p4), (.int .i64 p5)] : List Value)
abbrev kClS_7 (p0 : Z0) (p1 : Option Addr) (p2 : Nat) (p3 : Nat) (p4 : Z1e) (p5 : Nat) (p6 : Nat) (p7 : Nat) (p8 : Nat) (p9 : Value) : List Value := ([(.int .i64 p0.cl), (.int .i64 p0.seq)] : List Value) ++ hc p0.h ++ ([(.int .i64 p0.len), (.int .i64 p0.sb), (.int .i64 p0.sm), (.slice p1 p2 p3)] : List Value) ++ hc p4 ++ ([(.map (some p5)), (.pointer none), (.map (some p6)), (.map (some p7)), (.bool false), (.int .i64 (0)), (.map (some p8)), (.bool false), p9] : List Value)
theorem Z48 (w : World) (cl : Int) (hcl : 0 ≤ cl ∧ cl ≤ 1000000) :
  Calls Tryz.prog 48 #[(.int .i64 (cl))] w fun e w' => e = .returned (.int .i64 (1000 + cl)) ∧ Upd [] w w' := by
 have H := Sat.start0 w
 refine Zg Tryz.func48 rfl 5 rfl (Nat.le_of_ble_eq_true rfl) ?_
 apply zsl
 refine wv 2 (.int .i64 (0)) ?_
 apply Z0N
 refine wv 3 (.int .i64 (cl)) ?_
 refine zwi 4 (1000 + cl) ?_
 refine wv 2 (.int .i64 (1000 + cl)) ?_
 apply znt
 apply Zz
 refine ze1 (.int .i64 (1000 + cl)) ?_
 exact ⟨rfl, H.upd 0 rfl [] (fun _ h => h.elim)⟩
theorem Z2Z (w : World) (bb mb : Nat) (L : List Z4) (hA : (ZL [Z3 bb 108 [.map (some mb)], ZI mb ZK (Value.int .i64) (ZU L)]).ok w) (hlL : L.length ≤ 100000) (cl sq : Int) (no : Z1e) (oa : Option Addr) (oc : Nat) (P : List UInt8) (hP0 : ListAt ZH 1 w (.slice oa P.length oc) P) (hlP : P.length ≤ 1000) (hoffP : 0 < P.length → ∀ ad, oa = some ad → ¬ (ZL [Z3 bb 108 [.map (some mb)], ZI mb ZK (Value.int .i64) (ZU L)]).fp ad.block) (hcl : 0 ≤ cl ∧ cl ≤ 1000000) (hsq : 0 ≤ sq ∧ sq ≤ 10000000) :
  Calls Tryz.prog 28 #[(.pointer (some ⟨bb, 0, none⟩)), (.agg ⟨([(.int .i64 (cl)), (.int .i64 (sq))] : List Value)⟩), (.agg ⟨(hc no)⟩), (.slice oa P.length oc)] w fun e w' => e = .returned (.agg ⟨Z1E (⟨cl, sq, Z8 (ofT cl sq no P), P.length, 1000 + cl, Z9 (Zd L (⟨1000 + cl, Z1 (⟨cl, sq, Z8 (ofT cl sq no P), P.length, 0, 0⟩ : Z0)⟩ : Z4)) (⟨1000 + cl, Z1 (⟨cl, sq, Z8 (ofT cl sq no P), P.length, 0, 0⟩ : Z0)⟩ : Z4)⟩ : Z0)⟩) ∧ Sat w [Z3 bb 108 [.map (some mb)], ZI mb ZK (Value.int .i64) (ZU (Zd L (⟨1000 + cl, Z1 (⟨cl, sq, Z8 (ofT cl sq no P), P.length, 0, 0⟩ : Z0)⟩ : Z4))), Z7 w (ZL [Z3 bb 108 [.map (some mb)], ZI mb ZK (Value.int .i64) (ZU L)]).fp] w' := by
 have H := Sat.start _ hA
 refine Zg Tryz.func28 rfl 27 rfl (Nat.le_of_ble_eq_true rfl) ?_
 apply zsl
 refine zwd fun Kq kq => ?_
 refine zdb (Z2e cl sq) H ?_
 intro b2 w3 H4
 refine kq _ _ ?_
 clear kq Kq
 refine zwd fun Kq kq => ?_
 refine zdb (hc no) H4 ?_
 intro b6 w7 H8
 refine kq _ _ ?_
 clear kq Kq
 refine zwd fun Kq kq => ?_
 refine zda (Z3H) H8 ?_
 intro b10 w11 H12
 refine kq _ _ ?_
 clear kq Kq
 apply znt
 apply Zf
 refine Z0b H12 [Z3 bb 108 (Z4m mb), (Z3G mb L), Z7 w (ZL [Z3 bb 108 [.map (some mb)], (Z3G mb L)]).fp, Z3 b2 43 (Z2e cl sq), Z3 b6 40 (hc no), Z3 b10 54 (Z3H)] 10 rfl (by kernel_rfl) (fun Hx => (Hx.pk [0, 1, 2, 3, 4, 5])) ?_
 intro w13 H14 S15
 refine hv0 0 S15 10 (.agg ⟨(Z2e cl sq)⟩) ?_ (he := fun _ H' => (ZG (vs := (Z2e cl sq)) rfl (by kernel_rfl) (by kernel_rfl) (by exact Nat.le_of_ble_eq_true (by kernel_rfl)) (H'.at 3 rfl) (by kernel_rfl)))
 refine hv0 1 S15 11 (.agg ⟨(Z2e cl sq)⟩) ?_ (he := fun _ H' => (ZG (vs := (Z2e cl sq)) rfl (by kernel_rfl) (by kernel_rfl) (by exact Nat.le_of_ble_eq_true (by kernel_rfl)) (H'.at 3 rfl) (by kernel_rfl)))
 refine hv0 2 S15 12 (.agg ⟨(hc no)⟩) ?_ (he := fun _ H' => (ZG (vs := (hc no)) rfl (by kernel_rfl) (by kernel_rfl) (by exact Nat.le_of_ble_eq_true (by kernel_rfl)) (H'.at 4 rfl) (by kernel_rfl)))
 refine hv0 3 S15 13 (.slice oa P.length oc) ?_
 refine hv0 5 S15 15 (.slice oa P.length oc) ?_
 refine Z0s 6 rfl (by kernel_rfl) (by kernel_rfl) (by kernel_rfl) (fun _ _ _ h => h) S15 (Z5 rfl) (d := 16) (v := (.int .i64 ((P.length : Int)))) rfl (fun _ H' => (by kernel_rfl)) ?_
 refine Z3W 4 8 rfl rfl (by kernel_rfl) (Z5 rfl) (Z5 rfl) (fun Kq kq => ?_) (fun Kq kq => ?_)
 ·refine zdq 14 (Z9W w13 cl sq no oa oc P (ListAt.nowD H14 2 rfl hP0 hoffP) (by omega) (by omega) hlP) H14 ?_
  intro w17 H18
  have S20 := H18.pk [0, 1, 2, 3, 4, 5]
  refine kq _ _ S20 ?_
  clear kq Kq
  refine Z0s 7 rfl (by kernel_rfl) (by kernel_rfl) (by kernel_rfl) (fun _ _ _ h => h) S20 (Z5 rfl) (d := 17) (v := (.agg ⟨(Z2L cl sq (Z8 (ofT cl sq no P)) ((P.length : Int)))⟩)) rfl (fun _ H' => (by kernel_rfl)) ?_
  refine Z0H 8 fun Kq kq => ?_
  refine zda (Z3H) H18 ?_
  intro b22 w23 H24
  have S25 := H24.pk [0, 1, 2, 3, 4, 5]
  refine kq _ _ S25 ?_
  clear kq Kq
  refine Z0H 9 fun Kq kq => ?_
  refine Z21 (Z2L cl sq (Z8 (ofT cl sq no P)) ((P.length : Int))) H24 6 ?_
  intro w27 H28
  have S30 := H28.pk [0, 1, 2, 3, 4, 5]
  refine kq _ _ S30 ?_
  clear kq Kq
  refine zhf ?_
  apply ztn
  apply Zf
  refine Z1o H28 [Z3 bb 108 (Z4m mb), Z7 w (ZL [Z3 bb 108 [.map (some mb)], (Z3G mb L)]).fp, Z3 b2 43 (Z2e cl sq), Z3 b6 40 (hc no), Z3 b10 54 (Z3H), Z3 b22 54 (Z2L cl sq (Z8 (ofT cl sq no P)) ((P.length : Int)))] [8] 9 rfl (by kernel_rfl) (fun Hx => (Hx.pk [0, 2, 3, 4, 5, 6])) ?_
  intro w31 H32 S33
  refine zkp 0 S33 18 (pt bb 0) ?_
  refine zkp 1 S33 19 (pt b2 0) ?_
  refine zkv 2 S33 20 (.int .i64 (cl)) ?_ (he := fun _ H' => (Zi rfl (by kernel_rfl) (H'.cell 2 rfl rfl)))
  refine zkv 4 S33 22 (.agg ⟨(Z2L cl sq (Z8 (ofT cl sq no P)) ((P.length : Int)))⟩) ?_ (he := fun _ H' => (ZG (vs := (Z2L cl sq (Z8 (ofT cl sq no P)) ((P.length : Int)))) rfl (by kernel_rfl) (by kernel_rfl) (by exact Nat.le_of_ble_eq_true (by kernel_rfl)) (H'.at 5 rfl) (by kernel_rfl)))
  refine Z4G 3 fun Kq kq => ?_
  refine zdq 21 (Z48 w31 cl (by omega)) H32 ?_
  intro w35 H36
  have S38 := H36.pk [0, 2, 3, 4, 5, 6]
  refine kq _ _ S38 ?_
  clear kq Kq
  refine Z4G 5 fun Kq kq => ?_
  refine zdc 23 (Z2y w35 (⟨cl, sq, (Z8 (ofT cl sq no P)), (P.length : Int), 0, 0⟩ : Z0) ⟨by show cl ≤ _; omega, by show sq ≤ _; omega, by show (P.length : Int) ≤ _; omega⟩) ?_
  rintro _ w40 ⟨u41, rfl, k42, p43, q44⟩
  have H45 := H36.addU p43 k42 q44
  obtain ⟨a46, c47, rfl⟩ := Ze (H45.at 7 rfl)
  refine ⟨_, rfl, ?_⟩
  have S48 := H45.pk [0, 2, 3, 4, 5, 6]
  refine kq _ _ S48 ?_
  clear kq Kq
  refine Z4G 6 fun Kq kq => ?_
  refine zdc 24 (Z6X w40 bb mb L (.slice a46 ((Z1 (⟨cl, sq, (Z8 (ofT cl sq no P)), (P.length : Int), 0, 0⟩ : Z0)).length) c47) (Z1 (⟨cl, sq, (Z8 (ofT cl sq no P)), (P.length : Int), 0, 0⟩ : Z0)) (H45.fn [0, 1, 7]) (by omega) (1000 + cl)) ?_
  rintro _ w50 ⟨rfl, T51⟩
  have hsl := Z4w L (⟨1000 + cl, (Z1 (⟨cl, sq, (Z8 (ofT cl sq no P)), (P.length : Int), 0, 0⟩ : Z0))⟩ : Z4)
  have H52 := H45.tl [Z3 bb 108 (Z4m mb), (Z3G mb (Zd L (⟨1000 + cl, (Z1 (⟨cl, sq, (Z8 (ofT cl sq no P)), (P.length : Int), 0, 0⟩ : Z0))⟩ : Z4))), (Zbu a46 (Z1 (⟨cl, sq, (Z8 (ofT cl sq no P)), (P.length : Int), 0, 0⟩ : Z0)) c47)] [0, 1, 7] [2, 3, 4, 5, 6] T51 [0, 1, 3, 4, 5, 6, 7, 2]
  refine ⟨_, rfl, ?_⟩
  have S53 := H52.pk [0, 2, 3, 4, 5, 6]
  refine kq _ _ S53 ?_
  clear kq Kq
  refine zkp 7 S53 25 (pt b22 35) ?_
  refine Z3u 8 (Sat w [Z3 bb 108 (Z4m mb), Z7 w (ZL [Z3 bb 108 [.map (some mb)], (Z3G mb L)]).fp, Z3 b2 43 (Z2e cl sq), Z3 b6 40 (hc no), Z3 b10 54 (Z3H)]) rfl (by kernel_rfl) (Z5 rfl) rfl (fun Kq kq => ?_)
  refine zds (Z2e (1000 + cl) (Z9 (Zd L (⟨1000 + cl, (Z1 (⟨cl, sq, (Z8 (ofT cl sq no P)), (P.length : Int), 0, 0⟩ : Z0))⟩ : Z4)) (⟨1000 + cl, (Z1 (⟨cl, sq, (Z8 (ofT cl sq no P)), (P.length : Int), 0, 0⟩ : Z0))⟩ : Z4))) (Z3I cl sq (Z8 (ofT cl sq no P)) ((P.length : Int)) (1000 + cl) (Z9 (Zd L (⟨1000 + cl, (Z1 (⟨cl, sq, (Z8 (ofT cl sq no P)), (P.length : Int), 0, 0⟩ : Z0))⟩ : Z4)) (⟨1000 + cl, (Z1 (⟨cl, sq, (Z8 (ofT cl sq no P)), (P.length : Int), 0, 0⟩ : Z0))⟩ : Z4))) H52 6 ?_
  intro w55 H56
  have S58 := H56.pk [0, 2, 3, 4, 5]
  refine kq _ _ S58 ?_
  clear kq Kq
  refine zhf ?_
  apply ztn
  apply zsl
  refine zwN 26 (Z3I cl sq (Z8 (ofT cl sq no P)) ((P.length : Int)) (1000 + cl) (Z9 (Zd L (⟨1000 + cl, (Z1 (⟨cl, sq, (Z8 (ofT cl sq no P)), (P.length : Int), 0, 0⟩ : Z0))⟩ : Z4)) (⟨1000 + cl, (Z1 (⟨cl, sq, (Z8 (ofT cl sq no P)), (P.length : Int), 0, 0⟩ : Z0))⟩ : Z4))) (H56.at 6 rfl) ?_
  refine zwd fun Kq kq => ?_
  refine Z21 (Z3I cl sq (Z8 (ofT cl sq no P)) ((P.length : Int)) (1000 + cl) (Z9 (Zd L (⟨1000 + cl, (Z1 (⟨cl, sq, (Z8 (ofT cl sq no P)), (P.length : Int), 0, 0⟩ : Z0))⟩ : Z4)) (⟨1000 + cl, (Z1 (⟨cl, sq, (Z8 (ofT cl sq no P)), (P.length : Int), 0, 0⟩ : Z0))⟩ : Z4))) H56 5 ?_
  intro w60 H61
  refine kq _ _ ?_
  clear kq Kq
  apply znt
  apply Zz
  refine Z1x rfl (Z02 (vs := (Z3I cl sq (Z8 (ofT cl sq no P)) ((P.length : Int)) (1000 + cl) (Z9 (Zd L (⟨1000 + cl, (Z1 (⟨cl, sq, (Z8 (ofT cl sq no P)), (P.length : Int), 0, 0⟩ : Z0))⟩ : Z4)) (⟨1000 + cl, (Z1 (⟨cl, sq, (Z8 (ofT cl sq no P)), (P.length : Int), 0, 0⟩ : Z0))⟩ : Z4)))) rfl (by kernel_rfl) (by kernel_rfl) (by exact Nat.le_of_ble_eq_true (by kernel_rfl)) (H61.at 5 rfl) (by kernel_rfl)) ?_
  exact ⟨rfl, H61.pk [0, 1, 2]⟩
 refine zda (Z3H) H14 ?_
 intro b63 w64 H65
 have S66 := H65.pk [0, 1, 2, 3, 4, 5]
 refine kq _ _ S66 ?_
 clear kq Kq
 refine Z0H 4 fun Kq kq => ?_
 refine zdq 14 (Z9W w64 cl sq no oa oc P (ListAt.nowD H65 2 rfl hP0 hoffP) (by omega) (by omega) hlP) H65 ?_
 intro w68 H69
 have S71 := H69.pk [0, 1, 2, 3, 4, 5]
 refine kq _ _ S71 ?_
 clear kq Kq
 refine Z0s 7 rfl (by kernel_rfl) (by kernel_rfl) (by kernel_rfl) (fun _ _ _ h => h) S71 (Z5 rfl) (d := 17) (v := (.agg ⟨(Z2L cl sq (Z8 (ofT cl sq no P)) ((P.length : Int)))⟩)) rfl (fun _ H' => (by kernel_rfl)) ?_
 refine Z0H 9 fun Kq kq => ?_
 refine Z21 (Z2L cl sq (Z8 (ofT cl sq no P)) ((P.length : Int))) H69 6 ?_
 intro w73 H74
 have S76 := H74.pk [0, 1, 2, 3, 4, 5]
 refine kq _ _ S76 ?_
 clear kq Kq
 refine zhf ?_
 apply ztn
 apply Zf
 refine Z1o H74 [Z3 bb 108 (Z4m mb), Z7 w (ZL [Z3 bb 108 [.map (some mb)], (Z3G mb L)]).fp, Z3 b2 43 (Z2e cl sq), Z3 b6 40 (hc no), Z3 b10 54 (Z3H), Z3 b63 54 (Z2L cl sq (Z8 (ofT cl sq no P)) ((P.length : Int)))] [8] 9 rfl (by kernel_rfl) (fun Hx => (Hx.pk [0, 2, 3, 4, 5, 6])) ?_
 intro w77 H78 S79
 refine zkp 0 S79 18 (pt bb 0) ?_
 refine zkp 1 S79 19 (pt b2 0) ?_
 refine zkv 2 S79 20 (.int .i64 (cl)) ?_ (he := fun _ H' => (Zi rfl (by kernel_rfl) (H'.cell 2 rfl rfl)))
 refine zkv 4 S79 22 (.agg ⟨(Z2L cl sq (Z8 (ofT cl sq no P)) ((P.length : Int)))⟩) ?_ (he := fun _ H' => (ZG (vs := (Z2L cl sq (Z8 (ofT cl sq no P)) ((P.length : Int)))) rfl (by kernel_rfl) (by kernel_rfl) (by exact Nat.le_of_ble_eq_true (by kernel_rfl)) (H'.at 5 rfl) (by kernel_rfl)))
 refine Z4G 3 fun Kq kq => ?_
 refine zdq 21 (Z48 w77 cl (by omega)) H78 ?_
 intro w81 H82
 have S84 := H82.pk [0, 2, 3, 4, 5, 6]
 refine kq _ _ S84 ?_
 clear kq Kq
 refine Z4G 5 fun Kq kq => ?_
 refine zdc 23 (Z2y w81 (⟨cl, sq, (Z8 (ofT cl sq no P)), (P.length : Int), 0, 0⟩ : Z0) ⟨by show cl ≤ _; omega, by show sq ≤ _; omega, by show (P.length : Int) ≤ _; omega⟩) ?_
 rintro _ w86 ⟨u87, rfl, k88, p89, q90⟩
 have H91 := H82.addU p89 k88 q90
 obtain ⟨a92, c93, rfl⟩ := Ze (H91.at 7 rfl)
 refine ⟨_, rfl, ?_⟩
 have S94 := H91.pk [0, 2, 3, 4, 5, 6]
 refine kq _ _ S94 ?_
 clear kq Kq
 refine Z4G 6 fun Kq kq => ?_
 refine zdc 24 (Z6X w86 bb mb L (.slice a92 ((Z1 (⟨cl, sq, (Z8 (ofT cl sq no P)), (P.length : Int), 0, 0⟩ : Z0)).length) c93) (Z1 (⟨cl, sq, (Z8 (ofT cl sq no P)), (P.length : Int), 0, 0⟩ : Z0)) (H91.fn [0, 1, 7]) (by omega) (1000 + cl)) ?_
 rintro _ w96 ⟨rfl, T97⟩
 have hsl := Z4w L (⟨1000 + cl, (Z1 (⟨cl, sq, (Z8 (ofT cl sq no P)), (P.length : Int), 0, 0⟩ : Z0))⟩ : Z4)
 have H98 := H91.tl [Z3 bb 108 (Z4m mb), (Z3G mb (Zd L (⟨1000 + cl, (Z1 (⟨cl, sq, (Z8 (ofT cl sq no P)), (P.length : Int), 0, 0⟩ : Z0))⟩ : Z4))), (Zbu a92 (Z1 (⟨cl, sq, (Z8 (ofT cl sq no P)), (P.length : Int), 0, 0⟩ : Z0)) c93)] [0, 1, 7] [2, 3, 4, 5, 6] T97 [0, 1, 3, 4, 5, 6, 7, 2]
 refine ⟨_, rfl, ?_⟩
 have S99 := H98.pk [0, 2, 3, 4, 5, 6]
 refine kq _ _ S99 ?_
 clear kq Kq
 refine zkp 7 S99 25 (pt b63 35) ?_
 refine Z3u 8 (Sat w [Z3 bb 108 (Z4m mb), Z7 w (ZL [Z3 bb 108 [.map (some mb)], (Z3G mb L)]).fp, Z3 b2 43 (Z2e cl sq), Z3 b6 40 (hc no), Z3 b10 54 (Z3H)]) rfl (by kernel_rfl) (Z5 rfl) rfl (fun Kq kq => ?_)
 refine zds (Z2e (1000 + cl) (Z9 (Zd L (⟨1000 + cl, (Z1 (⟨cl, sq, (Z8 (ofT cl sq no P)), (P.length : Int), 0, 0⟩ : Z0))⟩ : Z4)) (⟨1000 + cl, (Z1 (⟨cl, sq, (Z8 (ofT cl sq no P)), (P.length : Int), 0, 0⟩ : Z0))⟩ : Z4))) (Z3I cl sq (Z8 (ofT cl sq no P)) ((P.length : Int)) (1000 + cl) (Z9 (Zd L (⟨1000 + cl, (Z1 (⟨cl, sq, (Z8 (ofT cl sq no P)), (P.length : Int), 0, 0⟩ : Z0))⟩ : Z4)) (⟨1000 + cl, (Z1 (⟨cl, sq, (Z8 (ofT cl sq no P)), (P.length : Int), 0, 0⟩ : Z0))⟩ : Z4))) H98 6 ?_
 intro w101 H102
 have S104 := H102.pk [0, 2, 3, 4, 5]
 refine kq _ _ S104 ?_
 clear kq Kq
 refine zhf ?_
 apply ztn
 apply zsl
 refine zwN 26 (Z3I cl sq (Z8 (ofT cl sq no P)) ((P.length : Int)) (1000 + cl) (Z9 (Zd L (⟨1000 + cl, (Z1 (⟨cl, sq, (Z8 (ofT cl sq no P)), (P.length : Int), 0, 0⟩ : Z0))⟩ : Z4)) (⟨1000 + cl, (Z1 (⟨cl, sq, (Z8 (ofT cl sq no P)), (P.length : Int), 0, 0⟩ : Z0))⟩ : Z4))) (H102.at 6 rfl) ?_
 refine zwd fun Kq kq => ?_
 refine Z21 (Z3I cl sq (Z8 (ofT cl sq no P)) ((P.length : Int)) (1000 + cl) (Z9 (Zd L (⟨1000 + cl, (Z1 (⟨cl, sq, (Z8 (ofT cl sq no P)), (P.length : Int), 0, 0⟩ : Z0))⟩ : Z4)) (⟨1000 + cl, (Z1 (⟨cl, sq, (Z8 (ofT cl sq no P)), (P.length : Int), 0, 0⟩ : Z0))⟩ : Z4))) H102 5 ?_
 intro w106 H107
 refine kq _ _ ?_
 clear kq Kq
 apply znt
 apply Zz
 refine Z1x rfl (Z02 (vs := (Z3I cl sq (Z8 (ofT cl sq no P)) ((P.length : Int)) (1000 + cl) (Z9 (Zd L (⟨1000 + cl, (Z1 (⟨cl, sq, (Z8 (ofT cl sq no P)), (P.length : Int), 0, 0⟩ : Z0))⟩ : Z4)) (⟨1000 + cl, (Z1 (⟨cl, sq, (Z8 (ofT cl sq no P)), (P.length : Int), 0, 0⟩ : Z0))⟩ : Z4)))) rfl (by kernel_rfl) (by kernel_rfl) (by exact Nat.le_of_ble_eq_true (by kernel_rfl)) (H107.at 5 rfl) (by kernel_rfl)) ?_
 exact ⟨rfl, H107.pk [0, 1, 2]⟩
theorem Z1I (w : World) (c bb : Nat) (F Cn id : Int) (v : Value) (hcl : (Z3 c 112 [.int .i64 F, .int .i64 Cn, .int .i64 id, .pointer (some ⟨bb, 0, none⟩), v]).ok w) (hF : 1 ≤ F ∧ F ≤ 100) (hid : 0 ≤ id ∧ id ≤ 1000000) (x : Z0) (pa : Option Addr) (pc : Nat) (P : List UInt8) (no : Z1e) (ms ma mr mp : Nat) :
  Calls Tryz.prog 30 #[(.pointer (some ⟨c, 0, none⟩)), (.agg ⟨(([(.int .i64 (x.cl)), (.int .i64 (x.seq))] : List Value) ++ hc x.h ++ ([(.int .i64 (x.len)), (.int .i64 (x.sb)), (.int .i64 (x.sm)), ((.slice pa P.length pc))] : List Value) ++ hc no ++ ([(.map (some ms)), (.pointer none), (.map (some ma)), (.map (some mr)), (.bool false), (.int .i64 (0)), (.map (some mp)), (.bool false), (ZD ([]))] : List Value))⟩)] w fun e w' => ∃ (da : Option Addr) (dc : Nat) (D : List OmR) (B : List Ck), e = .returned (.slice da D.length dc) ∧ (D.length : Int) = 3 * F + 1 ∧ (∀ j, j < D.length → Z6g (1000 + id) (⟨1, 0, 0, x, co0, none, 0, [], 0, none, 0, [], Zx⟩ : OmR) B j (D.getD j om0)) ∧ (ZL [Zc 82 295 (.slice da D.length dc) D.length (D.flatMap Z0d), Z0j B]).ok w' ∧ Upd [] w w' ∧ ∀ q_, (ZL [Zc 82 295 (.slice da D.length dc) D.length (D.flatMap Z0d), Z0j B]).fp q_ → w.heap.size ≤ q_ := by
 have H := Sat.start0 w
 refine Zg Tryz.func30 rfl 37 rfl (Nat.le_of_ble_eq_true rfl) ?_
 apply zsl
 refine zwd fun Kq kq => ?_
 refine zdb (kClS_7 x pa P.length pc no ms ma mr mp (ZD ([]))) H ?_
 intro b2 w3 H4
 refine kq _ _ ?_
 clear kq Kq
 refine wv 4 (.slice none 0 0) ?_
 apply znt
 apply Zf
 apply ZA
 apply zsl
 refine wv 6 (pt b2 77) ?_
 refine zw1 7 (.bool false) (H4.cell 1 rfl (by kernel_rfl)) ?_
 refine wv 5 (.bool false) ?_
 apply znt
 refine Z0y rfl ?_
 apply zsl
 refine wv 9 (pt b2 74) ?_
 refine zw1 10 (.bool false) (H4.cell 1 rfl (by kernel_rfl)) ?_
 refine wv 8 (.bool false) ?_
 apply znt
 refine Z0y rfl ?_
 apply zsl
 refine wv 22 (pt b2 71) ?_
 refine zw1 23 (.pointer none) (H4.cell 1 rfl (by kernel_rfl)) ?_
 refine wv 24 (.bool false) ?_
 refine wv 21 (.bool false) ?_
 apply znt
 refine Z0y rfl ?_
 apply ZF
 apply Zw
 apply ztn
 apply zsl
 refine wv 32 (pt c 0) ?_
 refine wv 33 (pt b2 0) ?_
 refine zwN 34 (([(.int .i64 (x.cl)), (.int .i64 (x.seq))] : List Value) ++ hc x.h ++ ([(.int .i64 (x.len)), (.int .i64 (x.sb)), (.int .i64 (x.sm))] : List Value)) (H4.at 1 rfl) ?_
 refine wv 35 (.agg ⟨(([(.int .i64 (1)), (.int .i64 (0)), (.int .i64 (0)), (.int .i64 (x.cl)), (.int .i64 (x.seq))] : List Value) ++ hc x.h ++ ([(.int .i64 (x.len)), (.int .i64 (x.sb)), (.int .i64 (x.sm)), (.int .i64 (0)), (.int .i64 (0)), (.int .i64 (0))] : List Value) ++ hc Zx ++ ([(.int .u64 (0)), (.int .i64 (0)), (.int .i64 (0)), (.int .i64 (0)), (.int .i64 (0))] : List Value) ++ hc Zx ++ ([(.int .i64 (0)), (.int .i64 (0)), (.int .i64 (0)), (.slice none 0 0), (.int .i64 (0)), (.int .i64 (0)), (.int .i64 (0))] : List Value) ++ hc Zx ++ ([(.int .u64 (0)), (.int .i64 (0)), (.int .i64 (0)), (.int .i64 (0)), (.int .i64 (0)), (.int .u64 (0)), (.int .i64 (0)), (.int .i64 (0)), (.int .u64 (0)), (.slice none 0 0), (.int .i64 (0)), (.int .i64 (0)), (.int .i64 (0)), (.int .i64 (0)), (.int .i64 (0)), (.int .i64 (0)), (.int .i64 (0)), (.int .u64 (0)), (.slice none 0 0), (.slice none 0 0), (.slice none 0 0), (.int .i64 (0)), (.int .i64 (0)), (.int .i64 (0))] : List Value) ++ ([(.int .i64 (0)), (.int .i64 (0)), (.int .i64 (0))] : List Value) ++ hc Zx ++ ([(.int .i64 (0)), (.int .i64 (0)), (.int .i64 (0)), (.int .i64 (0)), (.int .i64 (0))] : List Value) ++ hc Zx ++ ([(.int .u64 (0)), (.int .i64 (0)), (.slice none 0 0)] : List Value) ++ hc Zx ++ ([(.int .i64 (0)), (.int .i64 (0)), (.int .i64 (0)), (.int .i64 (0)), (ZD ([] : List UInt8)), (.int .i64 (0)), (.int .i64 (0)), (.int .i64 (0)), (.int .u64 (0)), (.slice none 0 0), (.slice none 0 0), (.slice none 0 0), (.slice none 0 0)] : List Value))⟩) ?_
 refine zwd fun Kq kq => ?_
 refine zdc 36 (Z22 w3 c bb F Cn id v (H4.roCk 0 rfl hcl (fun _ _ h => h)) hF hid (⟨1, 0, 0, x, co0, none, 0, [], 0, none, 0, [], Zx⟩ : OmR) ListAt.nil (Nat.zero_le _) ListAt.nil (Nat.zero_le _)) ?_
 rintro _ w6 ⟨a7, c8, D9, B10, rfl, n11, o12, k13, p14, q15⟩
 have H16 := H4.addU p14 k13 q15
 have H17 := H16.open 2 rfl
 refine ⟨_, rfl, ?_⟩
 refine kq _ _ ?_
 clear kq Kq
 refine wv 4 (.slice a7 D9.length c8) ?_
 apply znt
 apply Zz
 refine ze1 (.slice a7 D9.length c8) ?_
 exact ⟨a7, c8, D9, B10, rfl, n11, o12, H17.fn [2, 3], H17.upd 0 rfl [] (fun _ h => h.elim), H17.freshS 0 rfl (fun _ h => h) [2, 3] rfl rfl⟩
end Go.Proofs.YtgigjkjdmalmaaaGreat
