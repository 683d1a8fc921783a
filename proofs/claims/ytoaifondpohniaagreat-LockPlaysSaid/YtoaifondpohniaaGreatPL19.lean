/- WHAT IS PROVED: contracts and plain laws of EnA, Bag, CloneS, Rt2. Conditions: stated with each. -/
import Derived.Shelf.SlicesE.Clone
import Derived.Test.YtoaifondpohniaaGreatPL03
import Derived.Test.YtoaifondpohniaaGreatPL04
import Derived.Test.YtoaifondpohniaaGreatPL06
import Derived.Test.YtoaifondpohniaaGreatPL09
import Derived.Test.YtoaifondpohniaaGreatPL17
import Derived.Test.YtoaifondpohniaaGreatPL18
set_option maxHeartbeats 4000000
set_option maxRecDepth 100000
namespace Go.Proofs.YtoaifondpohniaaGreat
open Go.RowKit
theorem ZaX (w : World) (a b c d : Int) :
  Calls Tryz.prog 28 #[(.agg ⟨([(.int .i64 (a)), (.int .i64 (b))] : List Value)⟩), (.agg ⟨([(.int .i64 (c)), (.int .i64 (d))] : List Value)⟩)] w fun e w' => e = .returned (.bool (decide (a < c) || (decide (a = c) && decide (b < d)))) ∧ Upd [] w w' := by
 have H := Sat.start0 w
 refine Zh Tryz.func28 rfl 24 rfl (Nat.le_of_ble_eq_true rfl) ?_
 refine Zd ?_
 refine Zq ?_
 refine Z07 (Z1 rfl) (fun K1 hK1 => ?_)
 refine Z34 (vs := ([(.int .i64 (a)), (.int .i64 (b))] : List Value)) rfl H rfl rfl ?_
 intro b2 w3 (H4 : Sat w [Z7 w (fun _ => False), Z0 b2 24 ([(.int .i64 (a)), (.int .i64 (b))] : List Value)] w3)
 refine hK1 _ _ ?_
 clear hK1 K1
 refine Z07 (Z1 rfl) (fun K5 hK5 => ?_)
 refine Z34 (vs := ([(.int .i64 (c)), (.int .i64 (d))] : List Value)) rfl H4 rfl rfl ?_
 intro b6 w7 (H8 : Sat w [Z7 w (fun _ => False), Z0 b2 24 ([(.int .i64 (a)), (.int .i64 (b))] : List Value), Z0 b6 24 ([(.int .i64 (c)), (.int .i64 (d))] : List Value)] w7)
 refine hK5 _ _ ?_
 clear hK5 K5
 refine Z2 (Z1 rfl) (d := 4) (v := (.bool false)) rfl (by kernel_rfl) ?_
 refine Zn ?_
 refine Z4 ?_
 refine Zd ?_
 refine Zq ?_
 refine Z2 (Z1 rfl) (d := 5) (v := (.pointer (some ⟨b2, 0, none⟩))) rfl (by kernel_rfl) ?_
 refine Z2 (Z1 rfl) (d := 6) (v := (.int .i64 (a))) rfl (Z8 rfl (by kernel_rfl) (H8.cell 1 rfl rfl)) ?_
 refine Z2 (Z1 rfl) (d := 7) (v := (.pointer (some ⟨b6, 0, none⟩))) rfl (by kernel_rfl) ?_
 refine Z2 (Z1 rfl) (d := 8) (v := (.int .i64 (c))) rfl (Z8 rfl (by kernel_rfl) (H8.cell 2 rfl rfl)) ?_
 refine Z2 (Z1 rfl) (d := 9) (v := (.bool (decide (a < c)))) rfl (by kernel_rfl) ?_
 refine Z2 (Z1 rfl) (d := 10) (v := (.bool (decide (a < c)))) rfl (by kernel_rfl) ?_
 refine (Zr (decide (a < c))).elim (fun b9 => ?_) (fun b9 => ?_)
 ·have g10 := of_decide_eq_true b9
  refine ZJ 10 (.bool true) (congrArg Value.bool b9) ?_
  have g11 := of_decide_eq_true b9
  refine Z0p (Z0i 5 10 false rfl (by kernel_rfl) rfl (by kernel_rfl)) rfl ?_
  refine Z0p (Z0i 5 10 false rfl (by kernel_rfl) rfl (by kernel_rfl)) rfl ?_
  refine Z0p (Z0i 5 10 false rfl (by kernel_rfl) rfl (by kernel_rfl)) rfl ?_
  refine Z0p (Z0i 5 10 false rfl (by kernel_rfl) rfl (by kernel_rfl)) rfl ?_
  refine Z0p (Z0i 5 10 false rfl (by kernel_rfl) rfl (by kernel_rfl)) rfl ?_
  refine Z0p (Z0i 5 10 false rfl (by kernel_rfl) rfl (by kernel_rfl)) rfl ?_
  refine Z0p (Z84 11 16 true rfl (by kernel_rfl) rfl (by kernel_rfl)) rfl ?_
  refine Z0p (Z84 11 16 true rfl (by kernel_rfl) rfl (by kernel_rfl)) rfl ?_
  refine Z0p (Z84 11 16 true rfl (by kernel_rfl) rfl (by kernel_rfl)) rfl ?_
  refine Z0p (Z84 11 16 true rfl (by kernel_rfl) rfl (by kernel_rfl)) rfl ?_
  refine Z0p (Z84 11 16 true rfl (by kernel_rfl) rfl (by kernel_rfl)) rfl ?_
  refine Z0p (Z0i 5 10 false rfl (by kernel_rfl) rfl (by kernel_rfl)) rfl ?_
  refine Z2 (Z1 rfl) (d := 23) (v := (.bool true)) rfl (by kernel_rfl) ?_
  refine Z2 (Z1 rfl) (d := 4) (v := (.bool true)) rfl (by kernel_rfl) ?_
  refine Zn ?_
  refine Z4 ?_
  refine ZI ?_
  refine Z2e rfl (ZT (v := (.bool true)) rfl) ?_
  exact ⟨by simp [b9], H8.upd 0 rfl [] (fun _ h => h.elim)⟩
 ·have g12 := of_decide_eq_false b9
  refine ZJ 10 (.bool false) (congrArg Value.bool b9) ?_
  have g13 := of_decide_eq_false b9
  refine Z2 (ZD 5 10 false rfl (by kernel_rfl) rfl (by kernel_rfl)) (d := 11) (v := (.pointer (some ⟨b2, 0, none⟩))) rfl (by kernel_rfl) ?_
  refine Z2 (ZD 5 10 false rfl (by kernel_rfl) rfl (by kernel_rfl)) (d := 12) (v := (.int .i64 (a))) rfl (Z8 rfl (by kernel_rfl) (H8.cell 1 rfl rfl)) ?_
  refine Z2 (ZD 5 10 false rfl (by kernel_rfl) rfl (by kernel_rfl)) (d := 13) (v := (.pointer (some ⟨b6, 0, none⟩))) rfl (by kernel_rfl) ?_
  refine Z2 (ZD 5 10 false rfl (by kernel_rfl) rfl (by kernel_rfl)) (d := 14) (v := (.int .i64 (c))) rfl (Z8 rfl (by kernel_rfl) (H8.cell 2 rfl rfl)) ?_
  refine Z2 (ZD 5 10 false rfl (by kernel_rfl) rfl (by kernel_rfl)) (d := 15) (v := (.bool (decide (a = c)))) rfl (by kernel_rfl) ?_
  refine Z2 (ZD 5 10 false rfl (by kernel_rfl) rfl (by kernel_rfl)) (d := 16) (v := (.bool (decide (a = c)))) rfl (by kernel_rfl) ?_
  refine (Zr (decide (a = c))).elim (fun b14 => ?_) (fun b14 => ?_)
  ·have g15 := of_decide_eq_true b14
   refine ZJ 16 (.bool true) (congrArg Value.bool b14) ?_
   have g16 := of_decide_eq_true b14
   refine Z2 (ZD 11 16 true rfl (by kernel_rfl) rfl (by kernel_rfl)) (d := 17) (v := (.pointer (some ⟨b2, 1, none⟩))) rfl (by kernel_rfl) ?_
   refine Z2 (ZD 11 16 true rfl (by kernel_rfl) rfl (by kernel_rfl)) (d := 18) (v := (.int .i64 (b))) rfl (Z8 rfl (by kernel_rfl) (H8.cell 1 rfl rfl)) ?_
   refine Z2 (ZD 11 16 true rfl (by kernel_rfl) rfl (by kernel_rfl)) (d := 19) (v := (.pointer (some ⟨b6, 1, none⟩))) rfl (by kernel_rfl) ?_
   refine Z2 (ZD 11 16 true rfl (by kernel_rfl) rfl (by kernel_rfl)) (d := 20) (v := (.int .i64 (d))) rfl (Z8 rfl (by kernel_rfl) (H8.cell 2 rfl rfl)) ?_
   refine Z2 (ZD 11 16 true rfl (by kernel_rfl) rfl (by kernel_rfl)) (d := 21) (v := (.bool (decide (b < d)))) rfl (by kernel_rfl) ?_
   refine Z2 (ZD 5 10 false rfl (by kernel_rfl) rfl (by kernel_rfl)) (d := 22) (v := (.bool (decide (b < d)))) rfl (by kernel_rfl) ?_
   refine Z2 (Z1 rfl) (d := 23) (v := (.bool (decide (b < d)))) rfl (by kernel_rfl) ?_
   refine Z2 (Z1 rfl) (d := 4) (v := (.bool (decide (b < d)))) rfl (by kernel_rfl) ?_
   refine Zn ?_
   refine Z4 ?_
   refine ZI ?_
   refine Z2e rfl (ZT (v := (.bool (decide (b < d)))) rfl) ?_
   exact ⟨by simp [b9, b14], H8.upd 0 rfl [] (fun _ h => h.elim)⟩
  ·have g17 := of_decide_eq_false b14
   refine ZJ 16 (.bool false) (congrArg Value.bool b14) ?_
   have g18 := of_decide_eq_false b14
   refine Z0p (Z0i 11 16 true rfl (by kernel_rfl) rfl (by kernel_rfl)) rfl ?_
   refine Z0p (Z0i 11 16 true rfl (by kernel_rfl) rfl (by kernel_rfl)) rfl ?_
   refine Z0p (Z0i 11 16 true rfl (by kernel_rfl) rfl (by kernel_rfl)) rfl ?_
   refine Z0p (Z0i 11 16 true rfl (by kernel_rfl) rfl (by kernel_rfl)) rfl ?_
   refine Z0p (Z0i 11 16 true rfl (by kernel_rfl) rfl (by kernel_rfl)) rfl ?_
   refine Z2 (ZD 5 10 false rfl (by kernel_rfl) rfl (by kernel_rfl)) (d := 22) (v := (.bool false)) rfl (by kernel_rfl) ?_
   refine Z2 (Z1 rfl) (d := 23) (v := (.bool false)) rfl (by kernel_rfl) ?_
   refine Z2 (Z1 rfl) (d := 4) (v := (.bool false)) rfl (by kernel_rfl) ?_
   refine Zn ?_
   refine Z4 ?_
   refine ZI ?_
   refine Z2e rfl (ZT (v := (.bool false)) rfl) ?_
   exact ⟨by simp [b9, b14], H8.upd 0 rfl [] (fun _ h => h.elim)⟩
def ZY (L : List Ck) : Ck where
 fp b := ∃ A ∈ L, A.fp b
 ok w := ∀ A ∈ L, A.ok w
 stay {w w'} h hb A hA := A.stay (h A hA) fun b hf => hb b ⟨A, hA, hf⟩
 lt {w} h b hb := by obtain ⟨A, hA, hf⟩ := hb; exact A.lt (h A hA) b hf
section
variable {w0 w : World} {A : Ck} {L R G : List Ck}
theorem Sat.bag0 (H : Sat w0 G w) : Sat w0 (G ++ [ZY []]) w :=
 H.add (Ext.refl w) (fun _ _ => rfl) (fun A hA => by simp at hA) (fun b hb => by obtain ⟨A, hA, _⟩ := hb; simp at hA)
theorem Sat.bag (H : Sat w0 (ZY L :: A :: R) w) : Sat w0 (ZY (A :: L) :: R) w := by
 have h1 := List.pairwise_cons.1 H.dis
 have h2 := List.pairwise_cons.1 h1.2
 refine ⟨H.ext, fun C hC => ?_, List.pairwise_cons.2 ⟨fun C hC b hb hc => ?_, h2.2⟩⟩
 ·rcases List.mem_cons.1 hC with rfl | hC
  ·intro B hB
   rcases List.mem_cons.1 hB with rfl | hB
   ·exact H.all _ (by simp)
   ·exact (show (ZY L).ok w from H.all _ (by simp)) B hB
  ·exact H.all _ (by simp [hC])
 ·obtain ⟨B, hB, hf⟩ := hb
  rcases List.mem_cons.1 hB with rfl | hB
  ·exact h2.1 C hC b hf hc
  ·exact h1.1 C (by simp [hC]) b ⟨B, hB, hf⟩ hc
end
def stC (c : CeR) : Ck := Zk 101 38 (.slice c.sa c.S.length c.sc) c.S.length (c.S.flatMap Z0q)
def ceC (p : PrR) : Ck := Zk 53 38 (.slice p.ca p.C.length p.cc) p.C.length (p.C.flatMap Z03)
def PIn (L : List Ck) (p : PrR) : Prop := ceC p ∈ L ∧ ∀ c ∈ p.C, stC c ∈ L
section
variable {L : List Ck} {A : Ck} {p : PrR} {x : CeR} {C : List CeR} {D : List PrR} {w : World} {a b : Int} {S : List Za}
theorem PIn.ok (h : PIn L p) (hb : (ZY L).ok w) : PrOk w p :=
 ⟨ListAt.row Z0l (by decide) (hb _ h.1), fun c hc => ListAt.row Z1y (by decide) (hb _ (h.2 c hc))⟩
theorem PIn.more (h : PIn L p) : PIn (A :: L) p := ⟨List.mem_cons_of_mem _ h.1, fun c hc => List.mem_cons_of_mem _ (h.2 c hc)⟩
theorem Zcx (h : ∀ c ∈ C, stC c ∈ L) : ∀ c ∈ C ++ [x], stC c ∈ stC x :: L := fun c hc => by
 rcases List.mem_append.1 hc with hc | hc
 ·exact List.mem_cons_of_mem _ (h c hc)
 ·rw [List.mem_singleton.1 hc]; exact List.mem_cons_self
theorem Z21 {c : CeR} (h : (ZY L).ok w) (hm : stC c ∈ L) : ListAt Z0q 38 w (.slice c.sa c.S.length c.sc) c.S := ListAt.row Z1y (by decide) (h _ hm)
end
def Z8c : Go.Shelf.Ren := ⟨fun | 41 => 94 | n => n, fun | 22 => 51 | 23 => 101 | 4 => 4 | n => n, fun | n => n⟩
theorem Za4 : Go.Proofs.SlLaysE0.n41 Tryz.prog Z8c := {
 mixed := by kernel_rfl,
 f41 := ⟨Tryz.f94.name, by decide, Tryz.func94.trans (congrArg some (by kernel_rfl))⟩,
 t4 := Tryz.underlying4,
 a4 := Tryz.isAgg4,
 z4 := Tryz.sizeOf4,
 v4 := Tryz.zeroValue4,
 t22 := Tryz.underlying51,
 a22 := Tryz.isAgg51,
 z22 := Tryz.sizeOf51,
 v22 := Tryz.zeroValue51 }
theorem Z9r (w : World) (v : Value) (s : List Za) (hs : (Zk 101 38 v s.length (s.flatMap Z0q)).ok w) (hl : s.length ≤ 1000) : Calls Tryz.prog 94 #[v] w fun e w' => ∃ u, e = .returned u ∧ (Zk 101 38 u s.length (s.flatMap Z0q)).ok w' ∧ Upd [] w w' ∧ ∀ b, (Zk 101 38 u s.length (s.flatMap Z0q)).fp b → w.heap.size ≤ b := by
 have hfl : (s.flatMap Z0q).length = s.length * 38 := Z1K Z0q 38 Z1y s
 obtain ⟨i, z, _, h1, h2, h3, h4, h5, h6⟩ := Z3Z (P := Tryz.prog) (T := 51) (e := 101) (size := 38) (bytes := 80) (by kernel_rfl)
 have hs' := hs
 rcases hs.2 with ⟨rfl, h0⟩ | ⟨g, c, cur, rfl, _⟩
 ·obtain rfl := List.eq_nil_of_length_eq_zero h0
  exact (AnyE.slices_Clone_nil (P := Tryz.prog) Za4 0 0 w).mono fun e w' ⟨he, hw⟩ => ⟨_, he, World.ownsRow_nil _ 0 _ _, hw ▸ Upd.refl _ _, fun b hb => by simp [Zk, Value.ownBlock] at hb⟩
 ·refine (AnyE.slices_Clone (P := Tryz.prog) Za4 i z 38 80 h1 h2 h3 h4 h5 h6 Tryz.sizeOf101 g 0 s.length c (s.flatMap Z0q) w hfl (by unfold maxLen; omega) (by omega) (fun j u hu => by rw [Nat.zero_add]; exact Z40 hs' rfl hu) (fun u hu => List.all_eq_true.1 (Z0Q Z0q Z4q s) u hu)).mono fun e w' ⟨v', he, hr, _, hb⟩ => ⟨v', he, ?_, Below.upd hb, ?_⟩
  ·refine ⟨hr.1, ?_⟩
   rcases hr.2 with h | ⟨g', cap, cur', e1, _, r⟩
   ·exact .inl h
   ·exact .inr ⟨g', cap, cur', e1, Nat.zero_le _, r⟩
  ·intro b hb2
   rcases hr.2 with ⟨rfl, _⟩ | ⟨g', cap, cur', rfl, hge, _⟩
   ·simp [Zk, Value.ownBlock] at hb2
   ·simp only [Zk, Value.ownBlock, Option.some.injEq] at hb2; omega
abbrev Z8Z (p0 : Int) (p1 : Int) : List Value := ([(.int .i64 p0), (.int .i64 p1)] : List Value)
abbrev Z6x (p0 : Za) : List Value := ([(.int .i64 p0.r), (.int .i64 p0.cl), (.int .i64 p0.seq)] : List Value) ++ hc p0.h ++ ([(.int .u64 p0.t), (.int .i64 p0.sb), (.int .i64 p0.sm)] : List Value)
abbrev Zcc : List Value := ([(.int .u8 (115)), (.int .u8 (116)), (.int .u8 (97)), (.int .u8 (109)), (.int .u8 (112))] : List Value)
abbrev Zcd (p0 : Zg) : List Value := ([(.int .i64 p0.cl), (.int .i64 p0.seq)] : List Value) ++ hc p0.h ++ ([(.int .i64 p0.len), (.int .i64 p0.sb), (.int .i64 p0.sm)] : List Value)
abbrev Zce : List Value := ([(.int .u8 (114)), (.int .u8 (101)), (.int .u8 (113)), (.int .u8 (117)), (.int .u8 (101)), (.int .u8 (115)), (.int .u8 (116))] : List Value)
theorem Z5P (w : World) (a b : Int) (hs : a ≤ 9223372036854775807 ∧ b ≤ 9223372036854775807) :
  Calls Tryz.prog 77 #[(.agg ⟨([(.int .i64 (a)), (.int .i64 (b))] : List Value)⟩)] w fun e w' => ∃ u, e = .returned u ∧ (Zk 5 1 u (Z00 a b).length ((Z00 a b).flatMap ZE)).ok w' ∧ Upd [] w w' ∧ ∀ q_, (Zk 5 1 u (Z00 a b).length ((Z00 a b).flatMap ZE)).fp q_ → w.heap.size ≤ q_ := by
 have H := Sat.start0 w
 refine Zh Tryz.func77 rfl 11 rfl (Nat.le_of_ble_eq_true rfl) ?_
 apply zsl
 refine zwd fun Kq kq => ?_
 refine zdb (Z8Z a b) H ?_
 intro b2 w3 H4
 refine kq _ _ ?_
 clear kq Kq
 refine wv 2 (.slice none 0 0) ?_
 apply znt
 apply Zd
 refine Z08 H4 [Z7 w (fun _ => False), Z0 b2 24 (Z8Z a b)] 9 rfl (by kernel_rfl) (fun Hx => (Hx.pk [0, 1])) ?_
 intro w5 H6 S7
 refine hv0 0 S7 3 (pt b2 0) ?_
 refine hv0 1 S7 4 (.int .i64 (a)) ?_ (he := fun _ H' => (Z8 rfl (by kernel_rfl) (H'.cell 1 rfl rfl)))
 refine hv0 3 S7 6 (pt b2 1) ?_
 refine hv0 4 S7 7 (.int .i64 (b)) ?_ (he := fun _ H' => (Z8 rfl (by kernel_rfl) (H'.cell 1 rfl rfl)))
 refine Z0j 2 fun Kq kq => ?_
 refine zdc 5 (Z17 w5 a (by omega)) ?_
 rintro _ w9 ⟨u10, rfl, k11, p12, q13⟩
 have H14 := H6.addU p12 k11 q13
 obtain ⟨a15, c16, rfl⟩ := Z6 (H14.at 2 rfl)
 refine ⟨_, rfl, ?_⟩
 have S17 := H14.pk [0, 1]
 refine kq _ _ S17 ?_
 clear kq Kq
 refine Z0j 5 fun Kq kq => ?_
 refine zdc 8 (Z17 w9 b (by omega)) ?_
 rintro _ w19 ⟨u20, rfl, k21, p22, q23⟩
 have H24 := H14.addU p22 k21 q23
 obtain ⟨a25, c26, rfl⟩ := Z6 (H24.at 3 rfl)
 refine ⟨_, rfl, ?_⟩
 have S27 := H24.pk [0, 1]
 refine kq _ _ S27 ?_
 clear kq Kq
 refine Z0j 6 fun Kq kq => ?_
 refine Z45 62 1 24 (.slice none 0 0) [(0, (.slice a15 ((Zf a).length) c16)), (1, (.slice a25 ((Zf b).length) c26))] ([(.slice a15 ((Zf a).length) c16), (.slice a25 ((Zf b).length) c26)] : List Value) H24 ?_
 intro b29 w30 H31
 have S32 := H31.pk [0, 1]
 refine kq _ _ S32 ?_
 clear kq Kq
 refine Z0j 7 fun Kq kq => ?_
 have l34 := ZO a
 have l35 := ZO b
 refine zdc 10 (Z1f w30 (.slice (some ⟨b29, 0, none⟩) 2 2) [(.slice a15 ((Zf a).length) c16), (.slice a25 ((Zf b).length) c26)] [(Zf a), (Zf b)] (ListAt.row (enc := Z8f) (sz := 1) (xs := [(.slice a15 ((Zf a).length) c16), (.slice a25 ((Zf b).length) c26)]) Z1I (by decide) (H31.at 4 rfl)) (Parts.cons (ListAt.row (enc := ZE) (sz := 1) ZR (by decide) (H31.at 2 rfl)) (Parts.cons (ListAt.row (enc := ZE) (sz := 1) ZR (by decide) (H31.at 3 rfl)) Parts.nil)) (by simp only [List.flatten_cons, List.flatten_nil, List.length_append, List.length_nil]; omega) (by simp)) ?_
 rintro _ w36 ⟨u37, rfl, k38, p39, q40⟩
 have H41 := H31.addU p39 k38 q40
 obtain ⟨a42, c43, rfl⟩ := Z6 (H41.at 5 rfl)
 refine ⟨_, rfl, ?_⟩
 have S44 := H41.pk [0, 1]
 refine kq _ _ S44 ?_
 clear kq Kq
 refine hv0 8 S44 2 (.slice a42 (([(Zf a), (Zf b)].flatten).length) c43) ?_
 refine zhf ?_
 apply ztn
 apply ZI
 refine ze1 (.slice a42 (([(Zf a), (Zf b)].flatten).length) c43) ?_
 have hX : ([(Zf a), (Zf b)].flatten) = Z00 a b := by rfl
 exact ⟨_, rfl, (by rw [← hX]; exact H41.at 5 rfl), H41.upd 0 rfl [] (fun _ h => h.elim), (by rw [← hX]; exact H41.fresh 0 rfl (fun _ h => h) 5 rfl rfl)⟩
theorem Z7P (w : World) (s : Za) (hs : (s.r ≤ 9223372036854775807 ∧ s.cl ≤ 9223372036854775807 ∧ s.seq ≤ 9223372036854775807 ∧ 0 ≤ s.t ∧ s.t < 18446744073709551616)) :
  Calls Tryz.prog 95 #[(.agg ⟨(([(.int .i64 (s.r)), (.int .i64 (s.cl)), (.int .i64 (s.seq))] : List Value) ++ hc s.h ++ ([(.int .u64 (s.t)), (.int .i64 (s.sb)), (.int .i64 (s.sm))] : List Value))⟩)] w fun e w' => ∃ u, e = .returned u ∧ (Zk 5 1 u (Z12 s).length ((Z12 s).flatMap ZE)).ok w' ∧ Upd [] w w' ∧ ∀ q_, (Zk 5 1 u (Z12 s).length ((Z12 s).flatMap ZE)).fp q_ → w.heap.size ≤ q_ := by
 have H := Sat.start0 w
 refine Zh Tryz.func95 rfl 16 rfl (Nat.le_of_ble_eq_true rfl) ?_
 apply zsl
 refine zwd fun Kq kq => ?_
 refine zdb (Z6x s) H ?_
 intro b2 w3 H4
 refine kq _ _ ?_
 clear kq Kq
 refine wv 2 (.slice none 0 0) ?_
 apply znt
 apply Zd
 refine Z08 H4 [Z7 w (fun _ => False), Z0 b2 101 (Z6x s)] 14 rfl (by kernel_rfl) (fun Hx => (Hx.pk [0, 1])) ?_
 intro w5 H6 S7
 refine hv0 0 S7 3 (pt b2 0) ?_
 refine hv0 1 S7 4 (.int .i64 (s.r)) ?_ (he := fun _ H' => (Z8 rfl (by kernel_rfl) (H'.cell 1 rfl (by kernel_rfl))))
 refine hv0 3 S7 6 (pt b2 1) ?_
 refine hv0 4 S7 7 (.agg ⟨(Z8Z s.cl s.seq)⟩) ?_ (he := fun _ H' => (Zi (vs := (Z8Z s.cl s.seq)) rfl (by kernel_rfl) (by kernel_rfl) (by exact Nat.le_of_ble_eq_true (by kernel_rfl)) (H'.at 1 rfl) (by kernel_rfl)))
 refine hv0 6 S7 9 (pt b2 3) ?_
 refine hv0 7 S7 10 (.slice (some ⟨b2, 3, none⟩) 32 32) ?_
 refine hv0 8 S7 11 (pt b2 35) ?_
 refine hv0 9 S7 12 (.int .u64 (s.t)) ?_ (he := fun _ H' => (Z8 rfl (by kernel_rfl) (H'.cell 1 rfl (by kernel_rfl))))
 refine Z0j 2 fun Kq kq => ?_
 refine zdc 5 (Z17 w5 s.r (by omega)) ?_
 rintro _ w9 ⟨u10, rfl, k11, p12, q13⟩
 have H14 := H6.addU p12 k11 q13
 obtain ⟨a15, c16, rfl⟩ := Z6 (H14.at 2 rfl)
 refine ⟨_, rfl, ?_⟩
 have S17 := H14.pk [0, 1]
 refine kq _ _ S17 ?_
 clear kq Kq
 refine Z0j 5 fun Kq kq => ?_
 refine zdc 8 (Z5P w9 s.cl s.seq (by omega)) ?_
 rintro _ w19 ⟨u20, rfl, k21, p22, q23⟩
 have H24 := H14.addU p22 k21 q23
 obtain ⟨a25, c26, rfl⟩ := Z6 (H24.at 3 rfl)
 refine ⟨_, rfl, ?_⟩
 have S27 := H24.pk [0, 1]
 refine kq _ _ S27 ?_
 clear kq Kq
 refine Z0j 10 fun Kq kq => ?_
 refine Z0g (d := 13) rfl (by rw [show s.t = ((s.t.toNat : Nat) : Int) by omega]; kernel_rfl) (Z5q w19 s.t.toNat (by omega)) ?_
 rintro _ w29 ⟨u30, rfl, k31, p32, q33⟩
 have H34 := H24.addU p32 k31 q33
 obtain ⟨a35, c36, rfl⟩ := Z6 (H34.at 4 rfl)
 refine ⟨_, rfl, ?_⟩
 have S37 := H34.pk [0, 1]
 refine kq _ _ S37 ?_
 clear kq Kq
 refine Z0j 11 fun Kq kq => ?_
 refine Z45 62 1 24 (.slice none 0 0) [(0, (.slice a15 ((Zf s.r).length) c16)), (1, (.slice a25 ((Z00 s.cl s.seq).length) c26)), (2, (.slice (some ⟨b2, 3, none⟩) 32 32)), (3, (.slice a35 ((Z0H s.t.toNat).length) c36))] ([(.slice a15 ((Zf s.r).length) c16), (.slice a25 ((Z00 s.cl s.seq).length) c26), (.slice (some ⟨b2, 3, none⟩) 32 32), (.slice a35 ((Z0H s.t.toNat).length) c36)] : List Value) H34 ?_
 intro b39 w40 H41
 have S42 := H41.pk [0, 1]
 refine kq _ _ S42 ?_
 clear kq Kq
 refine Z0j 12 fun Kq kq => ?_
 have l44 := ZO s.r
 have l45 := Z27 s.cl s.seq
 have l46 := s.h.len
 have l47 := Z2b s.t.toNat
 refine zdc 15 (Z1f w40 (.slice (some ⟨b39, 0, none⟩) 4 4) [(.slice a15 ((Zf s.r).length) c16), (.slice a25 ((Z00 s.cl s.seq).length) c26), (.slice (some ⟨b2, 3, none⟩) 32 32), (.slice a35 ((Z0H s.t.toNat).length) c36)] [(Zf s.r), (Z00 s.cl s.seq), s.h.l, (Z0H s.t.toNat)] (ListAt.row (enc := Z8f) (sz := 1) (xs := [(.slice a15 ((Zf s.r).length) c16), (.slice a25 ((Z00 s.cl s.seq).length) c26), (.slice (some ⟨b2, 3, none⟩) 32 32), (.slice a35 ((Z0H s.t.toNat).length) c36)]) Z1I (by decide) (H41.at 5 rfl)) (Parts.cons (ListAt.row (enc := ZE) (sz := 1) ZR (by decide) (H41.at 2 rfl)) (Parts.cons (ListAt.row (enc := ZE) (sz := 1) ZR (by decide) (H41.at 3 rfl)) (Parts.cons (ListAt.ofHash (Z33 (H41.at 1 rfl) (by kernel_rfl)) (by decide)) (Parts.cons (ListAt.row (enc := ZE) (sz := 1) ZR (by decide) (H41.at 4 rfl)) Parts.nil)))) (by simp only [List.flatten_cons, List.flatten_nil, List.length_append, List.length_nil]; omega) (by simp)) ?_
 rintro _ w48 ⟨u49, rfl, k50, p51, q52⟩
 have H53 := H41.addU p51 k50 q52
 obtain ⟨a54, c55, rfl⟩ := Z6 (H53.at 6 rfl)
 refine ⟨_, rfl, ?_⟩
 have S56 := H53.pk [0, 1]
 refine kq _ _ S56 ?_
 clear kq Kq
 refine hv0 13 S56 2 (.slice a54 (([(Zf s.r), (Z00 s.cl s.seq), s.h.l, (Z0H s.t.toNat)].flatten).length) c55) ?_
 refine zhf ?_
 apply ztn
 apply ZI
 refine ze1 (.slice a54 (([(Zf s.r), (Z00 s.cl s.seq), s.h.l, (Z0H s.t.toNat)].flatten).length) c55) ?_
 have hX : ([(Zf s.r), (Z00 s.cl s.seq), s.h.l, (Z0H s.t.toNat)].flatten) = Z12 s := by rfl
 exact ⟨_, rfl, (by rw [← hX]; exact H53.at 6 rfl), H53.upd 0 rfl [] (fun _ h => h.elim), (by rw [← hX]; exact H53.fresh 0 rfl (fun _ h => h) 6 rfl rfl)⟩
theorem Z31 (w : World) (s : Za) (hs : (s.r ≤ 9223372036854775807 ∧ s.cl ≤ 9223372036854775807 ∧ s.seq ≤ 9223372036854775807 ∧ 0 ≤ s.t ∧ s.t < 18446744073709551616)) :
  Calls Tryz.prog 59 #[(.agg ⟨(([(.int .i64 (s.r)), (.int .i64 (s.cl)), (.int .i64 (s.seq))] : List Value) ++ hc s.h ++ ([(.int .u64 (s.t)), (.int .i64 (s.sb)), (.int .i64 (s.sm))] : List Value))⟩)] w fun e w' => ∃ u, e = .returned u ∧ (Zk 5 1 u (ZH s).length ((ZH s).flatMap ZE)).ok w' ∧ Upd [] w w' ∧ ∀ q_, (Zk 5 1 u (ZH s).length ((ZH s).flatMap ZE)).fp q_ → w.heap.size ≤ q_ := by
 have H := Sat.start0 w
 refine Zh Tryz.func59 rfl 10 rfl (Nat.le_of_ble_eq_true rfl) ?_
 apply zsl
 refine zwd fun Kq kq => ?_
 refine zdb (Z6x s) H ?_
 intro b2 w3 H4
 refine kq _ _ ?_
 clear kq Kq
 refine wv 2 (.slice none 0 0) ?_
 apply znt
 apply Zd
 refine Z08 H4 [Z7 w (fun _ => False), Z0 b2 101 (Z6x s)] 8 rfl (by kernel_rfl) (fun Hx => (Hx.pk [0, 1])) ?_
 intro w5 H6 S7
 refine hv0 3 S7 6 (.agg ⟨(Z6x s)⟩) ?_ (he := fun _ H' => (Zi (vs := (Z6x s)) rfl (by kernel_rfl) (by kernel_rfl) (by exact Nat.le_of_ble_eq_true (by kernel_rfl)) (H'.at 1 rfl) (by kernel_rfl)))
 refine Z0j 0 fun Kq kq => ?_
 refine Z45 5 1 1 (.int .u8 (0)) [(0, (.int .u8 (115))), (1, (.int .u8 (116))), (2, (.int .u8 (97))), (3, (.int .u8 (109))), (4, (.int .u8 (112)))] (Zcc) H6 ?_
 intro b9 w10 H11
 have H12 := H11.ct 2 rfl (Zk 5 1 (.slice (some ⟨b9, 0, none⟩) 5 5) 5 ([115, 116, 97, 109, 112].flatMap ZE)) (by rw [show ((Zcc) : List Value) = [115, 116, 97, 109, 112].flatMap ZE from rfl])
 have S13 := H12.pk [0, 1]
 refine kq _ _ S13 ?_
 clear kq Kq
 refine Z0j 1 fun Kq kq => ?_
 refine Z22 (e := 5) (s := [115, 116, 97, 109, 112]) rfl H12 2 rfl (by kernel_rfl) (by kernel_rfl) rfl ?_
 intro w15 H16
 have S17 := H16.pk [0, 1]
 refine kq _ _ S17 ?_
 clear kq Kq
 refine Z0j 2 fun Kq kq => ?_
 refine zdc 5 (Z3Y w15 (.slice (some ⟨b9, 0, none⟩) 5 5) ([115, 116, 97, 109, 112]) (ListAt.ofTxt (H16.at 2 rfl)) (by simp)) ?_
 rintro _ w19 ⟨u20, rfl, k21, p22, q23⟩
 have H24 := H16.addU p22 k21 q23
 obtain ⟨a25, c26, rfl⟩ := Z6 (H24.at 3 rfl)
 refine ⟨_, rfl, ?_⟩
 have S27 := H24.pk [0, 1]
 refine kq _ _ S27 ?_
 clear kq Kq
 refine Z0j 4 fun Kq kq => ?_
 refine zdc 7 (Z7P w19 s hs) ?_
 rintro _ w29 ⟨u30, rfl, k31, p32, q33⟩
 have H34 := H24.addU p32 k31 q33
 obtain ⟨a35, c36, rfl⟩ := Z6 (H34.at 4 rfl)
 refine ⟨_, rfl, ?_⟩
 have S37 := H34.pk [0, 1]
 refine kq _ _ S37 ?_
 clear kq Kq
 refine Z0j 5 fun Kq kq => ?_
 refine Z45 62 1 24 (.slice none 0 0) [(0, (.slice a25 ((ZK ([115, 116, 97, 109, 112])).length) c26)), (1, (.slice a35 ((Z12 s).length) c36))] ([(.slice a25 ((ZK ([115, 116, 97, 109, 112])).length) c26), (.slice a35 ((Z12 s).length) c36)] : List Value) H34 ?_
 intro b39 w40 H41
 have S42 := H41.pk [0, 1]
 refine kq _ _ S42 ?_
 clear kq Kq
 refine Z0j 6 fun Kq kq => ?_
 have l44 := Z18 ([115, 116, 97, 109, 112])
 simp only [List.length_cons, List.length_nil] at l44
 have l45 := Z3u s
 refine zdc 9 (Z1f w40 (.slice (some ⟨b39, 0, none⟩) 2 2) [(.slice a25 ((ZK ([115, 116, 97, 109, 112])).length) c26), (.slice a35 ((Z12 s).length) c36)] [(ZK ([115, 116, 97, 109, 112])), (Z12 s)] (ListAt.row (enc := Z8f) (sz := 1) (xs := [(.slice a25 ((ZK ([115, 116, 97, 109, 112])).length) c26), (.slice a35 ((Z12 s).length) c36)]) Z1I (by decide) (H41.at 5 rfl)) (Parts.cons (ListAt.row (enc := ZE) (sz := 1) ZR (by decide) (H41.at 3 rfl)) (Parts.cons (ListAt.row (enc := ZE) (sz := 1) ZR (by decide) (H41.at 4 rfl)) Parts.nil)) (by simp only [List.flatten_cons, List.flatten_nil, List.length_append, List.length_nil]; omega) (by simp)) ?_
 rintro _ w46 ⟨u47, rfl, k48, p49, q50⟩
 have H51 := H41.addU p49 k48 q50
 obtain ⟨a52, c53, rfl⟩ := Z6 (H51.at 6 rfl)
 refine ⟨_, rfl, ?_⟩
 have S54 := H51.pk [0, 1]
 refine kq _ _ S54 ?_
 clear kq Kq
 refine hv0 7 S54 2 (.slice a52 (([(ZK ([115, 116, 97, 109, 112])), (Z12 s)].flatten).length) c53) ?_
 refine zhf ?_
 apply ztn
 apply ZI
 refine ze1 (.slice a52 (([(ZK ([115, 116, 97, 109, 112])), (Z12 s)].flatten).length) c53) ?_
 have hX : ([(ZK ([115, 116, 97, 109, 112])), (Z12 s)].flatten) = ZH s := by rfl
 exact ⟨_, rfl, (by rw [← hX]; exact H51.at 6 rfl), H51.upd 0 rfl [] (fun _ h => h.elim), (by rw [← hX]; exact H51.fresh 0 rfl (fun _ h => h) 6 rfl rfl)⟩
theorem Z28 (w : World) (s : Zg) (hs : (s.cl ≤ 9223372036854775807 ∧ s.seq ≤ 9223372036854775807 ∧ s.len ≤ 9223372036854775807)) :
  Calls Tryz.prog 40 #[(.agg ⟨(([(.int .i64 (s.cl)), (.int .i64 (s.seq))] : List Value) ++ hc s.h ++ ([(.int .i64 (s.len)), (.int .i64 (s.sb)), (.int .i64 (s.sm))] : List Value))⟩)] w fun e w' => ∃ u, e = .returned u ∧ (Zk 5 1 u (Zy s).length ((Zy s).flatMap ZE)).ok w' ∧ Upd [] w w' ∧ ∀ q_, (Zk 5 1 u (Zy s).length ((Zy s).flatMap ZE)).fp q_ → w.heap.size ≤ q_ := by
 have H := Sat.start0 w
 refine Zh Tryz.func40 rfl 21 rfl (Nat.le_of_ble_eq_true rfl) ?_
 apply zsl
 refine zwd fun Kq kq => ?_
 refine zdb (Zcd s) H ?_
 intro b2 w3 H4
 refine kq _ _ ?_
 clear kq Kq
 refine wv 2 (.slice none 0 0) ?_
 apply znt
 apply Zd
 refine Z08 H4 [Z7 w (fun _ => False), Z0 b2 50 (Zcd s)] 19 rfl (by kernel_rfl) (fun Hx => (Hx.pk [0, 1])) ?_
 intro w5 H6 S7
 refine hv0 3 S7 6 (pt b2 0) ?_
 refine hv0 4 S7 7 (pt b2 0) ?_
 refine hv0 5 S7 8 (.int .i64 (s.cl)) ?_ (he := fun _ H' => (Z8 rfl (by kernel_rfl) (H'.cell 1 rfl (by kernel_rfl))))
 refine hv0 7 S7 10 (pt b2 0) ?_
 refine hv0 8 S7 11 (pt b2 1) ?_
 refine hv0 9 S7 12 (.int .i64 (s.seq)) ?_ (he := fun _ H' => (Z8 rfl (by kernel_rfl) (H'.cell 1 rfl (by kernel_rfl))))
 refine hv0 11 S7 14 (pt b2 2) ?_
 refine hv0 12 S7 15 (.slice (some ⟨b2, 2, none⟩) 32 32) ?_
 refine hv0 13 S7 16 (pt b2 34) ?_
 refine hv0 14 S7 17 (.int .i64 (s.len)) ?_ (he := fun _ H' => (Z8 rfl (by kernel_rfl) (H'.cell 1 rfl (by kernel_rfl))))
 refine Z0j 0 fun Kq kq => ?_
 refine Z45 5 1 1 (.int .u8 (0)) [(0, (.int .u8 (114))), (1, (.int .u8 (101))), (2, (.int .u8 (113))), (3, (.int .u8 (117))), (4, (.int .u8 (101))), (5, (.int .u8 (115))), (6, (.int .u8 (116)))] (Zce) H6 ?_
 intro b9 w10 H11
 have H12 := H11.ct 2 rfl (Zk 5 1 (.slice (some ⟨b9, 0, none⟩) 7 7) 7 ([114, 101, 113, 117, 101, 115, 116].flatMap ZE)) (by rw [show ((Zce) : List Value) = [114, 101, 113, 117, 101, 115, 116].flatMap ZE from rfl])
 have S13 := H12.pk [0, 1]
 refine kq _ _ S13 ?_
 clear kq Kq
 refine Z0j 1 fun Kq kq => ?_
 refine Z22 (e := 5) (s := [114, 101, 113, 117, 101, 115, 116]) rfl H12 2 rfl (by kernel_rfl) (by kernel_rfl) rfl ?_
 intro w15 H16
 have S17 := H16.pk [0, 1]
 refine kq _ _ S17 ?_
 clear kq Kq
 refine Z0j 2 fun Kq kq => ?_
 refine zdc 5 (Z3Y w15 (.slice (some ⟨b9, 0, none⟩) 7 7) ([114, 101, 113, 117, 101, 115, 116]) (ListAt.ofTxt (H16.at 2 rfl)) (by simp)) ?_
 rintro _ w19 ⟨u20, rfl, k21, p22, q23⟩
 have H24 := H16.addU p22 k21 q23
 obtain ⟨a25, c26, rfl⟩ := Z6 (H24.at 3 rfl)
 refine ⟨_, rfl, ?_⟩
 have S27 := H24.pk [0, 1]
 refine kq _ _ S27 ?_
 clear kq Kq
 refine Z0j 6 fun Kq kq => ?_
 refine zdc 9 (Z17 w19 s.cl (by omega)) ?_
 rintro _ w29 ⟨u30, rfl, k31, p32, q33⟩
 have H34 := H24.addU p32 k31 q33
 obtain ⟨a35, c36, rfl⟩ := Z6 (H34.at 4 rfl)
 refine ⟨_, rfl, ?_⟩
 have S37 := H34.pk [0, 1]
 refine kq _ _ S37 ?_
 clear kq Kq
 refine Z0j 10 fun Kq kq => ?_
 refine zdc 13 (Z17 w29 s.seq (by omega)) ?_
 rintro _ w39 ⟨u40, rfl, k41, p42, q43⟩
 have H44 := H34.addU p42 k41 q43
 obtain ⟨a45, c46, rfl⟩ := Z6 (H44.at 5 rfl)
 refine ⟨_, rfl, ?_⟩
 have S47 := H44.pk [0, 1]
 refine kq _ _ S47 ?_
 clear kq Kq
 refine Z0j 15 fun Kq kq => ?_
 refine zdc 18 (Z17 w39 s.len (by omega)) ?_
 rintro _ w49 ⟨u50, rfl, k51, p52, q53⟩
 have H54 := H44.addU p52 k51 q53
 obtain ⟨a55, c56, rfl⟩ := Z6 (H54.at 6 rfl)
 refine ⟨_, rfl, ?_⟩
 have S57 := H54.pk [0, 1]
 refine kq _ _ S57 ?_
 clear kq Kq
 refine Z0j 16 fun Kq kq => ?_
 refine Z45 62 1 24 (.slice none 0 0) [(0, (.slice a25 ((ZK ([114, 101, 113, 117, 101, 115, 116])).length) c26)), (1, (.slice a35 ((Zf s.cl).length) c36)), (2, (.slice a45 ((Zf s.seq).length) c46)), (3, (.slice (some ⟨b2, 2, none⟩) 32 32)), (4, (.slice a55 ((Zf s.len).length) c56))] ([(.slice a25 ((ZK ([114, 101, 113, 117, 101, 115, 116])).length) c26), (.slice a35 ((Zf s.cl).length) c36), (.slice a45 ((Zf s.seq).length) c46), (.slice (some ⟨b2, 2, none⟩) 32 32), (.slice a55 ((Zf s.len).length) c56)] : List Value) H54 ?_
 intro b59 w60 H61
 have S62 := H61.pk [0, 1]
 refine kq _ _ S62 ?_
 clear kq Kq
 refine Z0j 17 fun Kq kq => ?_
 have l64 := Z18 ([114, 101, 113, 117, 101, 115, 116])
 simp only [List.length_cons, List.length_nil] at l64
 have l65 := ZO s.cl
 have l66 := ZO s.seq
 have l67 := s.h.len
 have l68 := ZO s.len
 refine zdc 20 (Z1f w60 (.slice (some ⟨b59, 0, none⟩) 5 5) [(.slice a25 ((ZK ([114, 101, 113, 117, 101, 115, 116])).length) c26), (.slice a35 ((Zf s.cl).length) c36), (.slice a45 ((Zf s.seq).length) c46), (.slice (some ⟨b2, 2, none⟩) 32 32), (.slice a55 ((Zf s.len).length) c56)] [(ZK ([114, 101, 113, 117, 101, 115, 116])), (Zf s.cl), (Zf s.seq), s.h.l, (Zf s.len)] (ListAt.row (enc := Z8f) (sz := 1) (xs := [(.slice a25 ((ZK ([114, 101, 113, 117, 101, 115, 116])).length) c26), (.slice a35 ((Zf s.cl).length) c36), (.slice a45 ((Zf s.seq).length) c46), (.slice (some ⟨b2, 2, none⟩) 32 32), (.slice a55 ((Zf s.len).length) c56)]) Z1I (by decide) (H61.at 7 rfl)) (Parts.cons (ListAt.row (enc := ZE) (sz := 1) ZR (by decide) (H61.at 3 rfl)) (Parts.cons (ListAt.row (enc := ZE) (sz := 1) ZR (by decide) (H61.at 4 rfl)) (Parts.cons (ListAt.row (enc := ZE) (sz := 1) ZR (by decide) (H61.at 5 rfl)) (Parts.cons (ListAt.ofHash (Z33 (H61.at 1 rfl) (by kernel_rfl)) (by decide)) (Parts.cons (ListAt.row (enc := ZE) (sz := 1) ZR (by decide) (H61.at 6 rfl)) Parts.nil))))) (by simp only [List.flatten_cons, List.flatten_nil, List.length_append, List.length_nil]; omega) (by simp)) ?_
 rintro _ w69 ⟨u70, rfl, k71, p72, q73⟩
 have H74 := H61.addU p72 k71 q73
 obtain ⟨a75, c76, rfl⟩ := Z6 (H74.at 8 rfl)
 refine ⟨_, rfl, ?_⟩
 have S77 := H74.pk [0, 1]
 refine kq _ _ S77 ?_
 clear kq Kq
 refine hv0 18 S77 2 (.slice a75 (([(ZK ([114, 101, 113, 117, 101, 115, 116])), (Zf s.cl), (Zf s.seq), s.h.l, (Zf s.len)].flatten).length) c76) ?_
 refine zhf ?_
 apply ztn
 apply ZI
 refine ze1 (.slice a75 (([(ZK ([114, 101, 113, 117, 101, 115, 116])), (Zf s.cl), (Zf s.seq), s.h.l, (Zf s.len)].flatten).length) c76) ?_
 have hX : ([(ZK ([114, 101, 113, 117, 101, 115, 116])), (Zf s.cl), (Zf s.seq), s.h.l, (Zf s.len)].flatten) = Zy s := by rfl
 exact ⟨_, rfl, (by rw [← hX]; exact H74.at 8 rfl), H74.upd 0 rfl [] (fun _ h => h.elim), (by rw [← hX]; exact H74.fresh 0 rfl (fun _ h => h) 8 rfl rfl)⟩
end Go.Proofs.YtoaifondpohniaaGreat
