/- WHAT IS PROVED: contracts and plain laws of EnA, Bag, CloneS. Conditions: stated with each. -/
import Derived.Shelf.SlicesE.Clone
import Derived.Test.YtoaifondpohniaaGreatPS03
import Derived.Test.YtoaifondpohniaaGreatPS04
import Derived.Test.YtoaifondpohniaaGreatPS06
import Derived.Test.YtoaifondpohniaaGreatPS15
import Derived.Test.YtoaifondpohniaaGreatPS16
set_option maxHeartbeats 4000000
set_option maxRecDepth 100000
namespace Go.Proofs.YtoaifondpohniaaGreat
open Go.RowKit
theorem Z6O (w : World) (a b c d : Int) :
  Calls Tryz.prog 28 #[(.agg ⟨([(.int .i64 (a)), (.int .i64 (b))] : List Value)⟩), (.agg ⟨([(.int .i64 (c)), (.int .i64 (d))] : List Value)⟩)] w fun e w' => e = .returned (.bool (decide (a < c) || (decide (a = c) && decide (b < d)))) ∧ Upd [] w w' := by
 have H := Sat.start0 w
 refine ZE Tryz.func28 rfl 24 rfl (Nat.le_of_ble_eq_true rfl) ?_
 refine Zc ?_
 refine Zp ?_
 refine ZA (Z1 rfl) (fun K1 hK1 => ?_)
 refine Z0H (vs := ([(.int .i64 (a)), (.int .i64 (b))] : List Value)) rfl H rfl rfl ?_
 intro b2 w3 (H4 : Sat w [Z6 w (fun _ => False), Z3 b2 24 ([(.int .i64 (a)), (.int .i64 (b))] : List Value)] w3)
 refine hK1 _ _ ?_
 clear hK1 K1
 refine ZA (Z1 rfl) (fun K5 hK5 => ?_)
 refine Z0H (vs := ([(.int .i64 (c)), (.int .i64 (d))] : List Value)) rfl H4 rfl rfl ?_
 intro b6 w7 (H8 : Sat w [Z6 w (fun _ => False), Z3 b2 24 ([(.int .i64 (a)), (.int .i64 (b))] : List Value), Z3 b6 24 ([(.int .i64 (c)), (.int .i64 (d))] : List Value)] w7)
 refine hK5 _ _ ?_
 clear hK5 K5
 refine Z2 (Z1 rfl) (d := 4) (v := (.bool false)) rfl (by kernel_rfl) ?_
 refine Zm ?_
 refine Z4 ?_
 refine Zc ?_
 refine Zp ?_
 refine Z2 (Z1 rfl) (d := 5) (v := (.pointer (some ⟨b2, 0, none⟩))) rfl (by kernel_rfl) ?_
 refine Z2 (Z1 rfl) (d := 6) (v := (.int .i64 (a))) rfl (Zi rfl (by kernel_rfl) (H8.cell 1 rfl rfl)) ?_
 refine Z2 (Z1 rfl) (d := 7) (v := (.pointer (some ⟨b6, 0, none⟩))) rfl (by kernel_rfl) ?_
 refine Z2 (Z1 rfl) (d := 8) (v := (.int .i64 (c))) rfl (Zi rfl (by kernel_rfl) (H8.cell 2 rfl rfl)) ?_
 refine Z2 (Z1 rfl) (d := 9) (v := (.bool (decide (a < c)))) rfl (by kernel_rfl) ?_
 refine Z2 (Z1 rfl) (d := 10) (v := (.bool (decide (a < c)))) rfl (by kernel_rfl) ?_
 refine (ZS (decide (a < c))).elim (fun b9 => ?_) (fun b9 => ?_)
 ·have g10 := of_decide_eq_true b9
  refine Z02 10 (.bool true) (congrArg Value.bool b9) ?_
  have g11 := of_decide_eq_true b9
  refine Zx (Zh 5 10 false rfl (by kernel_rfl) rfl (by kernel_rfl)) rfl ?_
  refine Zx (Zh 5 10 false rfl (by kernel_rfl) rfl (by kernel_rfl)) rfl ?_
  refine Zx (Zh 5 10 false rfl (by kernel_rfl) rfl (by kernel_rfl)) rfl ?_
  refine Zx (Zh 5 10 false rfl (by kernel_rfl) rfl (by kernel_rfl)) rfl ?_
  refine Zx (Zh 5 10 false rfl (by kernel_rfl) rfl (by kernel_rfl)) rfl ?_
  refine Zx (Zh 5 10 false rfl (by kernel_rfl) rfl (by kernel_rfl)) rfl ?_
  refine Zx (Z4J 11 16 true rfl (by kernel_rfl) rfl (by kernel_rfl)) rfl ?_
  refine Zx (Z4J 11 16 true rfl (by kernel_rfl) rfl (by kernel_rfl)) rfl ?_
  refine Zx (Z4J 11 16 true rfl (by kernel_rfl) rfl (by kernel_rfl)) rfl ?_
  refine Zx (Z4J 11 16 true rfl (by kernel_rfl) rfl (by kernel_rfl)) rfl ?_
  refine Zx (Z4J 11 16 true rfl (by kernel_rfl) rfl (by kernel_rfl)) rfl ?_
  refine Zx (Zh 5 10 false rfl (by kernel_rfl) rfl (by kernel_rfl)) rfl ?_
  refine Z2 (Z1 rfl) (d := 23) (v := (.bool true)) rfl (by kernel_rfl) ?_
  refine Z2 (Z1 rfl) (d := 4) (v := (.bool true)) rfl (by kernel_rfl) ?_
  refine Zm ?_
  refine Z4 ?_
  refine ZY ?_
  refine Z0O rfl (ZF (v := (.bool true)) rfl) ?_
  exact ⟨by simp [b9], H8.upd 0 rfl [] (fun _ h => h.elim)⟩
 ·have g12 := of_decide_eq_false b9
  refine Z02 10 (.bool false) (congrArg Value.bool b9) ?_
  have g13 := of_decide_eq_false b9
  refine Z2 (Zj 5 10 false rfl (by kernel_rfl) rfl (by kernel_rfl)) (d := 11) (v := (.pointer (some ⟨b2, 0, none⟩))) rfl (by kernel_rfl) ?_
  refine Z2 (Zj 5 10 false rfl (by kernel_rfl) rfl (by kernel_rfl)) (d := 12) (v := (.int .i64 (a))) rfl (Zi rfl (by kernel_rfl) (H8.cell 1 rfl rfl)) ?_
  refine Z2 (Zj 5 10 false rfl (by kernel_rfl) rfl (by kernel_rfl)) (d := 13) (v := (.pointer (some ⟨b6, 0, none⟩))) rfl (by kernel_rfl) ?_
  refine Z2 (Zj 5 10 false rfl (by kernel_rfl) rfl (by kernel_rfl)) (d := 14) (v := (.int .i64 (c))) rfl (Zi rfl (by kernel_rfl) (H8.cell 2 rfl rfl)) ?_
  refine Z2 (Zj 5 10 false rfl (by kernel_rfl) rfl (by kernel_rfl)) (d := 15) (v := (.bool (decide (a = c)))) rfl (by kernel_rfl) ?_
  refine Z2 (Zj 5 10 false rfl (by kernel_rfl) rfl (by kernel_rfl)) (d := 16) (v := (.bool (decide (a = c)))) rfl (by kernel_rfl) ?_
  refine (ZS (decide (a = c))).elim (fun b14 => ?_) (fun b14 => ?_)
  ·have g15 := of_decide_eq_true b14
   refine Z02 16 (.bool true) (congrArg Value.bool b14) ?_
   have g16 := of_decide_eq_true b14
   refine Z2 (Zj 11 16 true rfl (by kernel_rfl) rfl (by kernel_rfl)) (d := 17) (v := (.pointer (some ⟨b2, 1, none⟩))) rfl (by kernel_rfl) ?_
   refine Z2 (Zj 11 16 true rfl (by kernel_rfl) rfl (by kernel_rfl)) (d := 18) (v := (.int .i64 (b))) rfl (Zi rfl (by kernel_rfl) (H8.cell 1 rfl rfl)) ?_
   refine Z2 (Zj 11 16 true rfl (by kernel_rfl) rfl (by kernel_rfl)) (d := 19) (v := (.pointer (some ⟨b6, 1, none⟩))) rfl (by kernel_rfl) ?_
   refine Z2 (Zj 11 16 true rfl (by kernel_rfl) rfl (by kernel_rfl)) (d := 20) (v := (.int .i64 (d))) rfl (Zi rfl (by kernel_rfl) (H8.cell 2 rfl rfl)) ?_
   refine Z2 (Zj 11 16 true rfl (by kernel_rfl) rfl (by kernel_rfl)) (d := 21) (v := (.bool (decide (b < d)))) rfl (by kernel_rfl) ?_
   refine Z2 (Zj 5 10 false rfl (by kernel_rfl) rfl (by kernel_rfl)) (d := 22) (v := (.bool (decide (b < d)))) rfl (by kernel_rfl) ?_
   refine Z2 (Z1 rfl) (d := 23) (v := (.bool (decide (b < d)))) rfl (by kernel_rfl) ?_
   refine Z2 (Z1 rfl) (d := 4) (v := (.bool (decide (b < d)))) rfl (by kernel_rfl) ?_
   refine Zm ?_
   refine Z4 ?_
   refine ZY ?_
   refine Z0O rfl (ZF (v := (.bool (decide (b < d)))) rfl) ?_
   exact ⟨by simp [b9, b14], H8.upd 0 rfl [] (fun _ h => h.elim)⟩
  ·have g17 := of_decide_eq_false b14
   refine Z02 16 (.bool false) (congrArg Value.bool b14) ?_
   have g18 := of_decide_eq_false b14
   refine Zx (Zh 11 16 true rfl (by kernel_rfl) rfl (by kernel_rfl)) rfl ?_
   refine Zx (Zh 11 16 true rfl (by kernel_rfl) rfl (by kernel_rfl)) rfl ?_
   refine Zx (Zh 11 16 true rfl (by kernel_rfl) rfl (by kernel_rfl)) rfl ?_
   refine Zx (Zh 11 16 true rfl (by kernel_rfl) rfl (by kernel_rfl)) rfl ?_
   refine Zx (Zh 11 16 true rfl (by kernel_rfl) rfl (by kernel_rfl)) rfl ?_
   refine Z2 (Zj 5 10 false rfl (by kernel_rfl) rfl (by kernel_rfl)) (d := 22) (v := (.bool false)) rfl (by kernel_rfl) ?_
   refine Z2 (Z1 rfl) (d := 23) (v := (.bool false)) rfl (by kernel_rfl) ?_
   refine Z2 (Z1 rfl) (d := 4) (v := (.bool false)) rfl (by kernel_rfl) ?_
   refine Zm ?_
   refine Z4 ?_
   refine ZY ?_
   refine Z0O rfl (ZF (v := (.bool false)) rfl) ?_
   exact ⟨by simp [b9, b14], H8.upd 0 rfl [] (fun _ h => h.elim)⟩
def ZI (L : List Ck) : Ck where
 fp b := ∃ A ∈ L, A.fp b
 ok w := ∀ A ∈ L, A.ok w
 stay {w w'} h hb A hA := A.stay (h A hA) fun b hf => hb b ⟨A, hA, hf⟩
 lt {w} h b hb := by obtain ⟨A, hA, hf⟩ := hb; exact A.lt (h A hA) b hf
section
variable {w0 w : World} {A : Ck} {L R G : List Ck}
theorem Sat.bag0 (H : Sat w0 G w) : Sat w0 (G ++ [ZI []]) w :=
 H.add (Ext.refl w) (fun _ _ => rfl) (fun A hA => by simp at hA) (fun b hb => by obtain ⟨A, hA, _⟩ := hb; simp at hA)
theorem Sat.bag (H : Sat w0 (ZI L :: A :: R) w) : Sat w0 (ZI (A :: L) :: R) w := by
 have h1 := List.pairwise_cons.1 H.dis
 have h2 := List.pairwise_cons.1 h1.2
 refine ⟨H.ext, fun C hC => ?_, List.pairwise_cons.2 ⟨fun C hC b hb hc => ?_, h2.2⟩⟩
 ·rcases List.mem_cons.1 hC with rfl | hC
  ·intro B hB
   rcases List.mem_cons.1 hB with rfl | hB
   ·exact H.all _ (by simp)
   ·exact (show (ZI L).ok w from H.all _ (by simp)) B hB
  ·exact H.all _ (by simp [hC])
 ·obtain ⟨B, hB, hf⟩ := hb
  rcases List.mem_cons.1 hB with rfl | hB
  ·exact h2.1 C hC b hf hc
  ·exact h1.1 C (by simp [hC]) b ⟨B, hB, hf⟩ hc
end
def stC (c : CeR) : Ck := Zb 101 38 (.slice c.sa c.S.length c.sc) c.S.length (c.S.flatMap Z0l)
def ceC (p : PrR) : Ck := Zb 53 38 (.slice p.ca p.C.length p.cc) p.C.length (p.C.flatMap ZK)
def PIn (L : List Ck) (p : PrR) : Prop := ceC p ∈ L ∧ ∀ c ∈ p.C, stC c ∈ L
section
variable {L : List Ck} {A : Ck} {p : PrR} {x : CeR} {C : List CeR} {D : List PrR} {w : World} {a b : Int} {S : List Zd}
theorem PIn.ok (h : PIn L p) (hb : (ZI L).ok w) : PrOk w p :=
 ⟨ListAt.row Z14 (by decide) (hb _ h.1), fun c hc => ListAt.row Z1x (by decide) (hb _ (h.2 c hc))⟩
theorem PIn.more (h : PIn L p) : PIn (A :: L) p := ⟨List.mem_cons_of_mem _ h.1, fun c hc => List.mem_cons_of_mem _ (h.2 c hc)⟩
theorem Z8v (h : ∀ c ∈ C, stC c ∈ L) : ∀ c ∈ C ++ [x], stC c ∈ stC x :: L := fun c hc => by
 rcases List.mem_append.1 hc with hc | hc
 ·exact List.mem_cons_of_mem _ (h c hc)
 ·rw [List.mem_singleton.1 hc]; exact List.mem_cons_self
theorem Z2h {c : CeR} (h : (ZI L).ok w) (hm : stC c ∈ L) : ListAt Z0l 38 w (.slice c.sa c.S.length c.sc) c.S := ListAt.row Z1x (by decide) (h _ hm)
end
def Z5v : Go.Shelf.Ren := ⟨fun | 41 => 94 | n => n, fun | 22 => 51 | 23 => 101 | 4 => 4 | n => n, fun | n => n⟩
theorem Z77 : Go.Proofs.SlLaysE0.n41 Tryz.prog Z5v := {
 mixed := by kernel_rfl,
 f41 := ⟨Tryz.f94.name, by decide, Tryz.func94.trans (congrArg some (by kernel_rfl))⟩,
 t4 := Tryz.underlying4,
 a4 := Tryz.isAgg4,
 z4 := Tryz.sizeOf4,
 v4 := Tryz.zeroValue4,
 t22 := Tryz.underlying51,
 a22 := Tryz.isAgg51,
 z22 := Tryz.sizeOf51,
 v22 := Tryz.zeroValue51 }
theorem Z6r (w : World) (v : Value) (s : List Zd) (hs : (Zb 101 38 v s.length (s.flatMap Z0l)).ok w) (hl : s.length ≤ 1000) : Calls Tryz.prog 94 #[v] w fun e w' => ∃ u, e = .returned u ∧ (Zb 101 38 u s.length (s.flatMap Z0l)).ok w' ∧ Upd [] w w' ∧ ∀ b, (Zb 101 38 u s.length (s.flatMap Z0l)).fp b → w.heap.size ≤ b := by
 have hfl : (s.flatMap Z0l).length = s.length * 38 := Z1i Z0l 38 Z1x s
 obtain ⟨i, z, _, h1, h2, h3, h4, h5, h6⟩ := Z2P (P := Tryz.prog) (T := 51) (e := 101) (size := 38) (bytes := 80) (by kernel_rfl)
 have hs' := hs
 rcases hs.2 with ⟨rfl, h0⟩ | ⟨g, c, cur, rfl, _⟩
 ·obtain rfl := List.eq_nil_of_length_eq_zero h0
  exact (AnyE.slices_Clone_nil (P := Tryz.prog) Z77 0 0 w).mono fun e w' ⟨he, hw⟩ => ⟨_, he, World.ownsRow_nil _ 0 _ _, hw ▸ Upd.refl _ _, fun b hb => by simp [Zb, Value.ownBlock] at hb⟩
 ·refine (AnyE.slices_Clone (P := Tryz.prog) Z77 i z 38 80 h1 h2 h3 h4 h5 h6 Tryz.sizeOf101 g 0 s.length c (s.flatMap Z0l) w hfl (by unfold maxLen; omega) (by omega) (fun j u hu => by rw [Nat.zero_add]; exact Z2n hs' rfl hu) (fun u hu => List.all_eq_true.1 (Z0Q Z0l Z3A s) u hu)).mono fun e w' ⟨v', he, hr, _, hb⟩ => ⟨v', he, ?_, Below.upd hb, ?_⟩
  ·refine ⟨hr.1, ?_⟩
   rcases hr.2 with h | ⟨g', cap, cur', e1, _, r⟩
   ·exact .inl h
   ·exact .inr ⟨g', cap, cur', e1, Nat.zero_le _, r⟩
  ·intro b hb2
   rcases hr.2 with ⟨rfl, _⟩ | ⟨g', cap, cur', rfl, hge, _⟩
   ·simp [Zb, Value.ownBlock] at hb2
   ·simp only [Zb, Value.ownBlock, Option.some.injEq] at hb2; omega
end Go.Proofs.YtoaifondpohniaaGreat
