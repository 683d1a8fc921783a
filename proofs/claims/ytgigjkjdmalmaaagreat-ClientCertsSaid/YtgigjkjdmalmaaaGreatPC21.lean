/- WHAT IS PROVED: contracts and plain laws of CloneBt, ClW. Conditions: stated with each. -/
import Derived.Shelf.SlicesE.Clone
import Derived.Test.YtgigjkjdmalmaaaGreatPC04
import Derived.Test.YtgigjkjdmalmaaaGreatPC05
import Derived.Test.YtgigjkjdmalmaaaGreatPC06
set_option maxHeartbeats 4000000
set_option maxRecDepth 100000
namespace Go.Proofs.YtgigjkjdmalmaaaGreat
open Go.RowKit
def Z4W : Go.Shelf.Ren := ⟨fun | 41 => 29 | n => n, fun | 22 => 38 | 23 => 5 | 4 => 4 | n => n, fun | n => n⟩
theorem Z66 : Go.Proofs.SlLaysE0.n41 Tryz.prog Z4W := {
 mixed := by kernel_rfl,
 f41 := ⟨Tryz.f29.name, by decide, Tryz.func29.trans (congrArg some (by kernel_rfl))⟩,
 t4 := Tryz.underlying4,
 a4 := Tryz.isAgg4,
 z4 := Tryz.sizeOf4,
 v4 := Tryz.zeroValue4,
 t22 := Tryz.underlying38,
 a22 := Tryz.isAgg38,
 z22 := Tryz.sizeOf38,
 v22 := Tryz.zeroValue38 }
theorem Z1Y (w : World) (oa : Option Addr) (oc : Nat) (s : List UInt8) (hP : ListAt Zo 1 w (.slice oa s.length oc) s) (hsp : ∀ ad, oa = some ad → ad.spot = none) (hl : s.length ≤ 1000) : Calls Tryz.prog 29 #[.slice oa s.length oc] w fun e w' => ∃ u, e = .returned u ∧ (Ze 5 1 u s.length (s.flatMap Zo)).ok w' ∧ Upd [] w w' ∧ ∀ b, (Ze 5 1 u s.length (s.flatMap Zo)).fp b → w.heap.size ≤ b := by
 have hfl : (s.flatMap Zo).length = s.length * 1 := Z1t Zo 1 ZV s
 have hcap := ListAt.cap hP
 obtain ⟨i, z, _, h1, h2, h3, h4, h5, h6⟩ := Z2X (P := Tryz.prog) (T := 38) (e := 5) (size := 1) (bytes := 1) (by kernel_rfl)
 cases oa with
 | none =>
  rcases hP with ⟨a, c, e, rfl, hc, ha⟩ | ⟨_, b, o, c, e, _⟩
  ·simp only [Value.slice.injEq] at e
   obtain ⟨e1, _, rfl⟩ := e
   obtain rfl : oc = 0 := ha e1.symm
   exact (AnyE.slices_Clone_nil (P := Tryz.prog) Z66 0 0 w).mono fun e w' ⟨he, hw⟩ => ⟨_, he, World.ownsRow_nil _ 0 _ _, hw ▸ Upd.refl _ _, fun b hb => by simp [Ze, Value.ownBlock] at hb⟩
  ·simp only [Value.slice.injEq, reduceCtorEq, false_and] at e
 | some ad =>
  have hs0 := hsp ad rfl
  obtain ⟨b, o, sp⟩ := ad
  simp only at hs0
  subst hs0
  refine (AnyE.slices_Clone (P := Tryz.prog) Z66 i z 1 1 h1 h2 h3 h4 h5 h6 Tryz.sizeOf5 b o s.length oc (s.flatMap Zo) w hfl (by unfold maxLen; omega) (by omega) (fun j u hu => by
   have h0 : 0 < s.length := by
    rcases Nat.eq_zero_or_pos s.length with q | q
    ·rw [List.eq_nil_of_length_eq_zero q] at hu; simp at hu
    ·exact q
   obtain ⟨vb, vo, vc, hva, hvs⟩ := hP.cells ZV (by decide) h0
   simp only [Value.slice.injEq, Option.some.injEq, Addr.mk.injEq] at hva
   obtain ⟨⟨rfl, rfl, _⟩, _, _⟩ := hva
   have := hvs j u hu
   rw [Addr.add_lit] at this
   exact this) (fun u hu => List.all_eq_true.1 (Z0m Zo Z0s s) u hu)).mono fun e w' ⟨v', he, hr, _, hb⟩ => ⟨v', he, ?_, Below.upd hb, ?_⟩
  ·refine ⟨hr.1, ?_⟩
   rcases hr.2 with h | ⟨g', cap, cur', e1, _, r⟩
   ·exact .inl h
   ·exact .inr ⟨g', cap, cur', e1, Nat.zero_le _, r⟩
  ·intro b hb2
   rcases hr.2 with ⟨rfl, _⟩ | ⟨g', cap, cur', rfl, hge, _⟩
   ·simp [Ze, Value.ownBlock] at hb2
   ·simp only [Ze, Value.ownBlock, Option.some.injEq] at hb2; omega
end Go.Proofs.YtgigjkjdmalmaaaGreat
