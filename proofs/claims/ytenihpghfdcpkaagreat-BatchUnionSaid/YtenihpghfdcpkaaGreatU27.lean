/- WHAT IS PROVED: contracts and plain laws of Law12M, LaidO, FstO, SortO12. Conditions: stated with each. -/
import Derived.Test.YtenihpghfdcpkaaGreatU05
import Derived.Test.YtenihpghfdcpkaaGreatU11
import Derived.Test.YtenihpghfdcpkaaGreatU16
import Derived.Test.YtenihpghfdcpkaaGreatU17
import Derived.Test.YtenihpghfdcpkaaGreatU18
import Derived.Test.YtenihpghfdcpkaaGreatU21
import Derived.Test.YtenihpghfdcpkaaGreatU22
import Derived.Test.YtenihpghfdcpkaaGreatU23
import Derived.Test.YtenihpghfdcpkaaGreatU26
set_option maxHeartbeats 4000000
set_option maxRecDepth 100000
namespace Go.Proofs.YtenihpghfdcpkaaGreat
open Go.RowKit
section
variable {M : List (Int × EntD)}
theorem OpenOk.nil : OpenOk [] := fun i => by simp [lookM, ent0]
theorem OpenOk.put {a : Int} {v : EntD} (h : OpenOk M) (hv : v.cl ≤ 1000000 ∧ v.sq ≤ 1000000) : OpenOk (putM M a v) := fun i => by
 by_cases e : i = a
 ·subst e; rw [look_put_same]; exact hv
 ·rw [look_put_other _ _ _ _ e]; exact h i
theorem open3 : OpenOk (openM (spotsN 3)) := by
 have e : openM (spotsN 3) = putM (putM (putM [] (spotAt 0).i ⟨(spotAt 0).cl, (spotAt 0).sq, (spotAt 0).h, (spotAt 0).t⟩) (spotAt 1).i ⟨(spotAt 1).cl, (spotAt 1).sq, (spotAt 1).h, (spotAt 1).t⟩) (spotAt 2).i ⟨(spotAt 2).cl, (spotAt 2).sq, (spotAt 2).h, (spotAt 2).t⟩ := rfl
 rw [e]
 exact ((OpenOk.nil.put ⟨by show ((0 : Nat) : Int) ≤ 1000000; decide, by show (50 : Int) ≤ 1000000; decide⟩).put ⟨by show ((1 : Nat) : Int) ≤ 1000000; decide, by show (50 : Int) ≤ 1000000; decide⟩).put ⟨by show ((2 : Nat) : Int) ≤ 1000000; decide, by show (50 : Int) ≤ 1000000; decide⟩
end
section
variable {α : Type} {num : α → Int} {may : α → Bool} {L D : List α}
theorem firstN_lim {n : Nat} (h : ∀ x ∈ L, 0 ≤ num x ∧ num x < n) : (firstN num may L).length ≤ n := by
 have hd := firstN_dif (num := num) (may := may) (L := L)
 have hm : ∀ x ∈ firstN num may L, 0 ≤ num x ∧ num x < n := fun x hx => h x (firstN_mem hx).1
 have := nodup_below n ((firstN num may L).map fun x => (num x).toNat) ?_ fun y hy => ?_
 ·simpa using this
 ·rw [List.Nodup, List.pairwise_map]
  refine (List.pairwise_iff_forall_sublist.2 fun {a b} hs => ?_)
  have ha : a ∈ firstN num may L := hs.subset (by simp)
  have hb : b ∈ firstN num may L := hs.subset (by simp)
  have hne := List.pairwise_iff_forall_sublist.1 hd hs
  have h1 := hm a ha; have h2 := hm b hb
  intro e; exact hne (by omega)
 ·obtain ⟨x, hx, rfl⟩ := List.mem_map.1 hy
  have := hm x hx; omega
theorem SortN.id (hs : SortN num may L D) (hup : L.Pairwise fun a b => num a < num b) (hm : ∀ x ∈ L, may x = true) : D = L := by
 refine sorted_same hs.up hup fun x => ?_
 rw [hs.mem]
 constructor
 ·exact fun h => List.mem_of_find?_eq_some h
 ·intro hx
  obtain ⟨z, hz⟩ := Option.isSome_iff_exists.1 (List.find?_isSome (p := fun y => decide (num y = num x) && may y) (xs := L) |>.2 ⟨x, hx, by simp [hm x hx]⟩)
  rw [hz]
  have h1 := List.mem_of_find?_eq_some hz
  have h2 := List.find?_some hz
  simp only [Bool.and_eq_true, decide_eq_true_eq] at h2
  obtain ⟨i, hi, ei⟩ := List.mem_iff_getElem.1 h1
  obtain ⟨j, hj, ej⟩ := List.mem_iff_getElem.1 hx
  rcases Nat.lt_trichotomy i j with q | q | q
  ·have := List.pairwise_iff_getElem.1 hup i j hi hj q
   rw [ei, ej] at this; omega
  ·subst q; rw [ei] at ej; rw [ej]
  ·have := List.pairwise_iff_getElem.1 hup j i hj hi q
   rw [ei, ej] at this; omega
end
structure CeV (F last tm : Int) (Lb : List Signed) (c : CeR) : Prop where
 x : CoB c.x
 S : ∀ i, i < c.S.length → StB (c.S.getD i stamp0)
 len : c.S.length ≤ 12
 sm : SmallN ⟨c.x.cl, c.x.seq⟩
 rt : rightX F 3 Lb c.x c.S = true
 time : last < timeD c.S ∧ timeD c.S ≤ tm
structure PrV (F last tm : Int) (Lb : List Signed) (p : PrR) : Prop where
 r : 0 ≤ p.r ∧ p.r < 3 * F + 1
 e : p.e = 4
 f : p.f = tm
 sb : p.sb = p.r
 sm : rightB Lb p.sb p.sm (promB p) = true
 len : p.C.length ≤ 5
 ce : ∀ c ∈ p.C, CeV F last tm Lb c
 up : p.C.Pairwise fun a b => ltNm a b = true
section
variable {F last tm : Int} {Lb Lb' : List Signed} {B : List Ck} {p q : PrR} {PS PD DP : List PrR} {w : World}
theorem PrG.val (h : PrG F last tm Lb B p) : PrV F last tm Lb p :=
 ⟨h.r, h.e, h.f, h.sb, h.sm, h.len, fun c hc => ⟨(h.tab.ct c hc).x, (h.tab.ct c hc).S, (h.tab.ct c hc).len, h.tab.sm c hc, h.tab.rt c hc, h.time c hc⟩, h.tab.up⟩
theorem PrG.prk (h : PrG F last tm Lb B p) (hb : (bagC B).ok w) : PrK w p :=
 ⟨bag_ce hb h.inn, Nat.le_trans h.len (by decide), fun i hi => hb _ (h.tab.ct _ (getD_memC hi)).bag, fun i hi => Nat.le_trans (h.tab.ct _ (getD_memC hi)).len (by decide)⟩
theorem PrG.may (h : PrG F last tm Lb B p) : mayPr F 4 tm p = true := by
 unfold mayPr inB
 rw [decide_eq_true h.r.1, decide_eq_true h.r.2, decide_eq_true h.e, decide_eq_true h.f]; rfl
theorem PsF.up (h : PsF F last tm Lb B PS) : PS.Pairwise fun a b => a.r < b.r := by
 have h1 : (PS.map (·.r)).Pairwise (· < ·) := by
  rw [h.nums, List.pairwise_map]
  exact List.pairwise_lt_range.imp fun h => by omega
 exact List.pairwise_map.1 h1
theorem PsF.dp (h : PsF F last tm Lb B PS) (hs : SortN (fun x : PrR => x.r) (mayPr F 4 tm) PS DP) : DP = PS := hs.id h.up fun x hx => (h.all x hx).may
theorem PsF.lim (h : PsF F last tm Lb B PS) (hF : 1 ≤ F ∧ F ≤ 2) {m : PrR → Bool} : (firstN (fun x : PrR => x.r) m PS).length ≤ 12 :=
 Nat.le_trans (firstN_lim (n := 7) fun x hx => by have := (h.all x hx).r; omega) (by decide)
theorem PsF.len (h : PsF F last tm Lb B PS) (hF : 1 ≤ F) : (PS.length : Int) = 3 * F + 1 := by
 have := h.length; omega
theorem co_sub {β γ : Type} {key : β → γ} {X Y : List β} {y : β} (h : Y.map key = X.map key) (hy : y ∈ Y) : ∃ x ∈ X, key y = key x := by
 have : key y ∈ Y.map key := List.mem_map_of_mem hy
 rw [h] at this
 obtain ⟨x, hx, e⟩ := List.mem_map.1 this
 exact ⟨x, hx, e.symm⟩
theorem ce_key {c d : CeR} (e : (c.x, c.S) = (d.x, d.S)) : c.x = d.x ∧ c.S = d.S := by simpa using e
theorem promB_key (e : keyP p = keyP q) : promB p = promB q := by
 unfold keyP at e
 simp only [Prod.mk.injEq] at e
 obtain ⟨e1, e2, e3, _, _, e6⟩ := e
 have hl : p.C.length = q.C.length := by simpa using congrArg List.length e6
 have hc : certsB p.C = certsB q.C := by
  have hpc : ∀ C : List CeR, certsB C = (C.map fun c => (c.x, c.S)).flatMap fun y => [putCommitB y.1, intB (y.2.length : Int)].flatten ++ stampsB y.2 := fun C => by
   unfold certsB
   rw [List.flatMap_map]; rfl
  rw [hpc, hpc, e6]
 unfold promB barePrB
 rw [e1, e2, e3, hl, hc]
theorem pairwise_key {C D : List CeR} (e : C.map (fun c => (c.x, c.S)) = D.map fun c => (c.x, c.S)) (h : D.Pairwise fun a b => ltNm a b = true) : C.Pairwise fun a b => ltNm a b = true := by
 have f : ∀ (a b : CommitD × List StampD), Bool := fun a b => decide (a.1.cl < b.1.cl) || (decide (a.1.cl = b.1.cl) && decide (a.1.seq < b.1.seq))
 have hd : (D.map fun c => (c.x, c.S)).Pairwise fun a b => (decide (a.1.cl < b.1.cl) || (decide (a.1.cl = b.1.cl) && decide (a.1.seq < b.1.seq))) = true := List.pairwise_map.2 h
 rw [← e] at hd
 exact List.pairwise_map.1 hd
theorem PrV.key (h : PrV F last tm Lb q) (e : keyP p = keyP q) : PrV F last tm Lb p := by
 have hb := promB_key e
 unfold keyP at e
 simp only [Prod.mk.injEq] at e
 obtain ⟨e1, e2, e3, e4, e5, e6⟩ := e
 have hl : p.C.length = q.C.length := by simpa using congrArg List.length e6
 refine ⟨by rw [e1]; exact h.r, by rw [e2]; exact h.e, by rw [e3]; exact h.f, by rw [e4, e1]; exact h.sb, by rw [e4, e5, hb]; exact h.sm, by rw [hl]; exact h.len, fun c hc => ?_, pairwise_key e6 h.up⟩
 obtain ⟨d, hd, ed⟩ := co_sub e6 hc
 obtain ⟨ex, eS⟩ := ce_key ed
 have hv := h.ce d hd
 exact ⟨by rw [ex]; exact hv.x, by rw [eS]; exact hv.S, by rw [eS]; exact hv.len, by rw [ex]; exact hv.sm, by rw [ex, eS]; exact hv.rt, by rw [eS]; exact hv.time⟩
theorem made_val (h : PsF F last tm Lb B PS) {Q : Nat} (hc : CoPs (PS.take Q) PD) : ∀ p ∈ PD, PrV F last tm Lb p := fun p hp => by
 obtain ⟨q, hq, e⟩ := co_sub hc hp
 exact (h.all q (List.mem_of_mem_take hq)).val.key e
theorem PrV.sms (h : ∀ p ∈ PD, PrV F last tm Lb p) : PSm PD := fun p hp c hc => by
 have hv := (h p hp).ce c hc
 exact ⟨hv.sm, hv.len, fun i hi => (hv.S i hi).1⟩
theorem PrV.more (h : PrV F last tm Lb p) (hp : Lb <+: Lb') : PrV F last tm Lb' p :=
 ⟨h.r, h.e, h.f, h.sb, rightB_pre hp h.sm, h.len, fun c hc => ⟨(h.ce c hc).x, (h.ce c hc).S, (h.ce c hc).len, (h.ce c hc).sm, rightX_pre hp (h.ce c hc).rt, (h.ce c hc).time⟩, h.up⟩
end
section
variable {last tm : Int} {lg : NmD → Bool} {Z : List CeR} {O : List EntD} {c : CeR}
theorem uni_all (hsm : ∀ c ∈ Z, CeSm c) (hO : O.Perm ((runE last tm lg Z).map (·.2))) (hc : c ∈ Z) (hs : skipE last tm lg (entOf c) = false) : O.any (fun y => decide (y.cl = c.x.cl ∧ y.sq = c.x.seq) && decide (y.t ≤ timeD c.S)) = true := by
 obtain ⟨e, he, ht⟩ := run_has hc hs
 have hm := mem_lookE he
 have hn := (runE_ok (last := last) (tm := tm) (lg := lg) hsm).nm _ hm
 simp only [nmOf, entOf, NmD.mk.injEq] at hn
 rw [List.any_eq_true]
 refine ⟨e, hO.mem_iff.2 (List.mem_map.2 ⟨_, hm, rfl⟩), ?_⟩
 simp only [Bool.and_eq_true, decide_eq_true_eq]
 exact ⟨⟨hn.1.symm, hn.2.symm⟩, ht⟩
theorem any_step {f : EntD → Bool} {j : Nat} {x : EntD} (h : O[j]? = some x) : (O.take (j + 1)).any f = ((O.take j).any f || f x) := by
 rw [List.take_add_one, h, Option.toList_some, List.any_append]; simp
end
end Go.Proofs.YtenihpghfdcpkaaGreat
namespace Go.Proofs.YtenihpghfdcpkaaGreat
open Go.RowKit Go.Shelf
def sortO_ren : Go.Shelf.Ren := ⟨fun | 6 => 95 | 15 => 102 | 14 => 123 | 28 => 136 | 29 => 137 | 20 => 161 | 21 => 162 | 22 => 163 | 23 => 164 | 24 => 165 | 25 => 166 | 26 => 167 | 27 => 168 | 46 => 198 | 47 => 182 | 48 => 183 | 49 => 199 | 50 => 200 | 57 => 217 | n => n, fun | 22 => 42 | 24 => 86 | 25 => 186 | 3 => 3 | 39 => 108 | 0 => 0 | 53 => 198 | 55 => 25 | 4 => 4 | 46 => 222 | 45 => 221 | 50 => 226 | 5 => 5 | 9 => 9 | 66 => 257 | 70 => 261 | 76 => 281 | 77 => 282 | n => n, fun | n => n⟩
theorem sortO : Go.Proofs.SlLaysF0.n6 Tryz.prog sortO_ren := {
 mixed := by kernel_rfl,
 f6 := ⟨Tryz.f95.name, by decide, Tryz.func95.trans (congrArg some (by kernel_rfl))⟩,
 f14 := ⟨Tryz.f123.name, by decide, Tryz.func123.trans (congrArg some (by kernel_rfl))⟩,
 f15 := Tryz.func102.trans (congrArg some (by kernel_rfl)),
 f20 := ⟨Tryz.f161.name, by decide, Tryz.func161.trans (congrArg some (by kernel_rfl))⟩,
 f21 := ⟨Tryz.f162.name, by decide, Tryz.func162.trans (congrArg some (by kernel_rfl))⟩,
 f22 := ⟨Tryz.f163.name, by decide, Tryz.func163.trans (congrArg some (by kernel_rfl))⟩,
 f23 := ⟨Tryz.f164.name, by decide, Tryz.func164.trans (congrArg some (by kernel_rfl))⟩,
 f24 := ⟨Tryz.f165.name, by decide, Tryz.func165.trans (congrArg some (by kernel_rfl))⟩,
 f25 := ⟨Tryz.f166.name, by decide, Tryz.func166.trans (congrArg some (by kernel_rfl))⟩,
 f26 := ⟨Tryz.f167.name, by decide, Tryz.func167.trans (congrArg some (by kernel_rfl))⟩,
 f27 := ⟨Tryz.f168.name, by decide, Tryz.func168.trans (congrArg some (by kernel_rfl))⟩,
 f28 := Tryz.func136.trans (congrArg some (by kernel_rfl)),
 f29 := Tryz.func137.trans (congrArg some (by kernel_rfl)),
 f46 := ⟨Tryz.f198.name, by decide, Tryz.func198.trans (congrArg some (by kernel_rfl))⟩,
 f47 := Tryz.func182.trans (congrArg some (by kernel_rfl)),
 f48 := Tryz.func183.trans (congrArg some (by kernel_rfl)),
 f49 := ⟨Tryz.f199.name, by decide, Tryz.func199.trans (congrArg some (by kernel_rfl))⟩,
 f50 := ⟨Tryz.f200.name, by decide, Tryz.func200.trans (congrArg some (by kernel_rfl))⟩,
 f57 := ⟨Tryz.f217.name, by decide, Tryz.func217.trans (congrArg some (by kernel_rfl))⟩,
 t0 := Tryz.underlying0,
 a0 := Tryz.isAgg0,
 z0 := Tryz.sizeOf0,
 v0 := Tryz.zeroValue0,
 t3 := Tryz.underlying3,
 a3 := Tryz.isAgg3,
 z3 := Tryz.sizeOf3,
 v3 := Tryz.zeroValue3,
 t4 := Tryz.underlying4,
 a4 := Tryz.isAgg4,
 z4 := Tryz.sizeOf4,
 v4 := Tryz.zeroValue4,
 t5 := Tryz.underlying5,
 a5 := Tryz.isAgg5,
 z5 := Tryz.sizeOf5,
 v5 := Tryz.zeroValue5,
 t9 := Tryz.underlying9,
 a9 := Tryz.isAgg9,
 z9 := Tryz.sizeOf9,
 v9 := Tryz.zeroValue9,
 t22 := Tryz.underlying42,
 a22 := Tryz.isAgg42,
 z22 := Tryz.sizeOf42,
 v22 := Tryz.zeroValue42,
 t25 := Tryz.underlying186,
 a25 := Tryz.isAgg186,
 z25 := Tryz.sizeOf186,
 v25 := Tryz.zeroValue186,
 t39 := Tryz.underlying108,
 a39 := Tryz.isAgg108,
 z39 := Tryz.sizeOf108,
 v39 := Tryz.zeroValue108,
 t45 := Tryz.underlying221,
 a45 := Tryz.isAgg221,
 z45 := Tryz.sizeOf221,
 v45 := Tryz.zeroValue221,
 t46 := Tryz.underlying222,
 a46 := Tryz.isAgg222,
 z46 := Tryz.sizeOf222,
 v46 := Tryz.zeroValue222,
 t50 := Tryz.underlying226,
 a50 := Tryz.isAgg226,
 z50 := Tryz.sizeOf226,
 v50 := Tryz.zeroValue226,
 t53 := Tryz.underlying198,
 a53 := Tryz.isAgg198,
 z53 := Tryz.sizeOf198,
 v53 := Tryz.zeroValue198,
 t55 := Tryz.underlying25,
 a55 := Tryz.isAgg25,
 z55 := Tryz.sizeOf25,
 v55 := Tryz.zeroValue25,
 t66 := Tryz.underlying257,
 a66 := Tryz.isAgg257,
 z66 := Tryz.sizeOf257,
 v66 := Tryz.zeroValue257,
 t70 := Tryz.underlying261,
 a70 := Tryz.isAgg261,
 z70 := Tryz.sizeOf261,
 v70 := Tryz.zeroValue261,
 t76 := Tryz.underlying281,
 a76 := Tryz.isAgg281,
 z76 := Tryz.sizeOf281,
 v76 := Tryz.zeroValue281,
 t77 := Tryz.underlying282,
 a77 := Tryz.isAgg282,
 z77 := Tryz.sizeOf282,
 v77 := Tryz.zeroValue282 }
end Go.Proofs.YtenihpghfdcpkaaGreat
namespace Go.Proofs.YtenihpghfdcpkaaGreat
open Go.RowKit
abbrev kFstO_0 (p0 : OpR) : List Value := ([(.int .i64 p0.i), (.slice p0.pa p0.P.length p0.pc)] : List Value) ++ hc p0.h
theorem mkNumO_any (w : World) (p : OpR) :
  Calls Tryz.prog 51 #[(.agg ⟨(([(.int .i64 (p.i)), ((.slice p.pa p.P.length p.pc))] : List Value) ++ hc p.h)⟩)] w fun e w' => e = .returned (.int .i64 p.i) ∧ Upd [] w w' ∧ Gr w w' := by
 have H := Sat.start0 w
 refine calls_fr Tryz.func51 rfl 5 rfl (Nat.le_of_ble_eq_true rfl) ?_
 refine zsl <| zwd fun Kq kq => d_boxG (vs := (kFstO_0 p)) rfl H rfl rfl fun b2 w3 H4 g5 => ?_
 refine kq _ _ <| wv 2 (.int .i64 (0)) <| znsl <| wv 3 (pt b2 0) <| zw1 4 (.int .i64 (p.i)) (H4.cell 1 rfl (by kernel_rfl)) <| wv 2 (.int .i64 (p.i)) <| znt <| w_ret <| ze1 (.int .i64 (p.i)) ?_
 exact ⟨rfl, H4.upd 0 rfl [] (fun _ h => h.elim), g5⟩
theorem fstCmpO_any (w : World) (x y : OpR) (fb : Nat) (hfb : (cellC fb 133 [.func (.func 51) #[] #[]]).ok w) :
  Calls Tryz.prog 96 #[(.agg ⟨(([(.int .i64 (x.i)), ((.slice x.pa x.P.length x.pc))] : List Value) ++ hc x.h)⟩), (.agg ⟨(([(.int .i64 (y.i)), ((.slice y.pa y.P.length y.pc))] : List Value) ++ hc y.h)⟩), (.pointer (some ⟨fb, 0, none⟩))] w fun e w' => e = .returned (.int .i64 (sgn3 x.i y.i)) ∧ Upd [] w w' ∧ Gr w w' := by
 have H := Sat.start0 w
 refine calls_fr Tryz.func96 rfl 13 rfl (Nat.le_of_ble_eq_true rfl) ?_
 refine zsl <| zwd fun Kq kq => d_boxG (vs := (kFstO_0 x)) rfl H rfl rfl fun b2 w3 H4 g5 => ?_
 refine kq _ _ <| zwd fun Kq kq => d_boxG (vs := (kFstO_0 y)) rfl H4 rfl rfl fun b7 w8 H9 g10 => ?_
 have gr11 := g5.trans g10
 refine kq _ _ <| wv 5 (.int .i64 (0)) <| znt <| w_seq <| h_startG H9 [restC w (fun _ => False), cellC b2 86 (kFstO_0 x), cellC b7 86 (kFstO_0 y)] 8 rfl (by kernel_rfl) (fun Hx => (Hx.pk [0, 1, 2])) fun w12 H13 S14 g15 => ?_
 have gr16 := gr11.trans g15
 refine hv0 0 S14 6 (.func (.func 51) #[] #[]) ?_ (he := fun _ H' => (zl1 (H'.roCell 0 rfl hfb (fun h => h) rfl)))
 refine hv0 1 S14 7 (.agg ⟨(kFstO_0 x)⟩) ?_ (he := fun _ H' => (zlN (vs := (kFstO_0 x)) (H'.at 1 rfl)))
 refine hv0 3 S14 9 (.func (.func 51) #[] #[]) ?_ (he := fun _ H' => (zl1 (H'.roCell 0 rfl hfb (fun h => h) rfl)))
 refine hv0 4 S14 10 (.agg ⟨(kFstO_0 y)⟩) ?_ (he := fun _ H' => (zlN (vs := (kFstO_0 y)) (H'.at 2 rfl)))
 refine zhd0 2 fun Kq kq => ?_
 refine zdc 8 (mkNumO_any w12 x) ?_
 rintro _ w18 ⟨rfl, u20, g21⟩
 have H19 := H13.keepU u20
 refine ⟨_, rfl, ?_⟩
 have gr22 := gr16.trans g21
 have S23 := H19.pk [0, 1, 2]
 refine kq _ _ S23 <| zhd0 5 fun Kq kq => ?_
 refine zdc 11 (mkNumO_any w18 y) ?_
 rintro _ w25 ⟨rfl, u27, g28⟩
 have H26 := H19.keepU u27
 refine ⟨_, rfl, ?_⟩
 have gr29 := gr22.trans g28
 have S30 := H26.pk [0, 1, 2]
 refine kq _ _ S30 <| zhd0 6 fun Kq kq => ?_
 refine zdc 12 (cmpi64_any x.i y.i w25) ?_
 rintro _ w32 ⟨rfl, hw32⟩
 obtain rfl := hw32.symm
 refine ⟨_, rfl, ?_⟩
 have S33 := H26.pk [0, 1, 2]
 refine kq _ _ S33 <| hv0 7 S33 5 (.int .i64 (sgn3 x.i y.i)) <| zhf <| ztn <| w_ret <| ze1 (.int .i64 (sgn3 x.i y.i)) ?_
 exact ⟨rfl, H26.upd 0 rfl [] (fun _ h => h.elim), gr29⟩
end Go.Proofs.YtenihpghfdcpkaaGreat
namespace Go.Proofs.YtenihpghfdcpkaaGreat
open Go.RowKit Go.Shelf Go.Sort
instance : Inhabited OpR := ⟨op0⟩
def cmpXO (x y : OpR) : Int := sgn3 x.i y.i
def ltXO (x y : OpR) : Prop := x.i < y.i
instance (x y : OpR) : Decidable (ltXO x y) := by unfold ltXO; exact inferInstance
theorem ltOf_cmpXO (x y : OpR) : ltOf cmpXO x y = decide (ltXO x y) := by
 unfold ltOf
 refine decide_eq_decide.2 ?_
 unfold cmpXO ltXO
 rcases sgn3_cases x.i y.i with ⟨h1, e1⟩ | ⟨h1, e1⟩ | ⟨h1, e1⟩ <;> rw [e1] <;>
  first | exact iff_of_true (by decide) (by omega) | exact iff_of_false (by decide) (by omega)
theorem cmpXO_swo : SWO (ltOf cmpXO) := by
 refine ⟨fun x => ?_, fun x y z h1 h2 => ?_, fun x y z h1 h2 => ?_⟩
 ·rw [ltOf_cmpXO]; exact decide_eq_false (by unfold ltXO; omega)
 ·rw [ltOf_cmpXO] at *
  have := of_decide_eq_true h1; have := of_decide_eq_true h2
  unfold ltXO at *
  exact decide_eq_true (by omega)
 ·rw [ltOf_cmpXO] at *
  have := of_decide_eq_false h1; have := of_decide_eq_false h2
  unfold ltXO at *
  exact decide_eq_false (by omega)
theorem fstCmpO_lays (blk off size : Nat) (w : World) {fb : Nat} (hne : fb ≠ blk) (hfb : (cellC fb 133 [.func (.func 51) #[] #[]]).ok w) : CmpLays Tryz.prog 96 #[.pointer (some ⟨fb, 0, none⟩)] encOp 34 cmpXO blk off size w := fun m os dk _ x y =>
 (fstCmpO_any (sortWorldK encOp 34 w blk off m dk os) x y fb ((cellC fb _ _).stay hfb fun b hb => by
  rw [show b = fb from hb]
  have hlt := (cellC fb _ _).lt hfb fb rfl
  unfold sortWorldK putRowK putRow mapBlock grow Sort.ahead
  simp only [Array.getElem?_append, Array.size_modify, hlt, if_true, Array.getElem?_modify]
  rw [if_neg (fun e => hne e.symm)])).mono fun _ _ h => ⟨h.1, h.2.2⟩
theorem sortOE_any (w : World) (g c : Nat) (D : List OpR) (hv : (rowC 86 34 (.slice (some ⟨g, 0, none⟩) D.length c) D.length (D.flatMap encOp)).ok w) (h12 : D.length ≤ 12) (fb : Nat) (hne : fb ≠ g) (hfb : (cellC fb 133 [.func (.func 51) #[] #[]]).ok w) :
  Calls Tryz.prog 95 #[.slice (some ⟨g, 0, none⟩) D.length c, .func (.func 96) #[] #[.pointer (some ⟨fb, 0, none⟩)]] w fun e w' => e = .returned (.tuple #[]) ∧ ∃ D' : List OpR, D'.Perm D ∧ (D'.Pairwise fun a b => ¬ ltXO b a) ∧ (rowC 86 34 (.slice (some ⟨g, 0, none⟩) D.length c) D.length (D'.flatMap encOp)).ok w' ∧ Upd [g] w w' := by
 obtain ⟨A, rfl⟩ : ∃ A : List OpR, A = D := ⟨D, rfl⟩
 have hg : g < w.heap.size := (rowC _ _ _ _ _).lt hv g rfl
 obtain ⟨cur, hb, hnc, hcm, hcs, htk⟩ : ∃ cur, w.heap[g]? = some (.cells cur 86 (0, 0)) ∧ A.length ≤ c ∧ c ≤ maxLen ∧ cur.size = c * 34 ∧ cur.toList.take (A.length * 34) = A.flatMap encOp := by
  rcases hv.2 with ⟨h, _⟩ | ⟨g', c', cur, h, _, h1, h2, h3, h4, h5⟩
  ·cases h
  ·simp only [Value.slice.injEq, Option.some.injEq, Addr.mk.injEq] at h
   obtain ⟨⟨rfl, _⟩, _, rfl⟩ := h
   exact ⟨cur, h1, h2, h3, h4, h5⟩
 have hH : HoldsK encOp 34 w g 0 A.toArray := fun j hj => by
  have hj' : j < A.length * 34 := by simpa using hj
  have hq : j / 34 < A.length := (Nat.div_lt_iff_lt_mul (by omega)).2 hj'
  refine ⟨?_, ?_⟩
  ·rw [get_flatK _ _ _ _ (by simpa using hj')]
   have hx : A.toArray[j / 34]! = A[j / 34] := by rw [getElem!_pos A.toArray (j / 34) (by simpa using hq)]; simp
   rw [hx]
   refine rows_cell (enc := encOp) hv rfl encOp_len (i := j / 34) (x := A[j / 34]) (List.getElem?_eq_getElem hq) (j % 34) (by have := Nat.mod_lt j (show 0 < 34 by omega); simp [Nat.blt_eq, this]) (by omega) ?_
   have hm : j % 34 < (encOp A[j / 34]).length := by rw [encOp_len]; omega
   rw [List.getElem?_eq_getElem hm, getElem!_pos (encOp A[j / 34]) _ hm]; rfl
  ·unfold World.frozen?
   rw [hb]; simp
 have hbl : ∀ (n : Nat) (W : World), n ≤ 12 → Calls Tryz.prog (sortO_ren.f 15) #[.int .u64 n] W fun e w' => (∃ l : Int, e = .returned (.int .i64 l)) ∧ w' = W := fun n W hn =>
  (Any.bits_Len bitsL n W (by omega) (by omega)).mono fun _ _ ⟨he, hw⟩ => ⟨⟨_, he⟩, hw⟩
 have h := AnyQ.slices_SortFunc_small_sorted (P := Tryz.prog) sortO 34 Tryz.isAgg86 Tryz.sizeOf86 encOp encOp_len (fun x v hv => List.all_eq_true.1 (encOp_one x) v hv) cmpXO 96 #[.pointer (some ⟨fb, 0, none⟩)] cmpXO_swo g 0 c A.toArray w (enters_of Tryz.func96 (by kernel_rfl) rfl) (fstCmpO_lays g 0 _ w hne hfb) hH hg (by simpa using h12) hbl
 rw [show A.toArray.size = A.length from List.size_toArray ..] at h
 refine h.mono fun e w' ⟨he, d', n, os, hp, hs, hw⟩ => ?_
 have hsz : d'.size = A.length := by simpa using hp.1
 have hp2 : d'.toList.Perm A := by
  have := hp.2.2
  have e1 : d'.extract 0 A.length = d' := by rw [← hsz]; exact Array.extract_size
  have e2 : A.toArray.extract 0 A.length = A.toArray := Array.extract_size (xs := A.toArray)
  rw [e1, e2] at this
  exact this
 refine ⟨he, d'.toList, hp2, ?_, ?_, ?_⟩
 ·rw [List.pairwise_iff_getElem]
  intro i j hi hj hij
  have hi' : i < d'.size := by simpa using hi
  have hj' : j < d'.size := by simpa using hj
  have := hs i j (Nat.zero_le _) hij (by omega)
  rw [getElem!_pos d' i hi', getElem!_pos d' j hj'] at this
  rw [ltOf_cmpXO] at this
  have h5 := of_decide_eq_false this
  rwa [Array.getElem_toList, Array.getElem_toList]
 ·obtain ⟨q1, q2⟩ := sorted_block encOp 34 encOp_len (by omega) d' cur (by rw [hsz, hcs]; exact Nat.mul_le_mul_right _ hnc)
  refine ⟨by rw [flat_len encOp 34 encOp_len]; simp [hsz], .inr ⟨g, c, putCells id 0 (flatK encOp 34 d') cur, rfl, Nat.zero_le _, ?_, hnc, hcm, by rw [q1, hcs], by rw [← hsz]; exact q2⟩⟩
  rw [hw]
  unfold sortWorldK putRowK putRow mapBlock grow Sort.ahead
  simp only [Array.getElem?_append, Array.size_modify, hg, if_true, Array.getElem?_modify]
  rw [hb]; rfl
 ·subst hw
  refine ⟨rfl, rfl, rfl, size_sortWorldK_c _ _ _ _ _ _ _ _, fun k hk hne => ?_⟩
  have hne : g ≠ k := fun e => hne (by simp [e])
  unfold sortWorldK putRowK putRow mapBlock grow Sort.ahead
  simp only [Array.getElem?_append, Array.size_modify, hk, if_true, Array.getElem?_modify, if_neg hne]
theorem sortORow_any (w : World) (a : Option Addr) (c : Nat) (D : List OpR) (fb : Nat) (hv : (sepC [rowC 86 34 (.slice a D.length c) D.length (D.flatMap encOp), cellC fb 133 [.func (.func 51) #[] #[]]]).ok w) (h12 : D.length ≤ 12) :
  Calls Tryz.prog 95 #[.slice a D.length c, .func (.func 96) #[] #[.pointer (some ⟨fb, 0, none⟩)]] w fun e w' => ∃ D' : List OpR, e = .returned (.tuple #[]) ∧ D'.Perm D ∧ (D'.Pairwise fun a b => ¬ ltXO b a) ∧ Sat w [rowC 86 34 (.slice a D'.length c) D'.length (D'.flatMap encOp), cellC fb 133 [.func (.func 51) #[] #[]], restC w (sepC [rowC 86 34 (.slice a D.length c) D.length (D.flatMap encOp), cellC fb 133 [.func (.func 51) #[] #[]]]).fp] w' := by
 have H := Sat.start _ hv
 cases hD : D with
 | nil =>
  subst hD
  refine (sort0O_any a c (.func (.func 96) #[] #[.pointer (some ⟨fb, 0, none⟩)]) w).mono fun e w' ⟨he, hw⟩ => ?_
  subst hw
  exact ⟨[], he, List.Perm.refl _, List.Pairwise.nil, H⟩
 | cons x D0 =>
  rw [← hD]
  have hv0 := hv.1 _ List.mem_cons_self
  have hv1 := hv.1 _ (List.mem_cons_of_mem _ List.mem_cons_self)
  obtain ⟨g, c', hs⟩ := row_shape hv0 (by rw [hD]; simp)
  simp only [Value.slice.injEq] at hs
  obtain ⟨rfl, _, rfl⟩ := hs
  have hne : fb ≠ g := fun e => (List.pairwise_cons.1 hv.2).1 _ List.mem_cons_self g rfl e.symm
  refine (sortOE_any w g c D hv0 h12 fb hne hv1).mono fun e w' ⟨he, D', hp, hs, hok, hu⟩ => ?_
  have hl := hp.length_eq
  refine ⟨D', he, hp, hs, ?_⟩
  rw [hl]
  exact H.setU hu 0 rfl (by rintro b' hb; rw [List.mem_singleton.1 hb]; rfl) hok (fun b hb => .inl hb)
end Go.Proofs.YtenihpghfdcpkaaGreat
