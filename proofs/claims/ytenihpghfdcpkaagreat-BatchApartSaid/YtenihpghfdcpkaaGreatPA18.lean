/- WHAT IS PROVED: contracts and plain laws of ParD, FstD, Eqs, Strs, EntE. Conditions: stated with each. -/
import Derived.ChangeKeysEq
import Derived.Laws.IdiomStrings
import Derived.Test.YtenihpghfdcpkaaGreatPA03
import Derived.Test.YtenihpghfdcpkaaGreatPA04
import Derived.Test.YtenihpghfdcpkaaGreatPA13
import Derived.Test.YtenihpghfdcpkaaGreatPA16
import Derived.Test.YtenihpghfdcpkaaGreatPA17
set_option maxHeartbeats 4000000
set_option maxRecDepth 100000
namespace Go.Proofs.YtenihpghfdcpkaaGreat
open Go.RowKit
structure OpR where
 i : Int
 pa : Option Addr
 pc : Nat
 P : List UInt8
 h : Hash
def Z0L (o : OpR) : List Value := [.int .i64 o.i, .slice o.pa o.P.length o.pc] ++ hc o.h
theorem Z2R (o : OpR) : (Z0L o).length = 34 := by simp [Z0L, Zaz]
theorem Z5v (o : OpR) : (Z0L o).all (·.oneCell') = true := by
 simp only [Z0L, List.all_append, Z8r]
 simp [Value.oneCell', Z4a]
def op0 : OpR := ⟨0, none, 0, [], Zn⟩
structure TbR where
 i : Int
 da : Option Addr
 dc : Nat
 D : List Z1d
def Z0I (t : TbR) : List Value := [.int .i64 t.i, .slice t.da t.D.length t.dc]
theorem Z2V (t : TbR) : (Z0I t).length = 2 := rfl
theorem Z5F (t : TbR) : (Z0I t).all (·.oneCell') = true := rfl
def tb0 : TbR := ⟨0, none, 0, []⟩
def opC (o : OpR) : Ck := Zc 5 1 (.slice o.pa o.P.length o.pc) o.P.length (o.P.flatMap Zy)
def tbC (t : TbR) : Ck := Zc 122 4 (.slice t.da t.D.length t.dc) t.D.length (t.D.flatMap Z3n)
structure TmR where
 ta : Option Addr
 tc : Nat
 xs : List Int
def Zc6 (t : TmR) : List Value := [.slice t.ta t.xs.length t.tc]
theorem Zdq (t : TmR) : (Zc6 t).length = 1 := rfl
def tm0 : TmR := ⟨none, 0, []⟩
def Zcc (x : Int) : List Value := [.int .i64 x]
theorem Z8q (x : Int) : (Zcc x).length = 1 := rfl
def TmOk (w : World) (t : TmR) : Prop := ListAt Z4j 1 w (.slice t.ta t.xs.length t.tc) t.xs ∧ ∀ x ∈ t.xs, 0 ≤ x ∧ x ≤ 18446744073709551615
theorem Z6H {L : List TmR} {i : Nat} (h : i < L.length) : L.getD i tm0 ∈ L := by
 rw [List.getD_eq_getElem?_getD, List.getElem?_eq_getElem h]; exact List.getElem_mem h
section
variable {L L' L2 : List Signed} {x y : Signed} {p m F cn : Int} {s : List UInt8} {B B' : List Ck}
theorem ZaI : L <+: L := List.prefix_refl L
theorem Z4b : L <+: Zg L y := by unfold Zg; split; exact List.prefix_refl _; exact List.prefix_append _ _
theorem ZbQ (h : L <+: L') (hy : y ∈ L) : Ze L' y = Ze L y := by
 obtain ⟨m, rfl⟩ := h; exact Zbu hy m
theorem ZbS (h : Z0M L p m s = true) : (⟨p, s⟩ : Signed) ∈ L := by
 by_cases q : (⟨p, s⟩ : Signed) ∈ L
 ·exact q
 ·exfalso
  unfold Z0M at h
  have := of_decide_eq_true h
  rw [Z6y q] at this
  omega
theorem Z3T (hp : L <+: L') (h : Z0M L p m s = true) : Z0M L' p m s = true := by
 have hm := ZbS h
 unfold Z0M at h ⊢
 rw [ZbQ hp hm]; exact h
theorem ZbX {s : Z4} (hp : L <+: L') (h : Z1Y F L s = true) : Z1Y F L' s = true := by
 unfold Z1Y at h ⊢
 simp only [Bool.and_eq_true] at h ⊢
 exact ⟨h.1, Z3T hp h.2⟩
theorem Z7s {x : Z9} {S : List Z4} (hp : L <+: L') (h : Z14 F cn L x S = true) : Z14 F cn L' x S = true := by
 unfold Z14 Z4p at h ⊢
 simp only [Bool.and_eq_true] at h ⊢
 refine ⟨⟨⟨h.1.1.1, Z3T hp h.1.1.2⟩, h.1.2⟩, Z4J fun j hj => ?_⟩
 have := List.all_eq_true.1 h.2 j (List.mem_range.2 hj)
 unfold Z7b at this ⊢
 simp only [Bool.and_eq_true] at this ⊢
 exact ⟨this.1, ZbX hp this.2⟩
theorem Z6I {d : Z1d} (hp : L <+: L') (h : Z1m F L d = true) : Z1m F L' d = true := by
 unfold Z1m at h ⊢
 simp only [Bool.and_eq_true] at h ⊢
 exact ⟨h.1, Z3T hp h.2⟩
theorem Z9B {i : Int} {D : List Z1d} (hp : L <+: L') (h : Z1Q F L i D = true) : Z1Q F L' i D = true := by
 unfold Z1Q at h ⊢
 simp only [Bool.and_eq_true] at h ⊢
 refine ⟨Z4J fun j hj => ?_, h.2⟩
 have := List.all_eq_true.1 h.1 j (List.mem_range.2 hj)
 unfold Z2y at this ⊢
 simp only [Bool.and_eq_true] at this ⊢
 exact ⟨this.1, Z6I hp this.2⟩
theorem Z93 (hn : L.Nodup) : Z0M (Zg L ⟨p, s⟩) p (Ze (Zg L ⟨p, s⟩) ⟨p, s⟩) s = true := by
 unfold Z0M
 rw [decide_eq_true_eq]
 exact ⟨(Z1S (Z2m L _)).1, rfl⟩
end
structure TabOk (F : Int) (Lb : List Signed) (B : List Ck) (L : List CeR) : Prop where
 ct : ∀ c ∈ L, CeT B c
 sm : ∀ c ∈ L, Z3B ⟨c.x.cl, c.x.seq⟩
 rt : ∀ c ∈ L, Z14 F 3 Lb c.x c.S = true
 up : L.Pairwise fun a b => Z7j a b = true
section
variable {F last tm : Int} {Lb Lb' : List Signed} {B B' : List Ck} {L : List CeR} {x y z : CeR} {k : Nat} {A : Ck}
theorem TabOk.nil : TabOk F Lb B [] := ⟨by simp, by simp, by simp, List.Pairwise.nil⟩
theorem CeT.sub (h : CeT B x) (hs : ∀ A ∈ B, A ∈ B') : CeT B' x := ⟨h.x, h.S, h.len, hs _ h.bag⟩
theorem TabOk.more (h : TabOk F Lb B L) (hp : Lb <+: Lb') (hs : ∀ A ∈ B, A ∈ B') : TabOk F Lb' B' L :=
 ⟨fun c hc => (h.ct c hc).sub hs, h.sm, fun c hc => Z7s hp (h.rt c hc), h.up⟩
theorem ZbY (h1 : Z7j x y = true) (h2 : Z7j y z = true) : Z7j x z = true := by
 unfold Z7j at *
 simp only [Bool.or_eq_true, Bool.and_eq_true, decide_eq_true_eq] at *
 omega
theorem Zbs (h : Z7j x y = false) (hne : ¬ (y.x.cl = x.x.cl ∧ y.x.seq = x.x.seq)) : Z7j y x = true := by
 unfold Z7j at *
 simp only [Bool.or_eq_true, Bool.and_eq_true, Bool.or_eq_false_iff, Bool.and_eq_false_iff, decide_eq_true_eq, decide_eq_false_iff_not] at *
 omega
theorem Ze0 (h : (ZU L x.x.cl x.x.seq).isSome = false) : ∀ c ∈ L, ¬ (c.x.cl = x.x.cl ∧ c.x.seq = x.x.seq) := by
 intro c hc
 unfold ZU at h
 rw [Option.isSome_eq_false_iff, Option.isNone_iff_eq_none, List.find?_eq_none] at h
 simpa using h c hc
theorem TabOk.put (h : TabOk F Lb B L) (hx : CeT B x) (hs : Z3B ⟨x.x.cl, x.x.seq⟩) (hr : Z14 F 3 Lb x.x x.S = true) (hn : (ZU L x.x.cl x.x.seq).isSome = false) (hp : Zdo L x k) : TabOk F Lb B (L.take k ++ x :: L.drop k) := by
 have hm : ∀ c, c ∈ L.take k ++ x :: L.drop k → c = x ∨ c ∈ L := fun c hc => by
  rcases List.mem_append.1 hc with q | q
  ·exact .inr (List.mem_of_mem_take q)
  ·rcases List.mem_cons.1 q with q | q
   ·exact .inl q
   ·exact .inr (List.mem_of_mem_drop q)
 refine ⟨fun c hc => ?_, fun c hc => ?_, fun c hc => ?_, ?_⟩
 ·rcases hm c hc with rfl | q; exact hx; exact h.ct c q
 ·rcases hm c hc with rfl | q; exact hs; exact h.sm c q
 ·rcases hm c hc with rfl | q; exact hr; exact h.rt c q
 ·have hall := h.up
  rw [← List.take_append_drop k L, List.pairwise_append] at hall
  have hdrop : ∀ c ∈ L.drop k, Z7j x c = true := fun c hc => by
   obtain ⟨j, hj, e⟩ := List.mem_iff_getElem.1 hc
   rw [List.getElem_drop] at e
   rw [List.length_drop] at hj
   exact hp.up (k + j) (by omega) c (by rw [List.getElem?_eq_getElem (by omega), e])
  have htake : ∀ c ∈ L.take k, Z7j c x = true := fun c hc => by
   rcases hp.stop with h0 | ⟨y, hy, hl⟩
   ·rw [h0] at hc; simp at hc
   ·have hyl := List.mem_of_getElem? hy
    have h2 : Z7j y x = true := Zbs hl (Ze0 hn y hyl)
    have hk := (List.getElem?_eq_some_iff.1 hy)
    obtain ⟨hk1, hk2⟩ := hk
    have hk0 : 0 < k := by
     rcases Nat.eq_zero_or_pos k with e | e
     ·subst e; simp at hc
     ·exact e
    obtain ⟨j, hj, e⟩ := List.mem_iff_getElem.1 hc
    rw [List.getElem_take] at e
    rw [List.length_take] at hj
    rcases Nat.lt_or_ge j (k - 1) with q | q
    ·have := List.pairwise_iff_getElem.1 h.up j (k - 1) (by omega) hk1 q
     rw [hk2, e] at this
     exact ZbY this h2
    ·have : j = k - 1 := by omega
     subst this
     rw [← e, hk2]; exact h2
  rw [List.pairwise_append]
  refine ⟨hall.1, List.pairwise_cons.2 ⟨hdrop, hall.2.1⟩, fun a ha b hb => ?_⟩
  rcases List.mem_cons.1 hb with rfl | hb
  ·exact htake a ha
  ·exact hall.2.2 a ha b hb
theorem TabOk.span (h : TabOk F Lb B L) : TabOk F Lb B (Z2z L last tm) :=
 ⟨fun c hc => h.ct c (Z5o hc), fun c hc => h.sm c (Z5o hc), fun c hc => h.rt c (Z5o hc), h.up.filter _⟩
theorem Zca {c : CeR} (h : c ∈ Z2z L last tm) : last < Zj c.S ∧ Zj c.S ≤ tm := by
 have := (List.mem_filter.1 h).2
 simp only [Bool.and_eq_true, decide_eq_true_eq] at this
 exact ⟨this.1, this.2⟩
end
structure PrG (F last tm : Int) (Lb : List Signed) (B : List Ck) (p : PrR) : Prop where
 r : 0 ≤ p.r ∧ p.r < 3 * F + 1
 e : p.e = 4
 f : p.f = tm
 sb : p.sb = p.r
 sm : Z0M Lb p.sb p.sm (Z0R p) = true
 len : p.C.length ≤ 5
 inn : ceC p ∈ B
 tab : TabOk F Lb B p.C
 time : ∀ c ∈ p.C, last < Zj c.S ∧ Zj c.S ≤ tm
structure OpG (B : List Ck) (o : OpR) : Prop where
 i : 0 ≤ o.i ∧ o.i ≤ 6
 len : o.P.length = 1
 inn : opC o ∈ B
structure TbG (F : Int) (Lb : List Signed) (B : List Ck) (t : TbR) : Prop where
 i : 0 ≤ t.i ∧ t.i ≤ 6
 rt : Z1Q F Lb t.i t.D = true
 ok : ∀ d ∈ t.D, ZfD d
 len : t.D.length ≤ 12
 inn : tbC t ∈ B
section
variable {F last tm : Int} {Lb Lb' : List Signed} {B B' : List Ck} {p : PrR} {o : OpR} {t : TbR} {PS : List PrR} {n : Nat}
theorem PrG.more (h : PrG F last tm Lb B p) (hp : Lb <+: Lb') (hs : ∀ A ∈ B, A ∈ B') : PrG F last tm Lb' B' p :=
 ⟨h.r, h.e, h.f, h.sb, Z3T hp h.sm, h.len, hs _ h.inn, h.tab.more hp hs, h.time⟩
theorem OpG.more (h : OpG B o) (hs : ∀ A ∈ B, A ∈ B') : OpG B' o := ⟨h.i, h.len, hs _ h.inn⟩
theorem TbG.more (h : TbG F Lb B t) (hp : Lb <+: Lb') (hs : ∀ A ∈ B, A ∈ B') : TbG F Lb' B' t := ⟨h.i, Z9B hp h.rt, h.ok, h.len, hs _ h.inn⟩
theorem Z2M {A : Ck} : ∀ C ∈ B, C ∈ A :: B := fun _ h => List.mem_cons_of_mem _ h
theorem Z6h : ∀ C ∈ B, C ∈ B := fun _ h => h
structure PsG (F last tm : Int) (Lb : List Signed) (B : List Ck) (PS : List PrR) (n : Nat) : Prop where
 all : ∀ p ∈ PS, PrG F last tm Lb B p
 nums : PS.map (·.r) = (List.range n).map fun (i : Nat) => (i : Int)
theorem PsG.nil : PsG F last tm Lb B [] 0 := ⟨by simp, rfl⟩
theorem PsG.more (h : PsG F last tm Lb B PS n) (hp : Lb <+: Lb') (hs : ∀ A ∈ B, A ∈ B') : PsG F last tm Lb' B' PS n := ⟨fun p hm => (h.all p hm).more hp hs, h.nums⟩
theorem PsG.add (h : PsG F last tm Lb B PS n) (hp : PrG F last tm Lb B p) (hr : p.r = (n : Int)) : PsG F last tm Lb B (PS ++ [p]) (n + 1) := by
 refine ⟨fun q hq => ?_, ?_⟩
 ·rcases List.mem_append.1 hq with hq | hq
  ·exact h.all q hq
  ·rw [List.mem_singleton.1 hq]; exact hp
 ·rw [List.map_append, h.nums, List.range_succ, List.map_append]; simp [hr]
def PsF (F last tm : Int) (Lb : List Signed) (B : List Ck) (PS : List PrR) : Prop := PsG F last tm Lb B PS (3 * F + 1).toNat
theorem PsG.out (h : PsG F last tm Lb B PS n) (hn : (n : Int) = 3 * F + 1) : PsF F last tm Lb B PS := by
 unfold PsF; rw [← hn]; simpa using h
theorem PsG.length (h : PsG F last tm Lb B PS n) : PS.length = n := by
 have := congrArg List.length h.nums
 simpa using this
end
structure DenG (F : Int) (Lb : List Signed) (ix : Int) (D : List Z1d) (n : Nat) : Prop where
 nums : D.map (·.r) = (List.range n).map fun (i : Nat) => (i : Int)
 all : ∀ d ∈ D, d.i = ix ∧ Z1m F Lb d = true ∧ ZfD d
section
variable {F ix : Int} {Lb Lb' : List Signed} {D : List Z1d} {d : Z1d} {n : Nat}
theorem DenG.nil : DenG F Lb ix [] 0 := ⟨rfl, by simp⟩
theorem DenG.more (h : DenG F Lb ix D n) (hp : Lb <+: Lb') : DenG F Lb' ix D n := ⟨h.nums, fun d hd => ⟨(h.all d hd).1, Z6I hp (h.all d hd).2.1, (h.all d hd).2.2⟩⟩
theorem DenG.add (h : DenG F Lb ix D n) (h1 : d.i = ix) (h2 : Z1m F Lb d = true) (h3 : ZfD d) (hr : d.r = (n : Int)) : DenG F Lb ix (D ++ [d]) (n + 1) := by
 refine ⟨by rw [List.map_append, h.nums, List.range_succ, List.map_append]; simp [hr], fun q hq => ?_⟩
 rcases List.mem_append.1 hq with hq | hq
 ·exact h.all q hq
 ·rw [List.mem_singleton.1 hq]; exact ⟨h1, h2, h3⟩
theorem DenG.length (h : DenG F Lb ix D n) : D.length = n := by
 have := congrArg List.length h.nums
 simpa using this
theorem DenG.at (h : DenG F Lb ix D n) {i : Nat} (hi : i < n) : (D.getD i Z16).r = (i : Int) ∧ D.getD i Z16 ∈ D := by
 have hl := h.length
 have hg : D.getD i Z16 = D[i] := by rw [List.getD_eq_getElem?_getD, List.getElem?_eq_getElem (by omega)]; rfl
 have := congrArg (fun l => l[i]?) h.nums
 simp only [List.getElem?_map, List.getElem?_eq_getElem (show i < D.length by omega), List.getElem?_range hi, Option.map_some, Option.some.injEq] at this
 rw [hg]
 exact ⟨this, List.getElem_mem _⟩
theorem DenG.right (h : DenG F Lb ix D n) (hn : (n : Int) = 2 * F + 1) : Z1Q F Lb ix D = true := by
 have hl := h.length
 unfold Z1Q
 rw [Bool.and_eq_true]
 refine ⟨Z4J fun i hi => ?_, decide_eq_true (by omega)⟩
 obtain ⟨h1, h2⟩ := h.at (i := i) (by omega)
 obtain ⟨h3, h4, _⟩ := h.all _ h2
 unfold Z2y
 rw [h4, h3, decide_eq_true rfl]
 simp only [Bool.and_true]
 by_cases h0 : (i : Int) > 0
 ·obtain ⟨h5, _⟩ := h.at (i := i - 1) (by omega)
  rw [h1, h5, decide_eq_true h0, decide_eq_false (by omega)]; rfl
 ·rw [decide_eq_false h0]; rfl
end
section
variable {P : Program} {fn : Func} {R : Ending → World → Prop} {n : Nat} {f : Nat → Value} {w : World}
theorem end4 {r s t u : ResultVar} {v1 v2 v3 v4 : Value} (hr : fn.results = #[r, s, t, u]) (h1 : Z5k P n f w r v1) (h2 : Z5k P n f w s v2) (h3 : Z5k P n f w t v3) (h4 : Z5k P n f w u v4) (h : R (.returned (.tuple #[v1, v2, v3, v4])) w) : bodyPost P fn R .ret (fr n f) w :=
 ⟨rfl, _, by unfold Z5k at h1 h2 h3 h4; rw [Z4M, hr]; simp [h1, h2, h3, h4], h⟩
end
theorem Zdf {L : List Z4} {i : Nat} (h : i < L.length) : L.getD i Zf ∈ L := by
 rw [List.getD_eq_getElem?_getD, List.getElem?_eq_getElem h]; exact List.getElem_mem h
theorem Z5u {α : Type} {enc : α → List Value} {sz : Nat} (hs : ∀ x, (enc x).length = sz) (h0 : 0 < sz) {W w : World} {D : Nat → Prop} {G : List Ck} (H : Sat W G w) (is : List Nat) (j : Nat) {B : List Ck} (hB : (is.filterMap fun i => G[i]?) = B) (hj : G[j]? = some (Z3 W D)) (hne : is.all (fun i => !Nat.beq i j) = true) {va : Option Addr} {n vc : Nat} {ls : List α} (hv : ListAt enc sz W (.slice va n vc) ls) (hf : 0 < ls.length → ∀ ad, va = some ad → ¬ D ad.block) : 0 < ls.length → ∀ a, va = some a → ¬ (ZR B).fp a.block := by
 intro h1 a ha hfp
 obtain ⟨vb, vo, vc', hva, hvs⟩ := hv.cells hs h0 h1
 have h2 : va = some ⟨vb, vo, none⟩ := by simp only [Value.slice.injEq] at hva; exact hva.1
 have h3 := h2
 rw [ha] at h3
 obtain rfl := (Option.some.inj h3)
 have hl : 0 < (ls.flatMap enc).length := by rw [Z0A enc sz hs]; exact Nat.mul_pos h1 h0
 have hc := hvs 0 _ (List.getElem?_eq_getElem hl)
 rw [Addr.add_lit] at hc
 have hlt := World.block_lt_of_cell? W _ hc
 subst hB
 obtain ⟨A, hA, hAf⟩ := hfp
 obtain ⟨i, hi, he⟩ := List.mem_filterMap.1 hA
 have hij : Nat.beq i j = false := by simpa using List.all_eq_true.1 hne i hi
 exact H.apart i j he hj hij _ hAf ⟨hlt, hf h1 _ ha⟩
section
variable {α : Type} {num : α → Int} {may : α → Bool} {L D E : List α} {x y : α} {i : Nat}
def Zc2 (num : α → Int) (D : List α) (n : Int) : Bool := D.any fun o => decide (num o = n)
def Z53 (num : α → Int) (may : α → Bool) (D : List α) (x : α) : List α := if (!Zc2 num D (num x) && may x) = true then D ++ [x] else D
def Z13 (num : α → Int) (may : α → Bool) (L : List α) : List α := L.foldl (Z53 num may) []
theorem Z1g (h : L[i]? = some x) : Z13 num may (L.take (i + 1)) = Z53 num may (Z13 num may (L.take i)) x := by
 unfold Z13
 rw [List.take_add_one, h, Option.toList_some, List.foldl_append]; rfl
theorem Z6t (h1 : Zc2 num D (num x) = false) (h2 : may x = true) : Z53 num may D x = D ++ [x] := by
 unfold Z53; rw [h1, h2]; rfl
theorem Z6C (h1 : Zc2 num D (num x) = true) : Z53 num may D x = D := by
 unfold Z53; rw [h1]; rfl
theorem Z6p (h2 : may x = false) : Z53 num may D x = D := by
 unfold Z53; rw [h2, Bool.and_false]; rfl
theorem Zcv : (Z53 num may D x).length ≤ D.length + 1 := by
 unfold Z53; split <;> simp
theorem Zee (n : Int) : Zc2 num (D ++ [x]) n = (Zc2 num D n || decide (num x = n)) := by simp [Zc2]
theorem ZaZ {n : Int} : Zc2 num D n = true ↔ ∃ o ∈ D, num o = n := by simp [Zc2]
theorem Z7q (h : x ∈ Z13 num may L) : x ∈ L ∧ may x = true := by
 have key : ∀ (L D : List α), x ∈ L.foldl (Z53 num may) D → x ∈ D ∨ (x ∈ L ∧ may x = true) := by
  intro L
  induction L with
  | nil => intro D h; exact .inl h
  | cons y L ih =>
   intro D h
   rw [List.foldl_cons] at h
   rcases ih _ h with q | ⟨q, r⟩
   ·unfold Z53 at q
    split at q
    ·rename_i hc
     rcases List.mem_append.1 q with q | q
     ·exact .inl q
     ·rw [List.mem_singleton.1 q] at *
      rw [Bool.and_eq_true] at hc
      exact .inr ⟨by simp, hc.2⟩
    ·exact .inl q
   ·exact .inr ⟨List.mem_cons_of_mem _ q, r⟩
 rcases key L [] h with q | q
 ·simp at q
 ·exact q
theorem Z5W : (Z13 num may L).Pairwise fun a b => num a ≠ num b := by
 have key : ∀ (L D : List α), (D.Pairwise fun a b => num a ≠ num b) → (L.foldl (Z53 num may) D).Pairwise fun a b => num a ≠ num b := by
  intro L
  induction L with
  | nil => intro D h; exact h
  | cons y L ih =>
   intro D h
   rw [List.foldl_cons]
   refine ih _ ?_
   unfold Z53
   split
   ·rename_i hc
    rw [Bool.and_eq_true, Bool.not_eq_true'] at hc
    rw [List.pairwise_append]
    refine ⟨h, List.pairwise_singleton _ _, fun a ha b hb => ?_⟩
    rw [List.mem_singleton.1 hb]
    intro e
    have := ZaZ (num := num) (D := D) (n := num y) |>.2 ⟨a, ha, e⟩
    rw [this] at hc; exact absurd hc.1 (by decide)
   ·exact h
 exact key L [] List.Pairwise.nil
theorem Z9G (n : Int) : (Z13 num may L).find? (fun y => decide (num y = n)) = L.find? fun y => decide (num y = n) && may y := by
 have key : ∀ (L D : List α), (L.foldl (Z53 num may) D).find? (fun y => decide (num y = n)) = (D.find? fun y => decide (num y = n)).or (L.find? fun y => decide (num y = n) && may y) := by
  intro L
  induction L with
  | nil => intro D; simp
  | cons y L ih =>
   intro D
   rw [List.foldl_cons, ih]
   unfold Z53
   by_cases hc : (!Zc2 num D (num y) && may y) = true
   ·rw [if_pos hc, List.find?_append]
    rw [Bool.and_eq_true, Bool.not_eq_true'] at hc
    by_cases hn : num y = n
    ·rw [List.find?_cons, List.find?_cons, decide_eq_true hn, hc.2]; simp
    ·rw [List.find?_cons, List.find?_cons, decide_eq_false hn]; simp
   ·rw [if_neg hc]
    rw [List.find?_cons]
    by_cases hn : num y = n
    ·by_cases hm : may y = true
     ·have hh : Zc2 num D (num y) = true := by
       simp only [hm, Bool.and_true, Bool.not_eq_true', Bool.not_eq_false] at hc; exact hc
      obtain ⟨o, ho, e⟩ := ZaZ.1 hh
      have : (D.find? fun y => decide (num y = n)).isSome = true := List.find?_isSome.2 ⟨o, ho, by simp [e, hn]⟩
      obtain ⟨z, hz⟩ := Option.isSome_iff_exists.1 this
      rw [hz]; simp
     ·have hm' : may y = false := by simpa using hm
      rw [hm', Bool.and_false]
    ·rw [decide_eq_false hn, Bool.false_and]
 have := key L []
 unfold Z13
 simpa using this
theorem Zbm : x ∈ Z13 num may L ↔ L.find? (fun y => decide (num y = num x) && may y) = some x := by
 rw [← Z9G]
 constructor
 ·intro h
  obtain ⟨z, hz⟩ := Option.isSome_iff_exists.1 (List.find?_isSome (p := fun y => decide (num y = num x)) (xs := Z13 num may L) |>.2 ⟨x, h, by simp⟩)
  have h1 := List.mem_of_find?_eq_some hz
  have h2 := List.find?_some hz
  rw [hz]
  rw [decide_eq_true_eq] at h2
  by_cases e : z = x
  ·rw [e]
  ·exfalso
   have hd := Z5W (num := num) (may := may) (L := L)
   obtain ⟨i, hi, ei⟩ := List.mem_iff_getElem.1 h1
   obtain ⟨j, hj, ej⟩ := List.mem_iff_getElem.1 h
   rcases Nat.lt_trichotomy i j with q | q | q
   ·have := List.pairwise_iff_getElem.1 hd i j hi hj q
    rw [ei, ej] at this; exact this h2
   ·subst q; rw [ei] at ej; exact e ej
   ·have := List.pairwise_iff_getElem.1 hd j i hj hi q
    rw [ei, ej] at this; exact this h2.symm
 ·intro h; exact List.mem_of_find?_eq_some h
theorem Z5g : ∀ {D E : List α}, (D.Pairwise fun a b => num a < num b) → (E.Pairwise fun a b => num a < num b) → (∀ x, x ∈ D ↔ x ∈ E) → D = E
 | [], [], _, _, _ => rfl
 | [], y :: E, _, _, h => by have := (h y).2 (by simp); simp at this
 | x :: D, [], _, _, h => by have := (h x).1 (by simp); simp at this
 | x :: D, y :: E, hD, hE, h => by
  have h1 := List.pairwise_cons.1 hD
  have h2 := List.pairwise_cons.1 hE
  have e : x = y := by
   rcases List.mem_cons.1 ((h x).1 (by simp)) with q | q
   ·exact q
   ·rcases List.mem_cons.1 ((h y).2 (by simp)) with r | r
    ·exact r.symm
    ·have a := h2.1 x q
     have b := h1.1 y r
     omega
  subst e
  rw [Z5g h1.2 h2.2 fun z => ?_]
  constructor
  ·intro hz
   rcases List.mem_cons.1 ((h z).1 (List.mem_cons_of_mem _ hz)) with q | q
   ·have := h1.1 z hz; rw [q] at this; omega
   ·exact q
  ·intro hz
   rcases List.mem_cons.1 ((h z).2 (List.mem_cons_of_mem _ hz)) with q | q
   ·have := h2.1 z hz; rw [q] at this; omega
   ·exact q
structure SortN (num : α → Int) (may : α → Bool) (L D : List α) : Prop where
 perm : D.Perm (Z13 num may L)
 up : D.Pairwise fun a b => num a < num b
theorem SortN.of {lt : α → α → Prop} (hp : D.Perm (Z13 num may L)) (hs : D.Pairwise fun a b => ¬ num b < num a) : SortN num may L D := by
 refine ⟨hp, ?_⟩
 have hd : D.Pairwise fun a b => num a ≠ num b := (List.Perm.pairwise_iff (fun h => Ne.symm h) hp).2 Z5W
 exact (hs.and hd).imp fun h => by omega
theorem SortN.mem (h : SortN num may L D) : x ∈ D ↔ L.find? (fun y => decide (num y = num x) && may y) = some x := by
 rw [h.perm.mem_iff, Zbm]
theorem SortN.sub (h : SortN num may L D) (hx : x ∈ D) : x ∈ L ∧ may x = true := Z7q (h.perm.mem_iff.1 hx)
theorem SortN.same {L' D' : List α} (h : SortN num may L D) (h' : SortN num may L' D') (e : ∀ n, L.find? (fun y => decide (num y = n) && may y) = L'.find? fun y => decide (num y = n) && may y) : D = D' :=
 Z5g h.up h'.up fun x => by rw [h.mem, h'.mem, e]
theorem SortN.len (h : SortN num may L D) : D.length ≤ L.length := by
 rw [h.perm.length_eq]
 have key : ∀ n, (Z13 num may (L.take n)).length ≤ (L.take n).length := fun n => by
  induction n with
  | zero => simp [Z13]
  | succ n ih =>
   rcases Nat.lt_or_ge n L.length with q | q
   ·rw [Z1g (List.getElem?_eq_getElem q), List.take_add_one, List.getElem?_eq_getElem q]
    have := Zcv (num := num) (may := may) (D := Z13 num may (L.take n)) (x := L[n])
    simp only [Option.toList_some, List.length_append, List.length_cons, List.length_nil]
    omega
   ·rw [List.take_of_length_le (by omega)]; rw [List.take_of_length_le q] at ih; exact ih
 have := key L.length
 rwa [List.take_length] at this
def HvOk (M : List (Int × Bool)) (num : α → Int) (D : List α) : Prop := ∀ n : Int, (Zp M n).getD false = Zc2 num D n
theorem HvOk.nil : HvOk [] num ([] : List α) := fun n => by simp [Zp, Zc2]
theorem HvOk.put {M : List (Int × Bool)} (h : HvOk M num D) : HvOk (Z2j M (num x) true) num (D ++ [x]) := fun n => by
 rw [Zee]
 by_cases e : n = num x
 ·subst e; rw [Z5x, decide_eq_true rfl, Bool.or_true]; rfl
 ·rw [Z59 _ _ _ _ e, h n, decide_eq_false (fun q => e q.symm), Bool.or_false]
end
section
variable {P : Program} {t : TypeId} {X : Type} [DecidableEq X]
variable {enc : X → List Value}
end
section
variable {P : Program} {n : Nat} {f : Nat → Value} {w : World} {dst : Option Tmp} {ty : TypeId} {pos : String} {aft : Array Edge} {gd : Option (Nat × Bool)}
end
instance : DecidableEq Z1H := fun a b =>
 if h : a.cl = b.cl ∧ a.sq = b.sq ∧ a.h = b.h ∧ a.t = b.t then .isTrue (by cases a; cases b; simp_all) else .isFalse (fun e => h (by rw [e]; simp))
theorem Zaw (w : World) : (zeroValue 63).run Tryz.prog w = .ok (Z3N Z2L) w := by kernel_rfl
theorem Zcm (a b : Int) : Instr.sameBits 10000 (.agg ⟨[.int .i64 a, .int .i64 b]⟩) (.agg ⟨[.int .i64 a, .int .i64 b]⟩) = true := by simp [Instr.sameBits]
theorem nmK : KeyTy Tryz.prog 59 nmV := KeyTy.deep (by kernel_rfl) (fun w em a => by cases em <;> kernel_rfl) (fun w x y => by
 simp only [Op.equal, Op.maxDepth, nmV, Z2b]
 simp [go_sem]
 obtain ⟨x1, x2⟩ := x
 obtain ⟨y1, y2⟩ := y
 by_cases h1 : x1 = y1 <;> by_cases h2 : x2 = y2 <;> simp_all) (fun a => Zcm _ _)
theorem ZaR {n : Nat} {f : Nat → Value} {w : World} {dst : Option Tmp} {ty : TypeId} {pos : String} {aft : Array Edge} {gd : Option (Nat × Bool)} {x y : Operand} {T : TypeId} (a b c d : Int) (hx : ev n f x = .agg ⟨[.int .i64 a, .int .i64 b]⟩) (hy : ev n f y = .agg ⟨[.int .i64 c, .int .i64 d]⟩) :
  (execOp (ev n f) ⟨dst, .binOp .eql 59 x y T, ty, pos, aft, gd⟩).run Tryz.prog w = .ok (.value (.bool (decide (a = c ∧ b = d)))) w := by
 simp only [execOp, hx, hy]
 simp [go_sem]
 by_cases h1 : a = c <;> by_cases h2 : b = d <;> simp_all
end Go.Proofs.YtenihpghfdcpkaaGreat
