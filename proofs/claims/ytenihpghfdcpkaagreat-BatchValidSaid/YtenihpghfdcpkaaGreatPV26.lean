/- WHAT IS PROVED: contracts and plain laws of ParD, ShaQ. Conditions: stated with each. -/
import Derived.Test.YtenihpghfdcpkaaGreatPV02
import Derived.Test.YtenihpghfdcpkaaGreatPV10
import Derived.Test.YtenihpghfdcpkaaGreatPV11
import Derived.Test.YtenihpghfdcpkaaGreatPV13
import Derived.Test.YtenihpghfdcpkaaGreatPV23
import Derived.Test.YtenihpghfdcpkaaGreatPV24
set_option maxHeartbeats 4000000
set_option maxRecDepth 100000
namespace Go.Proofs.YtenihpghfdcpkaaGreat
open Go.RowKit
structure OpR where
 i : Int
 pa : Option Addr
 pc : Nat
 P : List UInt8
 h : Hash
def Z0J (o : OpR) : List Value := [i6 o.i, .slice o.pa o.P.length o.pc] ++ hc o.h
theorem Z0D (o : OpR) : (Z0J o).length = 34 := by simp [Z0J, Zck]
theorem Z4n (o : OpR) : (Z0J o).all (·.oneCell') = true := by
 simp only [Z0J, List.all_append, Z98]
 simp [Value.oneCell', Z51]
def op0 : OpR := ⟨0, none, 0, [], Zz⟩
structure TbR where
 i : Int
 da : Option Addr
 dc : Nat
 D : List Z1s
def Z16 (t : TbR) : List Value := [i6 t.i, .slice t.da t.D.length t.dc]
theorem Z0n (t : TbR) : (Z16 t).length = 2 := rfl
theorem Z9j (t : TbR) : (Z16 t).all (·.oneCell') = true := rfl
def tb0 : TbR := ⟨0, none, 0, []⟩
def opC (o : OpR) : Ck := Zo 5 1 (.slice o.pa o.P.length o.pc) o.P.length (o.P.flatMap Zx)
def tbC (t : TbR) : Ck := Zo 122 4 (.slice t.da t.D.length t.dc) t.D.length (t.D.flatMap Z4v)
structure TmR where
 ta : Option Addr
 tc : Nat
 xs : List Int
def ZbW (t : TmR) : List Value := [.slice t.ta t.xs.length t.tc]
theorem ZbD (t : TmR) : (ZbW t).length = 1 := rfl
def tm0 : TmR := ⟨none, 0, []⟩
def ZbZ (x : Int) : List Value := [i6 x]
theorem Z7L (x : Int) : (ZbZ x).length = 1 := rfl
def TmOk (w : World) (t : TmR) : Prop := ListAt Z4b 1 w (.slice t.ta t.xs.length t.tc) t.xs ∧ ∀ x ∈ t.xs, 0 ≤ x ∧ x ≤ 18446744073709551615
theorem Z6c {L : List TmR} {i : Nat} (h : i < L.length) : L.getD i tm0 ∈ L := by
 rw [List.getD_eq_getElem?_getD, List.getElem?_eq_getElem h]; exact List.getElem_mem h
section
variable {L L' L2 : List Signed} {x y : Signed} {p m F cn : Int} {s : List UInt8} {B B' : List Ck}
theorem Zak : L <+: L := List.prefix_refl L
theorem Z3V : L <+: Zy L y := by unfold Zy; split; exact List.prefix_refl _; exact List.prefix_append _ _
theorem Zb0 (h : L <+: L') (hy : y ∈ L) : Zr L' y = Zr L y := by
 obtain ⟨m, rfl⟩ := h; exact Z7l hy m
theorem Z7B (h : Z0B L p m s = true) : (⟨p, s⟩ : Signed) ∈ L := by
 by_cases q : (⟨p, s⟩ : Signed) ∈ L
 ·exact q
 ·exfalso
  unfold Z0B at h
  have := of_decide_eq_true h
  rw [Z6I q] at this
  omega
theorem Z3G (hp : L <+: L') (h : Z0B L p m s = true) : Z0B L' p m s = true := by
 have hm := Z7B h
 unfold Z0B at h ⊢
 rw [Zb0 hp hm]; exact h
theorem ZaM {s : Zb} (hp : L <+: L') (h : Z1w F L s = true) : Z1w F L' s = true := by
 unfold Z1w at h ⊢
 simp only [Bool.and_eq_true] at h ⊢
 exact ⟨h.1, Z3G hp h.2⟩
theorem Z7g {x : Zj} {S : List Zb} (hp : L <+: L') (h : Z0z F cn L x S = true) : Z0z F cn L' x S = true := by
 unfold Z0z Z2r at h ⊢
 simp only [Bool.and_eq_true] at h ⊢
 refine ⟨⟨⟨h.1.1.1, Z3G hp h.1.1.2⟩, h.1.2⟩, Z1r fun j hj => ?_⟩
 have := List.all_eq_true.1 h.2 j (List.mem_range.2 hj)
 unfold Z3E at this ⊢
 simp only [Bool.and_eq_true] at this ⊢
 exact ⟨this.1, ZaM hp this.2⟩
theorem Z6t {d : Z1s} (hp : L <+: L') (h : Z0Q F L d = true) : Z0Q F L' d = true := by
 unfold Z0Q at h ⊢
 simp only [Bool.and_eq_true] at h ⊢
 exact ⟨h.1, Z3G hp h.2⟩
theorem Z9O {i : Int} {D : List Z1s} (hp : L <+: L') (h : Z0j F L i D = true) : Z0j F L' i D = true := by
 unfold Z0j at h ⊢
 simp only [Bool.and_eq_true] at h ⊢
 refine ⟨Z1r fun j hj => ?_, h.2⟩
 have := List.all_eq_true.1 h.1 j (List.mem_range.2 hj)
 unfold Z19 at this ⊢
 simp only [Bool.and_eq_true] at this ⊢
 exact ⟨this.1, Z6t hp this.2⟩
theorem Z8P (hn : L.Nodup) : Z0B (Zy L ⟨p, s⟩) p (Zr (Zy L ⟨p, s⟩) ⟨p, s⟩) s = true := by
 unfold Z0B
 rw [decide_eq_true_eq]
 exact ⟨(Z1M (Z2d L _)).1, rfl⟩
end
structure TabOk (F : Int) (Lb : List Signed) (B : List Ck) (L : List CeR) : Prop where
 ct : ∀ c ∈ L, CeT B c
 sm : ∀ c ∈ L, Z3q ⟨c.x.cl, c.x.seq⟩
 rt : ∀ c ∈ L, Z0z F 3 Lb c.x c.S = true
 up : L.Pairwise fun a b => Z4Z a b = true
section
variable {F last tm : Int} {Lb Lb' : List Signed} {B B' : List Ck} {L : List CeR} {x y z : CeR} {k : Nat} {A : Ck}
theorem TabOk.nil : TabOk F Lb B [] := ⟨by simp, by simp, by simp, List.Pairwise.nil⟩
theorem CeT.sub (h : CeT B x) (hs : ∀ A ∈ B, A ∈ B') : CeT B' x := ⟨h.x, h.S, h.len, hs _ h.bag⟩
theorem TabOk.more (h : TabOk F Lb B L) (hp : Lb <+: Lb') (hs : ∀ A ∈ B, A ∈ B') : TabOk F Lb' B' L :=
 ⟨fun c hc => (h.ct c hc).sub hs, h.sm, fun c hc => Z7g hp (h.rt c hc), h.up⟩
theorem ZaY (h1 : Z4Z x y = true) (h2 : Z4Z y z = true) : Z4Z x z = true := by
 unfold Z4Z at *
 simp only [Bool.or_eq_true, Bool.and_eq_true, decide_eq_true_eq] at *
 omega
theorem ZaU (h : Z4Z x y = false) (hne : ¬ (y.x.cl = x.x.cl ∧ y.x.seq = x.x.seq)) : Z4Z y x = true := by
 unfold Z4Z at *
 simp only [Bool.or_eq_true, Bool.and_eq_true, Bool.or_eq_false_iff, Bool.and_eq_false_iff, decide_eq_true_eq, decide_eq_false_iff_not] at *
 omega
theorem ZcZ (h : (Z0d L x.x.cl x.x.seq).isSome = false) : ∀ c ∈ L, ¬ (c.x.cl = x.x.cl ∧ c.x.seq = x.x.seq) := by
 intro c hc
 unfold Z0d at h
 rw [Option.isSome_eq_false_iff, Option.isNone_iff_eq_none, List.find?_eq_none] at h
 simpa using h c hc
theorem TabOk.put (h : TabOk F Lb B L) (hx : CeT B x) (hs : Z3q ⟨x.x.cl, x.x.seq⟩) (hr : Z0z F 3 Lb x.x x.S = true) (hn : (Z0d L x.x.cl x.x.seq).isSome = false) (hp : Zbo L x k) : TabOk F Lb B (L.take k ++ x :: L.drop k) := by
 have hm : ∀ c, c ∈ L.take k ++ x :: L.drop k → c = x ∨ c ∈ L := fun c hc => by
  rcases List.mem_append.1 hc with q | q
  ·exact .inr (List.mem_of_mem_take q)
  ·rcases List.mem_cons.1 q with q | q
   ·exact .inl q
   ·exact .inr (List.mem_of_mem_drop q)
 refine ⟨fun c hc => ?_, fun c hc => ?_, fun c hc => ?_, ?_⟩
 ·rcases hm c hc with rfl | q; exact hx; exact h.ct c q
 ·rcases hm c hc with rfl | q; exact hs; exact h.sm c q
 ·rcases hm c hc with rfl | q; exact hr; exact h.rt c q
 ·have hall := h.up
  rw [← List.take_append_drop k L, List.pairwise_append] at hall
  have hdrop : ∀ c ∈ L.drop k, Z4Z x c = true := fun c hc => by
   obtain ⟨j, hj, e⟩ := List.mem_iff_getElem.1 hc
   rw [List.getElem_drop] at e
   rw [List.length_drop] at hj
   exact hp.up (k + j) (by omega) c (by rw [List.getElem?_eq_getElem (by omega), e])
  have htake : ∀ c ∈ L.take k, Z4Z c x = true := fun c hc => by
   rcases hp.stop with h0 | ⟨y, hy, hl⟩
   ·rw [h0] at hc; simp at hc
   ·have hyl := List.mem_of_getElem? hy
    have h2 : Z4Z y x = true := ZaU hl (ZcZ hn y hyl)
    have hk := (List.getElem?_eq_some_iff.1 hy)
    obtain ⟨hk1, hk2⟩ := hk
    have hk0 : 0 < k := by
     rcases Nat.eq_zero_or_pos k with e | e
     ·subst e; simp at hc
     ·exact e
    obtain ⟨j, hj, e⟩ := List.mem_iff_getElem.1 hc
    rw [List.getElem_take] at e
    rw [List.length_take] at hj
    rcases Nat.lt_or_ge j (k - 1) with q | q
    ·have := List.pairwise_iff_getElem.1 h.up j (k - 1) (by omega) hk1 q
     rw [hk2, e] at this
     exact ZaY this h2
    ·have : j = k - 1 := by omega
     subst this
     rw [← e, hk2]; exact h2
  rw [List.pairwise_append]
  refine ⟨hall.1, List.pairwise_cons.2 ⟨hdrop, hall.2.1⟩, fun a ha b hb => ?_⟩
  rcases List.mem_cons.1 hb with rfl | hb
  ·exact htake a ha
  ·exact hall.2.2 a ha b hb
theorem TabOk.span (h : TabOk F Lb B L) : TabOk F Lb B (Z2C L last tm) :=
 ⟨fun c hc => h.ct c (Z59 hc), fun c hc => h.sm c (Z59 hc), fun c hc => h.rt c (Z59 hc), h.up.filter _⟩
theorem Zch {c : CeR} (h : c ∈ Z2C L last tm) : last < ZZ c.S ∧ ZZ c.S ≤ tm := by
 have := (List.mem_filter.1 h).2
 simp only [Bool.and_eq_true, decide_eq_true_eq] at this
 exact ⟨this.1, this.2⟩
end
structure PrG (F last tm : Int) (Lb : List Signed) (B : List Ck) (p : PrR) : Prop where
 r : 0 ≤ p.r ∧ p.r < 3 * F + 1
 e : p.e = 4
 f : p.f = tm
 sb : p.sb = p.r
 sm : Z0B Lb p.sb p.sm (Z11 p) = true
 len : p.C.length ≤ 5
 inn : ceC p ∈ B
 tab : TabOk F Lb B p.C
 time : ∀ c ∈ p.C, last < ZZ c.S ∧ ZZ c.S ≤ tm
structure OpG (B : List Ck) (o : OpR) : Prop where
 i : 0 ≤ o.i ∧ o.i ≤ 6
 len : o.P.length = 1
 inn : opC o ∈ B
structure TbG (F : Int) (Lb : List Signed) (B : List Ck) (t : TbR) : Prop where
 i : 0 ≤ t.i ∧ t.i ≤ 6
 rt : Z0j F Lb t.i t.D = true
 ok : ∀ d ∈ t.D, ZcP d
 len : t.D.length ≤ 12
 inn : tbC t ∈ B
section
variable {F last tm : Int} {Lb Lb' : List Signed} {B B' : List Ck} {p : PrR} {o : OpR} {t : TbR} {PS : List PrR} {n : Nat}
theorem PrG.more (h : PrG F last tm Lb B p) (hp : Lb <+: Lb') (hs : ∀ A ∈ B, A ∈ B') : PrG F last tm Lb' B' p :=
 ⟨h.r, h.e, h.f, h.sb, Z3G hp h.sm, h.len, hs _ h.inn, h.tab.more hp hs, h.time⟩
theorem OpG.more (h : OpG B o) (hs : ∀ A ∈ B, A ∈ B') : OpG B' o := ⟨h.i, h.len, hs _ h.inn⟩
theorem TbG.more (h : TbG F Lb B t) (hp : Lb <+: Lb') (hs : ∀ A ∈ B, A ∈ B') : TbG F Lb' B' t := ⟨h.i, Z9O hp h.rt, h.ok, h.len, hs _ h.inn⟩
theorem Z2H {A : Ck} : ∀ C ∈ B, C ∈ A :: B := fun _ h => List.mem_cons_of_mem _ h
theorem Z62 : ∀ C ∈ B, C ∈ B := fun _ h => h
structure PsG (F last tm : Int) (Lb : List Signed) (B : List Ck) (PS : List PrR) (n : Nat) : Prop where
 all : ∀ p ∈ PS, PrG F last tm Lb B p
 nums : PS.map (·.r) = (List.range n).map fun (i : Nat) => (i : Int)
theorem PsG.nil : PsG F last tm Lb B [] 0 := ⟨by simp, rfl⟩
theorem PsG.more (h : PsG F last tm Lb B PS n) (hp : Lb <+: Lb') (hs : ∀ A ∈ B, A ∈ B') : PsG F last tm Lb' B' PS n := ⟨fun p hm => (h.all p hm).more hp hs, h.nums⟩
theorem PsG.add (h : PsG F last tm Lb B PS n) (hp : PrG F last tm Lb B p) (hr : p.r = (n : Int)) : PsG F last tm Lb B (PS ++ [p]) (n + 1) := by
 refine ⟨fun q hq => ?_, ?_⟩
 ·rcases List.mem_append.1 hq with hq | hq
  ·exact h.all q hq
  ·rw [List.mem_singleton.1 hq]; exact hp
 ·rw [List.map_append, h.nums, List.range_succ, List.map_append]; simp [hr]
def PsF (F last tm : Int) (Lb : List Signed) (B : List Ck) (PS : List PrR) : Prop := PsG F last tm Lb B PS (3 * F + 1).toNat
theorem PsG.out (h : PsG F last tm Lb B PS n) (hn : (n : Int) = 3 * F + 1) : PsF F last tm Lb B PS := by
 unfold PsF; rw [← hn]; simpa using h
theorem PsG.length (h : PsG F last tm Lb B PS n) : PS.length = n := by
 have := congrArg List.length h.nums
 simpa using this
end
structure DenG (F : Int) (Lb : List Signed) (ix : Int) (D : List Z1s) (n : Nat) : Prop where
 nums : D.map (·.r) = (List.range n).map fun (i : Nat) => (i : Int)
 all : ∀ d ∈ D, d.i = ix ∧ Z0Q F Lb d = true ∧ ZcP d
section
variable {F ix : Int} {Lb Lb' : List Signed} {D : List Z1s} {d : Z1s} {n : Nat}
theorem DenG.nil : DenG F Lb ix [] 0 := ⟨rfl, by simp⟩
theorem DenG.more (h : DenG F Lb ix D n) (hp : Lb <+: Lb') : DenG F Lb' ix D n := ⟨h.nums, fun d hd => ⟨(h.all d hd).1, Z6t hp (h.all d hd).2.1, (h.all d hd).2.2⟩⟩
theorem DenG.add (h : DenG F Lb ix D n) (h1 : d.i = ix) (h2 : Z0Q F Lb d = true) (h3 : ZcP d) (hr : d.r = (n : Int)) : DenG F Lb ix (D ++ [d]) (n + 1) := by
 refine ⟨by rw [List.map_append, h.nums, List.range_succ, List.map_append]; simp [hr], fun q hq => ?_⟩
 rcases List.mem_append.1 hq with hq | hq
 ·exact h.all q hq
 ·rw [List.mem_singleton.1 hq]; exact ⟨h1, h2, h3⟩
theorem DenG.length (h : DenG F Lb ix D n) : D.length = n := by
 have := congrArg List.length h.nums
 simpa using this
theorem DenG.at (h : DenG F Lb ix D n) {i : Nat} (hi : i < n) : (D.getD i Z0F).r = (i : Int) ∧ D.getD i Z0F ∈ D := by
 have hl := h.length
 have hg : D.getD i Z0F = D[i] := by rw [List.getD_eq_getElem?_getD, List.getElem?_eq_getElem (by omega)]; rfl
 have := congrArg (fun l => l[i]?) h.nums
 simp only [List.getElem?_map, List.getElem?_eq_getElem (show i < D.length by omega), List.getElem?_range hi, Option.map_some, Option.some.injEq] at this
 rw [hg]
 exact ⟨this, List.getElem_mem _⟩
theorem DenG.right (h : DenG F Lb ix D n) (hn : (n : Int) = 2 * F + 1) : Z0j F Lb ix D = true := by
 have hl := h.length
 unfold Z0j
 rw [Bool.and_eq_true]
 refine ⟨Z1r fun i hi => ?_, decide_eq_true (by omega)⟩
 obtain ⟨h1, h2⟩ := h.at (i := i) (by omega)
 obtain ⟨h3, h4, _⟩ := h.all _ h2
 unfold Z19
 rw [h4, h3, decide_eq_true rfl]
 simp only [Bool.and_true]
 by_cases h0 : (i : Int) > 0
 ·obtain ⟨h5, _⟩ := h.at (i := i - 1) (by omega)
  rw [h1, h5, decide_eq_true h0, decide_eq_false (by omega)]; rfl
 ·rw [decide_eq_false h0]; rfl
end
section
variable {P : Program} {fn : Func} {R : Ending → World → Prop} {n : Nat} {f : Nat → Value} {w : World}
theorem end4 {r s t u : ResultVar} {v1 v2 v3 v4 : Value} (hr : fn.results = #[r, s, t, u]) (h1 : Z5q P n f w r v1) (h2 : Z5q P n f w s v2) (h3 : Z5q P n f w t v3) (h4 : Z5q P n f w u v4) (h : R (.returned (.tuple #[v1, v2, v3, v4])) w) : bodyPost P fn R .ret (fr n f) w :=
 ⟨rfl, _, by unfold Z5q at h1 h2 h3 h4; rw [Z4F, hr]; simp [h1, h2, h3, h4], h⟩
end
theorem Zcn {L : List Zb} {i : Nat} (h : i < L.length) : L.getD i Zl ∈ L := by
 rw [List.getD_eq_getElem?_getD, List.getElem?_eq_getElem h]; exact List.getElem_mem h
theorem Z5g {α : Type} {enc : α → List Value} {sz : Nat} (hs : ∀ x, (enc x).length = sz) (h0 : 0 < sz) {W w : World} {D : Nat → Prop} {G : List Ck} (H : Sat W G w) (is : List Nat) (j : Nat) {B : List Ck} (hB : (is.filterMap fun i => G[i]?) = B) (hj : G[j]? = some (ZQ W D)) (hne : is.all (fun i => !Nat.beq i j) = true) {va : Option Addr} {n vc : Nat} {ls : List α} (hv : ListAt enc sz W (.slice va n vc) ls) (hf : 0 < ls.length → ∀ ad, va = some ad → ¬ D ad.block) : 0 < ls.length → ∀ a, va = some a → ¬ (Z0h B).fp a.block := by
 intro h1 a ha hfp
 obtain ⟨vb, vo, vc', hva, hvs⟩ := hv.cells hs h0 h1
 have h2 : va = some ⟨vb, vo, none⟩ := by simp only [Value.slice.injEq] at hva; exact hva.1
 have h3 := h2
 rw [ha] at h3
 obtain rfl := (Option.some.inj h3)
 have hl : 0 < (ls.flatMap enc).length := by rw [Z2i enc sz hs]; exact Nat.mul_pos h1 h0
 have hc := hvs 0 _ (List.getElem?_eq_getElem hl)
 rw [Addr.add_lit] at hc
 have hlt := World.block_lt_of_cell? W _ hc
 subst hB
 obtain ⟨A, hA, hAf⟩ := hfp
 obtain ⟨i, hi, he⟩ := List.mem_filterMap.1 hA
 have hij : Nat.beq i j = false := by simpa using List.all_eq_true.1 hne i hi
 exact H.apart i j he hj hij _ hAf ⟨hlt, hf h1 _ ha⟩
theorem ZdV (k : IntKind) (a b : Int) : bOr k a b = bOr k b a := by unfold bOr; rw [BitVec.or_comm]
theorem Zdo (x n s : Int) (hs : s = 32 - n) : bOr .u32 (Z2A .u32 x s) (x / 2 ^ (min (32 - s).toNat 32)) = Z0b x n := by
 unfold Z0b
 rw [ZdV, hs, show 32 - (32 - n) = n by omega]
def Zbl (s : List UInt8) : Int := bOr .u32 (bOr .u32 (bOr .u32 (Z2A .u32 (IntKind.u32.wrap ((s.getD 0 0).toNat : Int)) 24) (Z2A .u32 (IntKind.u32.wrap ((s.getD 1 0).toNat : Int)) 16)) (Z2A .u32 (IntKind.u32.wrap ((s.getD 2 0).toNat : Int)) 8)) (IntKind.u32.wrap ((s.getD 3 0).toNat : Int))
def wLq (s : List UInt8) : Nat → List Int
 | 0 => List.replicate 64 0
 | i + 1 => (wLq s i).set i (Zbl (s.drop (4 * i)))
def wOq (s : List UInt8) : List Int := wEx (wLq s 16) 48
theorem wLq_eq (D : List UInt8) (b : Nat) (i : Nat) : wLq (D.drop (64 * b)) i = wLd D b i := by
 induction i with
 | zero => rfl
 | succ i ih =>
  show (wLq (D.drop (64 * b)) i).set i (Zbl ((D.drop (64 * b)).drop (4 * i))) = ldS D b i (wLd D b i)
  rw [ih, List.drop_drop]
  rfl
theorem wOq_eq (D : List UInt8) (b : Nat) : wOq (D.drop (64 * b)) = wOf D b := by unfold wOq wOf; rw [wLq_eq]
def ZcF (HH : List Int) (s : List UInt8) : List Int := hAd (vRu (wOq s) HH 64) HH 8
theorem Zdv (D : List UInt8) (b : Nat) : ZeX D (b + 1) = ZcF (ZeX D b) (D.drop (64 * b)) := by unfold ZcF; rw [wOq_eq]; rfl
theorem ZeL (V HH : List Int) (i : Nat) : (hAd V HH i).length = HH.length := by
 induction i with
 | zero => rfl
 | succ i ih => simp [hAd, adS, ih]
theorem Zdx (HH : List Int) (s : List UInt8) : (ZcF HH s).length = HH.length := ZeL _ _ _
def oIn (h : Int) (i : Nat) (O : List Int) : Nat → List Int
 | 0 => O
 | j + 1 => (oIn h i O j).set (4 * i + j) (IntKind.u8.wrap (h / 2 ^ (min (24 - 8 * (j : Int)).toNat 32)))
theorem Zd0 (HH : List Int) (i : Nat) (O : List Int) : oIn (HH.getD i 0) i O 4 = ouS HH i O := by
 unfold ouS
 simp [oIn]
theorem ZbQ (bits : Int) (q : Nat) : ZcT bits (q + 1) = ZcT bits q ++ [UInt8.ofNat (IntKind.u8.wrap (bits / 2 ^ (min (56 - 8 * (q : Int)).toNat 64))).toNat] := by
 rw [Zas, show (8 * (7 - (q : Int))) = 56 - 8 * (q : Int) by omega]
theorem shl3 {n : Nat} (h : n ≤ 1000000) : Z2A .u64 (n : Int) 3 = (n : Int) * 8 := by
 unfold Z2A
 exact Z1h (by rw [show (2 : Int) ^ (min (3 : Int).toNat IntKind.u64.bits) = 8 from rfl]; omega)
theorem ZcC {a : Option Addr} {n c k : Nat} {s : List UInt8} {w : World} (hk : k ≤ n) (h : (Z1y (.slice a n c) s).ok w) : (Z1y (.slice (if c = k then a else a.map (·.add (k * 1))) (n - k) (c - k)) (s.drop k)).ok w := Z25 (ListAt.dropG (ListAt.ofTxt h) hk)
theorem Zba {a : Option Addr} {n c k : Nat} {s : List UInt8} {b : Nat} (h : (Z1y (.slice (if c = k then a else a.map (·.add (k * 1))) (n - k) (c - k)) (s.drop k)).fp b) : (Z1y (.slice a n c) s).fp b := by
 obtain ⟨h0, hb⟩ := h
 refine ⟨by rw [List.length_drop] at h0; omega, ?_⟩
 cases a with
 | none => simp [Value.ownBlock] at hb
 | some ad =>
  rcases ad with ⟨g, o, f⟩
  split at hb
  ·exact hb
  ·simp only [Option.map_some, Value.ownBlock, Addr.add, Option.some.injEq] at hb ⊢
   split at hb <;> exact hb
section
variable {P : Program} {n : Nat} {f : Nat → Value} {w : World} {dst : Option Tmp} {ty : TypeId} {pos : String} {aft : Array Edge} {gd : Option (Nat × Bool)}
theorem ZaS {T E N : TypeId} {x y : Operand} {k ky : IntKind} {A : List Int} {z : Int} {q : Nat} (hT : P.underlying T = some (.array N E)) (hA : A.length = N) (hs : P.cellsOf E = 1) (hc : Z7m P E = true) (hx : ev n f x = .agg ⟨A.map (Value.int k)⟩) (hy : ev n f y = .int ky z) (hz : z = (q : Int)) (hq : q < N) :
  (execOp (ev n f) ⟨dst, .index T x y, ty, pos, aft, gd⟩).run P w = .ok (.value (.int k (A.getD q 0))) w := by
 subst hz
 have hq' : q < A.length := by omega
 simp only [execOp, hx, hy, Instr.index, asIntOf]
 simp [run_underlying hT, hq, Result.andThen, Z4M hc, Z15 hs (by decide), part, List.getD_eq_getElem?_getD, List.getElem?_eq_getElem hq']
end
section
variable {P : Program} {ops : Array Oper} {S : World → Prop} {Q : Exit → Act → World → Prop} {n : Nat} {f : Nat → Value} {w : World} {listed : Array Bool} {fuel : Nat}
theorem h_do3 {o1 o2 o3 : Oper} (i j k : Nat) (hi : ops[i]? = some o1) (hj : ops[j]? = some o2) (hk : ops[k]? = some o3) (hr : Region.ready .any ops listed = [i, j, k]) (hw1 : Z2D ops o1 n f true) (hw2 : Z2D ops o2 n f true) (hw3 : Z2D ops o3 n f true)
  (k1 : ∀ K : Act → World → Prop, (∀ g w', S w' → (WH P ops Q S fuel (listed.setIfInBounds i true) n g w') → K (fr n g) w') → WO P o1 K Q n f w)
  (k2 : ∀ K : Act → World → Prop, (∀ g w', S w' → (WH P ops Q S fuel (listed.setIfInBounds j true) n g w') → K (fr n g) w') → WO P o2 K Q n f w)
  (k3 : ∀ K : Act → World → Prop, (∀ g w', S w' → (WH P ops Q S fuel (listed.setIfInBounds k true) n g w') → K (fr n g) w') → WO P o3 K Q n f w) : WH P ops Q S (fuel + 1) listed n f w := by
 refine ⟨wpAnyH_all hr (by simp) fun q hq => ?_⟩
 rcases List.mem_cons.1 hq with rfl | hq
 ·refine wpOp_step hi fun K' hK => ?_
  rw [if_pos hw1.h]
  exact (k1 K' fun g w' hS hk => hK _ _ ⟨hS, hk.h⟩).h
 rcases List.mem_cons.1 hq with rfl | hq
 ·refine wpOp_step hj fun K' hK => ?_
  rw [if_pos hw2.h]
  exact (k2 K' fun g w' hS hk => hK _ _ ⟨hS, hk.h⟩).h
 ·obtain rfl := List.mem_singleton.1 hq
  refine wpOp_step hk fun K' hK => ?_
  rw [if_pos hw3.h]
  exact (k3 K' fun g w' hS hk => hK _ _ ⟨hS, hk.h⟩).h
end
end Go.Proofs.YtenihpghfdcpkaaGreat
