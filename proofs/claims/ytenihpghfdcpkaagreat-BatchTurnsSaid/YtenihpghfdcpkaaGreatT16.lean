/- WHAT IS PROVED: contracts and plain laws of ParD, FstD, Eqs, Strs, EntE. Conditions: stated with each. -/
import Derived.ChangeKeysEq
import Derived.Laws.IdiomStrings
import Derived.Test.YtenihpghfdcpkaaGreatT03
import Derived.Test.YtenihpghfdcpkaaGreatT04
import Derived.Test.YtenihpghfdcpkaaGreatT11
import Derived.Test.YtenihpghfdcpkaaGreatT15
set_option maxHeartbeats 4000000
set_option maxRecDepth 100000
namespace Go.Proofs.YtenihpghfdcpkaaGreat
open Go.RowKit
structure OpR where
 i : Int
 pa : Option Addr
 pc : Nat
 P : List UInt8
 h : Hash
def encOp (o : OpR) : List Value := [.int .i64 o.i, .slice o.pa o.P.length o.pc] ++ hc o.h
theorem encOp_len (o : OpR) : (encOp o).length = 34 := by simp [encOp, hc_len]
theorem encOp_one (o : OpR) : (encOp o).all (·.oneCell') = true := by
 simp only [encOp, List.all_append, hc_eq]
 simp [Value.oneCell', byteV]
def op0 : OpR := ⟨0, none, 0, [], hash0⟩
structure TbR where
 i : Int
 da : Option Addr
 dc : Nat
 D : List DenyD
def encTb (t : TbR) : List Value := [.int .i64 t.i, .slice t.da t.D.length t.dc]
theorem encTb_len (t : TbR) : (encTb t).length = 2 := rfl
theorem encTb_one (t : TbR) : (encTb t).all (·.oneCell') = true := rfl
def tb0 : TbR := ⟨0, none, 0, []⟩
def opC (o : OpR) : Ck := rowC 5 1 (.slice o.pa o.P.length o.pc) o.P.length (o.P.flatMap encB)
def tbC (t : TbR) : Ck := rowC 122 4 (.slice t.da t.D.length t.dc) t.D.length (t.D.flatMap encDn)
structure TmR where
 ta : Option Addr
 tc : Nat
 xs : List Int
def encTm (t : TmR) : List Value := [.slice t.ta t.xs.length t.tc]
theorem encTm_len (t : TmR) : (encTm t).length = 1 := rfl
def tm0 : TmR := ⟨none, 0, []⟩
def encJ (x : Int) : List Value := [.int .i64 x]
theorem encJ_len (x : Int) : (encJ x).length = 1 := rfl
def TmOk (w : World) (t : TmR) : Prop := ListAt encU 1 w (.slice t.ta t.xs.length t.tc) t.xs ∧ ∀ x ∈ t.xs, 0 ≤ x ∧ x ≤ 18446744073709551615
theorem getD_memT {L : List TmR} {i : Nat} (h : i < L.length) : L.getD i tm0 ∈ L := by
 rw [List.getD_eq_getElem?_getD, List.getElem?_eq_getElem h]; exact List.getElem_mem h
section
variable {L L' L2 : List Signed} {x y : Signed} {p m F cn : Int} {s : List UInt8} {B B' : List Ck}
theorem pre_refl : L <+: L := List.prefix_refl L
theorem pre_sign : L <+: signL L y := by unfold signL; split; exact List.prefix_refl _; exact List.prefix_append _ _
theorem markOf_pre (h : L <+: L') (hy : y ∈ L) : markOf L' y = markOf L y := by
 obtain ⟨m, rfl⟩ := h; exact markOf_app hy m
theorem rightB_mem (h : rightB L p m s = true) : (⟨p, s⟩ : Signed) ∈ L := by
 by_cases q : (⟨p, s⟩ : Signed) ∈ L
 ·exact q
 ·exfalso
  unfold rightB at h
  have := of_decide_eq_true h
  rw [markOf_none q] at this
  omega
theorem rightB_pre (hp : L <+: L') (h : rightB L p m s = true) : rightB L' p m s = true := by
 have hm := rightB_mem h
 unfold rightB at h ⊢
 rw [markOf_pre hp hm]; exact h
theorem rightS_pre {s : StampD} (hp : L <+: L') (h : rightS F L s = true) : rightS F L' s = true := by
 unfold rightS at h ⊢
 simp only [Bool.and_eq_true] at h ⊢
 exact ⟨h.1, rightB_pre hp h.2⟩
theorem rightX_pre {x : CommitD} {S : List StampD} (hp : L <+: L') (h : rightX F cn L x S = true) : rightX F cn L' x S = true := by
 unfold rightX rightC at h ⊢
 simp only [Bool.and_eq_true] at h ⊢
 refine ⟨⟨⟨h.1.1.1, rightB_pre hp h.1.1.2⟩, h.1.2⟩, all_upto fun j hj => ?_⟩
 have := List.all_eq_true.1 h.2 j (List.mem_range.2 hj)
 unfold okAt at this ⊢
 simp only [Bool.and_eq_true] at this ⊢
 exact ⟨this.1, rightS_pre hp this.2⟩
theorem rightDn_pre {d : DenyD} (hp : L <+: L') (h : rightDn F L d = true) : rightDn F L' d = true := by
 unfold rightDn at h ⊢
 simp only [Bool.and_eq_true] at h ⊢
 exact ⟨h.1, rightB_pre hp h.2⟩
theorem rightTb_pre {i : Int} {D : List DenyD} (hp : L <+: L') (h : rightTb F L i D = true) : rightTb F L' i D = true := by
 unfold rightTb at h ⊢
 simp only [Bool.and_eq_true] at h ⊢
 refine ⟨all_upto fun j hj => ?_, h.2⟩
 have := List.all_eq_true.1 h.1 j (List.mem_range.2 hj)
 unfold tombAt at this ⊢
 simp only [Bool.and_eq_true] at this ⊢
 exact ⟨this.1, rightDn_pre hp this.2⟩
theorem signed_right (hn : L.Nodup) : rightB (signL L ⟨p, s⟩) p (markOf (signL L ⟨p, s⟩) ⟨p, s⟩) s = true := by
 unfold rightB
 rw [decide_eq_true_eq]
 exact ⟨(markOf_pos (signL_mem L _)).1, rfl⟩
end
structure TabOk (F : Int) (Lb : List Signed) (B : List Ck) (L : List CeR) : Prop where
 ct : ∀ c ∈ L, CeT B c
 sm : ∀ c ∈ L, SmallN ⟨c.x.cl, c.x.seq⟩
 rt : ∀ c ∈ L, rightX F 3 Lb c.x c.S = true
 up : L.Pairwise fun a b => ltNm a b = true
section
variable {F last tm : Int} {Lb Lb' : List Signed} {B B' : List Ck} {L : List CeR} {x y z : CeR} {k : Nat} {A : Ck}
theorem TabOk.nil : TabOk F Lb B [] := ⟨by simp, by simp, by simp, List.Pairwise.nil⟩
theorem CeT.sub (h : CeT B x) (hs : ∀ A ∈ B, A ∈ B') : CeT B' x := ⟨h.x, h.S, h.len, hs _ h.bag⟩
theorem TabOk.more (h : TabOk F Lb B L) (hp : Lb <+: Lb') (hs : ∀ A ∈ B, A ∈ B') : TabOk F Lb' B' L :=
 ⟨fun c hc => (h.ct c hc).sub hs, h.sm, fun c hc => rightX_pre hp (h.rt c hc), h.up⟩
theorem ltNm_trans (h1 : ltNm x y = true) (h2 : ltNm y z = true) : ltNm x z = true := by
 unfold ltNm at *
 simp only [Bool.or_eq_true, Bool.and_eq_true, decide_eq_true_eq] at *
 omega
theorem ltNm_total (h : ltNm x y = false) (hne : ¬ (y.x.cl = x.x.cl ∧ y.x.seq = x.x.seq)) : ltNm y x = true := by
 unfold ltNm at *
 simp only [Bool.or_eq_true, Bool.and_eq_true, Bool.or_eq_false_iff, Bool.and_eq_false_iff, decide_eq_true_eq, decide_eq_false_iff_not] at *
 omega
theorem find_not (h : (findT L x.x.cl x.x.seq).isSome = false) : ∀ c ∈ L, ¬ (c.x.cl = x.x.cl ∧ c.x.seq = x.x.seq) := by
 intro c hc
 unfold findT at h
 rw [Option.isSome_eq_false_iff, Option.isNone_iff_eq_none, List.find?_eq_none] at h
 simpa using h c hc
theorem TabOk.put (h : TabOk F Lb B L) (hx : CeT B x) (hs : SmallN ⟨x.x.cl, x.x.seq⟩) (hr : rightX F 3 Lb x.x x.S = true) (hn : (findT L x.x.cl x.x.seq).isSome = false) (hp : PutAt L x k) : TabOk F Lb B (L.take k ++ x :: L.drop k) := by
 have hm : ∀ c, c ∈ L.take k ++ x :: L.drop k → c = x ∨ c ∈ L := fun c hc => by
  rcases List.mem_append.1 hc with q | q
  ·exact .inr (List.mem_of_mem_take q)
  ·rcases List.mem_cons.1 q with q | q
   ·exact .inl q
   ·exact .inr (List.mem_of_mem_drop q)
 refine ⟨fun c hc => ?_, fun c hc => ?_, fun c hc => ?_, ?_⟩
 ·rcases hm c hc with rfl | q; exact hx; exact h.ct c q
 ·rcases hm c hc with rfl | q; exact hs; exact h.sm c q
 ·rcases hm c hc with rfl | q; exact hr; exact h.rt c q
 ·have hall := h.up
  rw [← List.take_append_drop k L, List.pairwise_append] at hall
  have hdrop : ∀ c ∈ L.drop k, ltNm x c = true := fun c hc => by
   obtain ⟨j, hj, e⟩ := List.mem_iff_getElem.1 hc
   rw [List.getElem_drop] at e
   rw [List.length_drop] at hj
   exact hp.up (k + j) (by omega) c (by rw [List.getElem?_eq_getElem (by omega), e])
  have htake : ∀ c ∈ L.take k, ltNm c x = true := fun c hc => by
   rcases hp.stop with h0 | ⟨y, hy, hl⟩
   ·rw [h0] at hc; simp at hc
   ·have hyl := List.mem_of_getElem? hy
    have h2 : ltNm y x = true := ltNm_total hl (find_not hn y hyl)
    have hk := (List.getElem?_eq_some_iff.1 hy)
    obtain ⟨hk1, hk2⟩ := hk
    have hk0 : 0 < k := by
     rcases Nat.eq_zero_or_pos k with e | e
     ·subst e; simp at hc
     ·exact e
    obtain ⟨j, hj, e⟩ := List.mem_iff_getElem.1 hc
    rw [List.getElem_take] at e
    rw [List.length_take] at hj
    rcases Nat.lt_or_ge j (k - 1) with q | q
    ·have := List.pairwise_iff_getElem.1 h.up j (k - 1) (by omega) hk1 q
     rw [hk2, e] at this
     exact ltNm_trans this h2
    ·have : j = k - 1 := by omega
     subst this
     rw [← e, hk2]; exact h2
  rw [List.pairwise_append]
  refine ⟨hall.1, List.pairwise_cons.2 ⟨hdrop, hall.2.1⟩, fun a ha b hb => ?_⟩
  rcases List.mem_cons.1 hb with rfl | hb
  ·exact htake a ha
  ·exact hall.2.2 a ha b hb
theorem TabOk.span (h : TabOk F Lb B L) : TabOk F Lb B (spanT L last tm) :=
 ⟨fun c hc => h.ct c (span_sub hc), fun c hc => h.sm c (span_sub hc), fun c hc => h.rt c (span_sub hc), h.up.filter _⟩
theorem span_time {c : CeR} (h : c ∈ spanT L last tm) : last < timeD c.S ∧ timeD c.S ≤ tm := by
 have := (List.mem_filter.1 h).2
 simp only [Bool.and_eq_true, decide_eq_true_eq] at this
 exact ⟨this.1, this.2⟩
end
structure PrG (F last tm : Int) (Lb : List Signed) (B : List Ck) (p : PrR) : Prop where
 r : 0 ≤ p.r ∧ p.r < 3 * F + 1
 e : p.e = 4
 f : p.f = tm
 sb : p.sb = p.r
 sm : rightB Lb p.sb p.sm (promB p) = true
 len : p.C.length ≤ 5
 inn : ceC p ∈ B
 tab : TabOk F Lb B p.C
 time : ∀ c ∈ p.C, last < timeD c.S ∧ timeD c.S ≤ tm
structure OpG (B : List Ck) (o : OpR) : Prop where
 i : 0 ≤ o.i ∧ o.i ≤ 6
 len : o.P.length = 1
 inn : opC o ∈ B
structure TbG (F : Int) (Lb : List Signed) (B : List Ck) (t : TbR) : Prop where
 i : 0 ≤ t.i ∧ t.i ≤ 6
 rt : rightTb F Lb t.i t.D = true
 ok : ∀ d ∈ t.D, DnOk d
 len : t.D.length ≤ 12
 inn : tbC t ∈ B
section
variable {F last tm : Int} {Lb Lb' : List Signed} {B B' : List Ck} {p : PrR} {o : OpR} {t : TbR} {PS : List PrR} {n : Nat}
theorem PrG.more (h : PrG F last tm Lb B p) (hp : Lb <+: Lb') (hs : ∀ A ∈ B, A ∈ B') : PrG F last tm Lb' B' p :=
 ⟨h.r, h.e, h.f, h.sb, rightB_pre hp h.sm, h.len, hs _ h.inn, h.tab.more hp hs, h.time⟩
theorem OpG.more (h : OpG B o) (hs : ∀ A ∈ B, A ∈ B') : OpG B' o := ⟨h.i, h.len, hs _ h.inn⟩
theorem TbG.more (h : TbG F Lb B t) (hp : Lb <+: Lb') (hs : ∀ A ∈ B, A ∈ B') : TbG F Lb' B' t := ⟨h.i, rightTb_pre hp h.rt, h.ok, h.len, hs _ h.inn⟩
theorem sub_cons {A : Ck} : ∀ C ∈ B, C ∈ A :: B := fun _ h => List.mem_cons_of_mem _ h
theorem sub_refl : ∀ C ∈ B, C ∈ B := fun _ h => h
structure PsG (F last tm : Int) (Lb : List Signed) (B : List Ck) (PS : List PrR) (n : Nat) : Prop where
 all : ∀ p ∈ PS, PrG F last tm Lb B p
 nums : PS.map (·.r) = (List.range n).map fun (i : Nat) => (i : Int)
theorem PsG.nil : PsG F last tm Lb B [] 0 := ⟨by simp, rfl⟩
theorem PsG.more (h : PsG F last tm Lb B PS n) (hp : Lb <+: Lb') (hs : ∀ A ∈ B, A ∈ B') : PsG F last tm Lb' B' PS n := ⟨fun p hm => (h.all p hm).more hp hs, h.nums⟩
theorem PsG.add (h : PsG F last tm Lb B PS n) (hp : PrG F last tm Lb B p) (hr : p.r = (n : Int)) : PsG F last tm Lb B (PS ++ [p]) (n + 1) := by
 refine ⟨fun q hq => ?_, ?_⟩
 ·rcases List.mem_append.1 hq with hq | hq
  ·exact h.all q hq
  ·rw [List.mem_singleton.1 hq]; exact hp
 ·rw [List.map_append, h.nums, List.range_succ, List.map_append]; simp [hr]
def PsF (F last tm : Int) (Lb : List Signed) (B : List Ck) (PS : List PrR) : Prop := PsG F last tm Lb B PS (3 * F + 1).toNat
theorem PsG.out (h : PsG F last tm Lb B PS n) (hn : (n : Int) = 3 * F + 1) : PsF F last tm Lb B PS := by
 unfold PsF; rw [← hn]; simpa using h
theorem PsG.length (h : PsG F last tm Lb B PS n) : PS.length = n := by
 have := congrArg List.length h.nums
 simpa using this
end
structure DenG (F : Int) (Lb : List Signed) (ix : Int) (D : List DenyD) (n : Nat) : Prop where
 nums : D.map (·.r) = (List.range n).map fun (i : Nat) => (i : Int)
 all : ∀ d ∈ D, d.i = ix ∧ rightDn F Lb d = true ∧ DnOk d
section
variable {F ix : Int} {Lb Lb' : List Signed} {D : List DenyD} {d : DenyD} {n : Nat}
theorem DenG.nil : DenG F Lb ix [] 0 := ⟨rfl, by simp⟩
theorem DenG.more (h : DenG F Lb ix D n) (hp : Lb <+: Lb') : DenG F Lb' ix D n := ⟨h.nums, fun d hd => ⟨(h.all d hd).1, rightDn_pre hp (h.all d hd).2.1, (h.all d hd).2.2⟩⟩
theorem DenG.add (h : DenG F Lb ix D n) (h1 : d.i = ix) (h2 : rightDn F Lb d = true) (h3 : DnOk d) (hr : d.r = (n : Int)) : DenG F Lb ix (D ++ [d]) (n + 1) := by
 refine ⟨by rw [List.map_append, h.nums, List.range_succ, List.map_append]; simp [hr], fun q hq => ?_⟩
 rcases List.mem_append.1 hq with hq | hq
 ·exact h.all q hq
 ·rw [List.mem_singleton.1 hq]; exact ⟨h1, h2, h3⟩
theorem DenG.length (h : DenG F Lb ix D n) : D.length = n := by
 have := congrArg List.length h.nums
 simpa using this
theorem DenG.at (h : DenG F Lb ix D n) {i : Nat} (hi : i < n) : (D.getD i deny0).r = (i : Int) ∧ D.getD i deny0 ∈ D := by
 have hl := h.length
 have hg : D.getD i deny0 = D[i] := by rw [List.getD_eq_getElem?_getD, List.getElem?_eq_getElem (by omega)]; rfl
 have := congrArg (fun l => l[i]?) h.nums
 simp only [List.getElem?_map, List.getElem?_eq_getElem (show i < D.length by omega), List.getElem?_range hi, Option.map_some, Option.some.injEq] at this
 rw [hg]
 exact ⟨this, List.getElem_mem _⟩
theorem DenG.right (h : DenG F Lb ix D n) (hn : (n : Int) = 2 * F + 1) : rightTb F Lb ix D = true := by
 have hl := h.length
 unfold rightTb
 rw [Bool.and_eq_true]
 refine ⟨all_upto fun i hi => ?_, decide_eq_true (by omega)⟩
 obtain ⟨h1, h2⟩ := h.at (i := i) (by omega)
 obtain ⟨h3, h4, _⟩ := h.all _ h2
 unfold tombAt
 rw [h4, h3, decide_eq_true rfl]
 simp only [Bool.and_true]
 by_cases h0 : (i : Int) > 0
 ·obtain ⟨h5, _⟩ := h.at (i := i - 1) (by omega)
  rw [h1, h5, decide_eq_true h0, decide_eq_false (by omega)]; rfl
 ·rw [decide_eq_false h0]; rfl
end
section
variable {P : Program} {fn : Func} {R : Ending → World → Prop} {n : Nat} {f : Nat → Value} {w : World}
theorem end4 {r s t u : ResultVar} {v1 v2 v3 v4 : Value} (hr : fn.results = #[r, s, t, u]) (h1 : ResAt P n f w r v1) (h2 : ResAt P n f w s v2) (h3 : ResAt P n f w t v3) (h4 : ResAt P n f w u v4) (h : R (.returned (.tuple #[v1, v2, v3, v4])) w) : bodyPost P fn R .ret (fr n f) w :=
 ⟨rfl, _, by unfold ResAt at h1 h2 h3 h4; rw [results_eq, hr]; simp [h1, h2, h3, h4], h⟩
end
theorem getD_memS {L : List StampD} {i : Nat} (h : i < L.length) : L.getD i stamp0 ∈ L := by
 rw [List.getD_eq_getElem?_getD, List.getElem?_eq_getElem h]; exact List.getElem_mem h
theorem list_offD {α : Type} {enc : α → List Value} {sz : Nat} (hs : ∀ x, (enc x).length = sz) (h0 : 0 < sz) {W w : World} {D : Nat → Prop} {G : List Ck} (H : Sat W G w) (is : List Nat) (j : Nat) {B : List Ck} (hB : (is.filterMap fun i => G[i]?) = B) (hj : G[j]? = some (restC W D)) (hne : is.all (fun i => !Nat.beq i j) = true) {va : Option Addr} {n vc : Nat} {ls : List α} (hv : ListAt enc sz W (.slice va n vc) ls) (hf : 0 < ls.length → ∀ ad, va = some ad → ¬ D ad.block) : 0 < ls.length → ∀ a, va = some a → ¬ (sepC B).fp a.block := by
 intro h1 a ha hfp
 obtain ⟨vb, vo, vc', hva, hvs⟩ := hv.cells hs h0 h1
 have h2 : va = some ⟨vb, vo, none⟩ := by simp only [Value.slice.injEq] at hva; exact hva.1
 have h3 := h2
 rw [ha] at h3
 obtain rfl := (Option.some.inj h3)
 have hl : 0 < (ls.flatMap enc).length := by rw [flat_len enc sz hs]; exact Nat.mul_pos h1 h0
 have hc := hvs 0 _ (List.getElem?_eq_getElem hl)
 rw [Addr.add_lit] at hc
 have hlt := World.block_lt_of_cell? W _ hc
 subst hB
 obtain ⟨A, hA, hAf⟩ := hfp
 obtain ⟨i, hi, he⟩ := List.mem_filterMap.1 hA
 have hij : Nat.beq i j = false := by simpa using List.all_eq_true.1 hne i hi
 exact H.apart i j he hj hij _ hAf ⟨hlt, hf h1 _ ha⟩
section
variable {α : Type} {num : α → Int} {may : α → Bool} {L D E : List α} {x y : α} {i : Nat}
def hasN (num : α → Int) (D : List α) (n : Int) : Bool := D.any fun o => decide (num o = n)
def takeN (num : α → Int) (may : α → Bool) (D : List α) (x : α) : List α := if (!hasN num D (num x) && may x) = true then D ++ [x] else D
def firstN (num : α → Int) (may : α → Bool) (L : List α) : List α := L.foldl (takeN num may) []
theorem firstN_step (h : L[i]? = some x) : firstN num may (L.take (i + 1)) = takeN num may (firstN num may (L.take i)) x := by
 unfold firstN
 rw [List.take_add_one, h, Option.toList_some, List.foldl_append]; rfl
theorem takeN_yes (h1 : hasN num D (num x) = false) (h2 : may x = true) : takeN num may D x = D ++ [x] := by
 unfold takeN; rw [h1, h2]; rfl
theorem takeN_no1 (h1 : hasN num D (num x) = true) : takeN num may D x = D := by
 unfold takeN; rw [h1]; rfl
theorem takeN_no2 (h2 : may x = false) : takeN num may D x = D := by
 unfold takeN; rw [h2, Bool.and_false]; rfl
theorem takeN_len : (takeN num may D x).length ≤ D.length + 1 := by
 unfold takeN; split <;> simp
theorem hasN_app (n : Int) : hasN num (D ++ [x]) n = (hasN num D n || decide (num x = n)) := by simp [hasN]
theorem hasN_iff {n : Int} : hasN num D n = true ↔ ∃ o ∈ D, num o = n := by simp [hasN]
theorem firstN_mem (h : x ∈ firstN num may L) : x ∈ L ∧ may x = true := by
 have key : ∀ (L D : List α), x ∈ L.foldl (takeN num may) D → x ∈ D ∨ (x ∈ L ∧ may x = true) := by
  intro L
  induction L with
  | nil => intro D h; exact .inl h
  | cons y L ih =>
   intro D h
   rw [List.foldl_cons] at h
   rcases ih _ h with q | ⟨q, r⟩
   ·unfold takeN at q
    split at q
    ·rename_i hc
     rcases List.mem_append.1 q with q | q
     ·exact .inl q
     ·rw [List.mem_singleton.1 q] at *
      rw [Bool.and_eq_true] at hc
      exact .inr ⟨by simp, hc.2⟩
    ·exact .inl q
   ·exact .inr ⟨List.mem_cons_of_mem _ q, r⟩
 rcases key L [] h with q | q
 ·simp at q
 ·exact q
theorem firstN_dif : (firstN num may L).Pairwise fun a b => num a ≠ num b := by
 have key : ∀ (L D : List α), (D.Pairwise fun a b => num a ≠ num b) → (L.foldl (takeN num may) D).Pairwise fun a b => num a ≠ num b := by
  intro L
  induction L with
  | nil => intro D h; exact h
  | cons y L ih =>
   intro D h
   rw [List.foldl_cons]
   refine ih _ ?_
   unfold takeN
   split
   ·rename_i hc
    rw [Bool.and_eq_true, Bool.not_eq_true'] at hc
    rw [List.pairwise_append]
    refine ⟨h, List.pairwise_singleton _ _, fun a ha b hb => ?_⟩
    rw [List.mem_singleton.1 hb]
    intro e
    have := hasN_iff (num := num) (D := D) (n := num y) |>.2 ⟨a, ha, e⟩
    rw [this] at hc; exact absurd hc.1 (by decide)
   ·exact h
 exact key L [] List.Pairwise.nil
theorem firstN_find (n : Int) : (firstN num may L).find? (fun y => decide (num y = n)) = L.find? fun y => decide (num y = n) && may y := by
 have key : ∀ (L D : List α), (L.foldl (takeN num may) D).find? (fun y => decide (num y = n)) = (D.find? fun y => decide (num y = n)).or (L.find? fun y => decide (num y = n) && may y) := by
  intro L
  induction L with
  | nil => intro D; simp
  | cons y L ih =>
   intro D
   rw [List.foldl_cons, ih]
   unfold takeN
   by_cases hc : (!hasN num D (num y) && may y) = true
   ·rw [if_pos hc, List.find?_append]
    rw [Bool.and_eq_true, Bool.not_eq_true'] at hc
    by_cases hn : num y = n
    ·rw [List.find?_cons, List.find?_cons, decide_eq_true hn, hc.2]; simp
    ·rw [List.find?_cons, List.find?_cons, decide_eq_false hn]; simp
   ·rw [if_neg hc]
    rw [List.find?_cons]
    by_cases hn : num y = n
    ·by_cases hm : may y = true
     ·have hh : hasN num D (num y) = true := by
       simp only [hm, Bool.and_true, Bool.not_eq_true', Bool.not_eq_false] at hc; exact hc
      obtain ⟨o, ho, e⟩ := hasN_iff.1 hh
      have : (D.find? fun y => decide (num y = n)).isSome = true := List.find?_isSome.2 ⟨o, ho, by simp [e, hn]⟩
      obtain ⟨z, hz⟩ := Option.isSome_iff_exists.1 this
      rw [hz]; simp
     ·have hm' : may y = false := by simpa using hm
      rw [hm', Bool.and_false]
    ·rw [decide_eq_false hn, Bool.false_and]
 have := key L []
 unfold firstN
 simpa using this
theorem firstN_iff : x ∈ firstN num may L ↔ L.find? (fun y => decide (num y = num x) && may y) = some x := by
 rw [← firstN_find]
 constructor
 ·intro h
  obtain ⟨z, hz⟩ := Option.isSome_iff_exists.1 (List.find?_isSome (p := fun y => decide (num y = num x)) (xs := firstN num may L) |>.2 ⟨x, h, by simp⟩)
  have h1 := List.mem_of_find?_eq_some hz
  have h2 := List.find?_some hz
  rw [hz]
  rw [decide_eq_true_eq] at h2
  by_cases e : z = x
  ·rw [e]
  ·exfalso
   have hd := firstN_dif (num := num) (may := may) (L := L)
   obtain ⟨i, hi, ei⟩ := List.mem_iff_getElem.1 h1
   obtain ⟨j, hj, ej⟩ := List.mem_iff_getElem.1 h
   rcases Nat.lt_trichotomy i j with q | q | q
   ·have := List.pairwise_iff_getElem.1 hd i j hi hj q
    rw [ei, ej] at this; exact this h2
   ·subst q; rw [ei] at ej; exact e ej
   ·have := List.pairwise_iff_getElem.1 hd j i hj hi q
    rw [ei, ej] at this; exact this h2.symm
 ·intro h; exact List.mem_of_find?_eq_some h
theorem sorted_same : ∀ {D E : List α}, (D.Pairwise fun a b => num a < num b) → (E.Pairwise fun a b => num a < num b) → (∀ x, x ∈ D ↔ x ∈ E) → D = E
 | [], [], _, _, _ => rfl
 | [], y :: E, _, _, h => by have := (h y).2 (by simp); simp at this
 | x :: D, [], _, _, h => by have := (h x).1 (by simp); simp at this
 | x :: D, y :: E, hD, hE, h => by
  have h1 := List.pairwise_cons.1 hD
  have h2 := List.pairwise_cons.1 hE
  have e : x = y := by
   rcases List.mem_cons.1 ((h x).1 (by simp)) with q | q
   ·exact q
   ·rcases List.mem_cons.1 ((h y).2 (by simp)) with r | r
    ·exact r.symm
    ·have a := h2.1 x q
     have b := h1.1 y r
     omega
  subst e
  rw [sorted_same h1.2 h2.2 fun z => ?_]
  constructor
  ·intro hz
   rcases List.mem_cons.1 ((h z).1 (List.mem_cons_of_mem _ hz)) with q | q
   ·have := h1.1 z hz; rw [q] at this; omega
   ·exact q
  ·intro hz
   rcases List.mem_cons.1 ((h z).2 (List.mem_cons_of_mem _ hz)) with q | q
   ·have := h2.1 z hz; rw [q] at this; omega
   ·exact q
structure SortN (num : α → Int) (may : α → Bool) (L D : List α) : Prop where
 perm : D.Perm (firstN num may L)
 up : D.Pairwise fun a b => num a < num b
theorem SortN.of {lt : α → α → Prop} (hp : D.Perm (firstN num may L)) (hs : D.Pairwise fun a b => ¬ num b < num a) : SortN num may L D := by
 refine ⟨hp, ?_⟩
 have hd : D.Pairwise fun a b => num a ≠ num b := (List.Perm.pairwise_iff (fun h => Ne.symm h) hp).2 firstN_dif
 exact (hs.and hd).imp fun h => by omega
theorem SortN.mem (h : SortN num may L D) : x ∈ D ↔ L.find? (fun y => decide (num y = num x) && may y) = some x := by
 rw [h.perm.mem_iff, firstN_iff]
theorem SortN.sub (h : SortN num may L D) (hx : x ∈ D) : x ∈ L ∧ may x = true := firstN_mem (h.perm.mem_iff.1 hx)
theorem SortN.same {L' D' : List α} (h : SortN num may L D) (h' : SortN num may L' D') (e : ∀ n, L.find? (fun y => decide (num y = n) && may y) = L'.find? fun y => decide (num y = n) && may y) : D = D' :=
 sorted_same h.up h'.up fun x => by rw [h.mem, h'.mem, e]
theorem SortN.len (h : SortN num may L D) : D.length ≤ L.length := by
 rw [h.perm.length_eq]
 have key : ∀ n, (firstN num may (L.take n)).length ≤ (L.take n).length := fun n => by
  induction n with
  | zero => simp [firstN]
  | succ n ih =>
   rcases Nat.lt_or_ge n L.length with q | q
   ·rw [firstN_step (List.getElem?_eq_getElem q), List.take_add_one, List.getElem?_eq_getElem q]
    have := takeN_len (num := num) (may := may) (D := firstN num may (L.take n)) (x := L[n])
    simp only [Option.toList_some, List.length_append, List.length_cons, List.length_nil]
    omega
   ·rw [List.take_of_length_le (by omega)]; rw [List.take_of_length_le q] at ih; exact ih
 have := key L.length
 rwa [List.take_length] at this
def HvOk (M : List (Int × Bool)) (num : α → Int) (D : List α) : Prop := ∀ n : Int, (lookM M n).getD false = hasN num D n
theorem HvOk.nil : HvOk [] num ([] : List α) := fun n => by simp [lookM, hasN]
theorem HvOk.put {M : List (Int × Bool)} (h : HvOk M num D) : HvOk (putM M (num x) true) num (D ++ [x]) := fun n => by
 rw [hasN_app]
 by_cases e : n = num x
 ·subst e; rw [look_put_same, decide_eq_true rfl, Bool.or_true]; rfl
 ·rw [look_put_other _ _ _ _ e, h n, decide_eq_false (fun q => e q.symm), Bool.or_false]
end
section
variable {P : Program} {t : TypeId} {X : Type} [DecidableEq X]
structure Flat (P : Program) (t : TypeId) (enc : X → List Value) : Prop where
 eq : ∀ (w : World) (x y : X), (Op.equalIn 10000 t (.agg ⟨enc x⟩) (.agg ⟨enc y⟩)).run P w = .ok (decide (x = y)) w
 held : P.eqGuardType P.depth t = false
variable {enc : X → List Value}
theorem Flat.e_eq (F : Flat P t enc) {n : Nat} {f : Nat → Value} {w : World} {dst : Option Tmp} {ty : TypeId} {pos : String} {aft : Array Edge} {gd : Option (Nat × Bool)} {x y : Operand} {T : TypeId} (a b : X) (hx : ev n f x = .agg ⟨enc a⟩) (hy : ev n f y = .agg ⟨enc b⟩) :
  (execOp (ev n f) ⟨dst, .binOp .eql t x y T, ty, pos, aft, gd⟩).run P w = .ok (.value (.bool (decide (a = b)))) w := by
 have h : (Op.equalIn 10000 t (.agg ⟨enc a⟩) (.agg ⟨enc b⟩)).run P w = .ok (decide (a = b)) w := F.eq w a b
 simp only [execOp, hx, hy]
 simp only [Sem.run_bind, run_eqGuard_agg w _ _ _ _ _ _ F.held, Result.andThen_ok, run_eql_struct, h, Sem.run_pure]
theorem Flat.e_ne (F : Flat P t enc) {n : Nat} {f : Nat → Value} {w : World} {dst : Option Tmp} {ty : TypeId} {pos : String} {aft : Array Edge} {gd : Option (Nat × Bool)} {x y : Operand} {T : TypeId} (a b : X) (hx : ev n f x = .agg ⟨enc a⟩) (hy : ev n f y = .agg ⟨enc b⟩) :
  (execOp (ev n f) ⟨dst, .binOp .neq t x y T, ty, pos, aft, gd⟩).run P w = .ok (.value (.bool (!decide (a = b)))) w := by
 have h : (Op.equalIn 10000 t (.agg ⟨enc a⟩) (.agg ⟨enc b⟩)).run P w = .ok (decide (a = b)) w := F.eq w a b
 simp only [execOp, hx, hy]
 simp only [Sem.run_bind, run_eqGuard_agg w _ _ _ _ _ _ F.held, Result.andThen_ok, run_neq_struct, h, Sem.run_pure]
end
section
variable {P : Program} {n : Nat} {f : Nat → Value} {w : World} {dst : Option Tmp} {ty : TypeId} {pos : String} {aft : Array Edge} {gd : Option (Nat × Bool)}
end
instance : DecidableEq EntD := fun a b =>
 if h : a.cl = b.cl ∧ a.sq = b.sq ∧ a.h = b.h ∧ a.t = b.t then .isTrue (by cases a; cases b; simp_all) else .isFalse (fun e => h (by rw [e]; simp))
theorem zeroEn (w : World) : (zeroValue 63).run Tryz.prog w = .ok (entV ent0) w := by kernel_rfl
def pairV (a b : Int) : Value := .agg ⟨[.int .i64 a, .int .i64 b]⟩
theorem name_equalIn (w : World) (a b c d : Int) : (Op.equalIn 9999 59 (pairV a b) (pairV c d)).run Tryz.prog w = .ok (decide (a = c ∧ b = d)) w := by
 have ei := fun a b => run_equalIn_int (P := Tryz.prog) w 9997 3 .i64 .i64 a b Tryz.underlying3
 refine (struct_equalIn (d := 9998) _ [a == c, b == d] Tryz.underlying59 (by kernel_rfl)
  ⟨⟨by decide, .int .i64 a, .int .i64 c, by kernel_rfl, by kernel_rfl, ei _ _⟩, ⟨by decide, .int .i64 b, .int .i64 d, by kernel_rfl, by kernel_rfl, ei _ _⟩, trivial⟩).trans ?_
 congr 1
 rw [Bool.eq_iff_iff]
 simp
theorem same_int2 (a b : Int) : Instr.sameBits 10000 (.agg ⟨[.int .i64 a, .int .i64 b]⟩) (.agg ⟨[.int .i64 a, .int .i64 b]⟩) = true := by simp [Instr.sameBits]
theorem nmK : KeyTy Tryz.prog 59 nmV := KeyTy.deep (by kernel_rfl) (fun w em a => by cases em <;> kernel_rfl) (fun w x y => by
 simp only [Op.equal, Op.maxDepth, nmV, encNm]
 simp [go_sem]
 obtain ⟨x1, x2⟩ := x
 obtain ⟨y1, y2⟩ := y
 by_cases h1 : x1 = y1 <;> by_cases h2 : x2 = y2 <;> simp_all) (fun a => same_int2 _ _)
theorem e_eqName {n : Nat} {f : Nat → Value} {w : World} {dst : Option Tmp} {ty : TypeId} {pos : String} {aft : Array Edge} {gd : Option (Nat × Bool)} {x y : Operand} {T : TypeId} (a b c d : Int) (hx : ev n f x = .agg ⟨[.int .i64 a, .int .i64 b]⟩) (hy : ev n f y = .agg ⟨[.int .i64 c, .int .i64 d]⟩) :
  (execOp (ev n f) ⟨dst, .binOp .eql 59 x y T, ty, pos, aft, gd⟩).run Tryz.prog w = .ok (.value (.bool (decide (a = c ∧ b = d)))) w := by
 simp only [execOp, hx, hy]
 simp [go_sem]
 by_cases h1 : a = c <;> by_cases h2 : b = d <;> simp_all
end Go.Proofs.YtenihpghfdcpkaaGreat
