/- WHAT IS PROVED: contracts and plain laws of Sort12, StrMap, EntM. Conditions: stated with each. -/
import Derived.Test.YtenihpghfdcpkaaGreatPA03
import Derived.Test.YtenihpghfdcpkaaGreatPA05
import Derived.Test.YtenihpghfdcpkaaGreatPA08
import Derived.Test.YtenihpghfdcpkaaGreatPA11
import Derived.Test.YtenihpghfdcpkaaGreatPA13
import Derived.Test.YtenihpghfdcpkaaGreatPA16
set_option maxHeartbeats 4000000
set_option maxRecDepth 100000
namespace Go.Proofs.YtenihpghfdcpkaaGreat
open Go.RowKit Go.Shelf Go.Sort
instance : Inhabited Z1H := ⟨Z2L⟩
def Zdr (x y : Z1H) : Int := or2 (Z2Q x.t y.t) (or2 (Z2Q x.cl y.cl) (Z2Q x.sq y.sq))
def Zc1 (x y : Z1H) : Prop := x.t < y.t ∨ (x.t = y.t ∧ (x.cl < y.cl ∨ (x.cl = y.cl ∧ x.sq < y.sq)))
instance (x y : Z1H) : Decidable (Zc1 x y) := by unfold Zc1; exact inferInstance
theorem Z3c (a b : Int) : (a < b ∧ Z2Q a b = -1) ∨ (a = b ∧ Z2Q a b = 0) ∨ (a > b ∧ Z2Q a b = 1) := by
 unfold Z2Q
 rcases Int.lt_trichotomy a b with h | h | h
 ·exact .inl ⟨h, if_pos h⟩
 ·exact .inr (.inl ⟨h, by rw [if_neg (by omega), if_neg (by omega)]⟩)
 ·exact .inr (.inr ⟨h, by rw [if_neg (by omega), if_pos h]⟩)
theorem Z4V (x y : Z1H) : ltOf Zdr x y = decide (Zc1 x y) := by
 unfold ltOf
 refine decide_eq_decide.2 ?_
 unfold Zdr Zc1
 rcases Z3c x.t y.t with ⟨h1, e1⟩ | ⟨h1, e1⟩ | ⟨h1, e1⟩ <;> rcases Z3c x.cl y.cl with ⟨h2, e2⟩ | ⟨h2, e2⟩ | ⟨h2, e2⟩ <;> rcases Z3c x.sq y.sq with ⟨h3, e3⟩ | ⟨h3, e3⟩ | ⟨h3, e3⟩ <;> rw [e1, e2, e3] <;>
  first | exact iff_of_true (by decide) (by omega) | exact iff_of_false (by decide) (by omega)
theorem Zd7 : SWO (ltOf Zdr) := by
 refine ⟨fun x => ?_, fun x y z h1 h2 => ?_, fun x y z h1 h2 => ?_⟩
 ·rw [Z4V]; exact decide_eq_false (by unfold Zc1; omega)
 ·rw [Z4V] at *
  have := of_decide_eq_true h1; have := of_decide_eq_true h2
  unfold Zc1 at *
  exact decide_eq_true (by omega)
 ·rw [Z4V] at *
  have := of_decide_eq_false h1; have := of_decide_eq_false h2
  unfold Zc1 at *
  exact decide_eq_false (by omega)
theorem ZbV (blk off size : Nat) (w : World) : CmpLays Tryz.prog 60 #[] Z1q 35 Zdr blk off size w := fun m os dk _ x y =>
 (Zde (sortWorldK Z1q 35 w blk off m dk os) x y).mono fun _ _ h => ⟨h.1, h.2.2⟩
theorem Z3D {α : Type} [Inhabited α] (enc : α → List Value) (k : Nat) (hk : ∀ x, (enc x).length = k) (k0 : 0 < k) (d : Array α) (cur : Array Value) (h : d.size * k ≤ cur.size) : (putCells id 0 (flatK enc k d) cur).size = cur.size ∧ (putCells id 0 (flatK enc k d) cur).toList.take (d.size * k) = d.toList.flatMap enc := by
 refine ⟨by simp [putCells], ?_⟩
 refine List.ext_getElem? fun t => ?_
 rw [List.getElem?_take]
 split
 ·rename_i ht
  have hj : t / k < d.size := (Nat.div_lt_iff_lt_mul k0).2 ht
  have hm : t % k < k := Nat.mod_lt _ k0
  have e : t = t / k * k + t % k := by rw [Nat.mul_comm]; exact (Nat.div_add_mod t k).symm
  have hr : (d.toList.flatMap enc)[t]? = (enc d[t / k]!)[t % k]? := by
   conv => lhs; rw [e]
   exact Z4N enc k hk d.toList (t / k) (t % k) d[t / k]! (by rw [getElem!_pos d _ hj]; simp [hj]) hm
  rw [hr, Array.getElem?_toList]
  have ht' : t < (flatK enc k d).size := by rw [size_flatK]; exact ht
  have hl : (putCells id 0 (flatK enc k d) cur)[t]? = some (flatK enc k d)[t]! := by
   unfold putCells
   rw [Array.getElem?_mapIdx, Array.getElem?_eq_getElem (by omega)]
   simp only [Option.map_some]
   rw [if_pos ⟨Nat.zero_le _, by omega⟩]; rfl
  rw [hl, get_flatK enc k d t ht, getElem!_pos (enc d[t / k]!) _ (by rw [hk]; exact hm), List.getElem?_eq_getElem (by rw [hk]; exact hm)]
 ·rename_i ht
  rw [List.getElem?_eq_none]
  rw [Z0A enc k hk]; simp; omega
theorem Zdm (w : World) (g c : Nat) (D : List Z1H) (hv : (Zc 63 35 (.slice (some ⟨g, 0, none⟩) D.length c) D.length (D.flatMap Z1q)).ok w) (h12 : D.length ≤ 12) :
  Calls Tryz.prog 59 #[.slice (some ⟨g, 0, none⟩) D.length c, .func (.func 60) #[] #[]] w fun e w' => e = .returned (.tuple #[]) ∧ ∃ D' : List Z1H, D'.Perm D ∧ (D'.Pairwise fun a b => ¬ Zc1 b a) ∧ (Zc 63 35 (.slice (some ⟨g, 0, none⟩) D.length c) D.length (D'.flatMap Z1q)).ok w' ∧ Upd [g] w w' := by
 obtain ⟨A, rfl⟩ : ∃ A : List Z1H, A = D := ⟨D, rfl⟩
 have hg : g < w.heap.size := (Zc _ _ _ _ _).lt hv g rfl
 obtain ⟨cur, hb, hnc, hcm, hcs, htk⟩ : ∃ cur, w.heap[g]? = some (.cells cur 63 (0, 0)) ∧ A.length ≤ c ∧ c ≤ maxLen ∧ cur.size = c * 35 ∧ cur.toList.take (A.length * 35) = A.flatMap Z1q := by
  rcases hv.2 with ⟨h, _⟩ | ⟨g', c', cur, h, _, h1, h2, h3, h4, h5⟩
  ·cases h
  ·simp only [Value.slice.injEq, Option.some.injEq, Addr.mk.injEq] at h
   obtain ⟨⟨rfl, _⟩, _, rfl⟩ := h
   exact ⟨cur, h1, h2, h3, h4, h5⟩
 have hH : HoldsK Z1q 35 w g 0 A.toArray := fun j hj => by
  have hj' : j < A.length * 35 := by simpa using hj
  have hq : j / 35 < A.length := (Nat.div_lt_iff_lt_mul (by omega)).2 hj'
  refine ⟨?_, ?_⟩
  ·rw [get_flatK _ _ _ _ (by simpa using hj')]
   have hx : A.toArray[j / 35]! = A[j / 35] := by rw [getElem!_pos A.toArray (j / 35) (by simpa using hq)]; simp
   rw [hx]
   refine Z1x (enc := Z1q) hv rfl Z1w (i := j / 35) (x := A[j / 35]) (List.getElem?_eq_getElem hq) (j % 35) (by have := Nat.mod_lt j (show 0 < 35 by omega); simp [Nat.blt_eq, this]) (by omega) ?_
   have hm : j % 35 < (Z1q A[j / 35]).length := by rw [Z1w]; omega
   rw [List.getElem?_eq_getElem hm, getElem!_pos (Z1q A[j / 35]) _ hm]; rfl
  ·unfold World.frozen?
   rw [hb]; simp
 have hbl : ∀ (n : Nat) (W : World), n ≤ 12 → Calls Tryz.prog (sortL_ren.f 15) #[.int .u64 n] W fun e w' => (∃ l : Int, e = .returned (.int .i64 l)) ∧ w' = W := fun n W hn =>
  (Any.bits_Len Z7O n W (by omega) (by omega)).mono fun _ _ ⟨he, hw⟩ => ⟨⟨_, he⟩, hw⟩
 have h := AnyQ.slices_SortFunc_small_sorted (P := Tryz.prog) sortL 35 Tryz.isAgg63 Tryz.sizeOf63 Z1q Z1w (fun x v hv => List.all_eq_true.1 (Z5N x) v hv) Zdr 60 #[] Zd7 g 0 c A.toArray w (enters_of Tryz.func60 (by kernel_rfl) rfl) (ZbV g 0 _ w) hH hg (by simpa using h12) hbl
 rw [show A.toArray.size = A.length from List.size_toArray ..] at h
 refine h.mono fun e w' ⟨he, d', n, os, hp, hs, hw⟩ => ?_
 have hsz : d'.size = A.length := by simpa using hp.1
 have hp2 : d'.toList.Perm A := by
  have := hp.2.2
  have e1 : d'.extract 0 A.length = d' := by rw [← hsz]; exact Array.extract_size
  have e2 : A.toArray.extract 0 A.length = A.toArray := Array.extract_size (xs := A.toArray)
  rw [e1, e2] at this
  exact this
 refine ⟨he, d'.toList, hp2, ?_, ?_, ?_⟩
 ·rw [List.pairwise_iff_getElem]
  intro i j hi hj hij
  have hi' : i < d'.size := by simpa using hi
  have hj' : j < d'.size := by simpa using hj
  have := hs i j (Nat.zero_le _) hij (by omega)
  rw [getElem!_pos d' i hi', getElem!_pos d' j hj'] at this
  rw [Z4V] at this
  have h5 := of_decide_eq_false this
  rwa [Array.getElem_toList, Array.getElem_toList]
 ·obtain ⟨q1, q2⟩ := Z3D Z1q 35 Z1w (by omega) d' cur (by rw [hsz, hcs]; exact Nat.mul_le_mul_right _ hnc)
  refine ⟨by rw [Z0A Z1q 35 Z1w]; simp [hsz], .inr ⟨g, c, putCells id 0 (flatK Z1q 35 d') cur, rfl, Nat.zero_le _, ?_, hnc, hcm, by rw [q1, hcs], by rw [← hsz]; exact q2⟩⟩
  rw [hw]
  unfold sortWorldK putRowK putRow mapBlock grow Sort.ahead
  simp only [Array.getElem?_append, Array.size_modify, hg, if_true, Array.getElem?_modify]
  rw [hb]; rfl
 ·subst hw
  refine ⟨rfl, rfl, rfl, size_sortWorldK_c _ _ _ _ _ _ _ _, fun k hk hne => ?_⟩
  have hne : g ≠ k := fun e => hne (by simp [e])
  unfold sortWorldK putRowK putRow mapBlock grow Sort.ahead
  simp only [Array.getElem?_append, Array.size_modify, hk, if_true, Array.getElem?_modify, if_neg hne]
theorem Z9w (w : World) (a : Option Addr) (c : Nat) (D : List Z1H) (hv : (ZR [Zc 63 35 (.slice a D.length c) D.length (D.flatMap Z1q)]).ok w) (h12 : D.length ≤ 12) :
  Calls Tryz.prog 59 #[.slice a D.length c, .func (.func 60) #[] #[]] w fun e w' => ∃ D' : List Z1H, e = .returned (.tuple #[]) ∧ D'.Perm D ∧ (D'.Pairwise fun a b => ¬ Zc1 b a) ∧ Sat w [Zc 63 35 (.slice a D'.length c) D'.length (D'.flatMap Z1q), Z3 w (ZR [Zc 63 35 (.slice a D.length c) D.length (D.flatMap Z1q)]).fp] w' := by
 have H := Sat.start _ hv
 cases hD : D with
 | nil =>
  subst hD
  refine (Z9m a c (.func (.func 60) #[] #[]) w).mono fun e w' ⟨he, hw⟩ => ?_
  subst hw
  exact ⟨[], he, List.Perm.refl _, List.Pairwise.nil, H⟩
 | cons x D0 =>
  rw [← hD]
  have hv0 := hv.1 _ (List.mem_singleton.2 rfl)
  obtain ⟨g, c', hs⟩ := Z0z hv0 (by rw [hD]; simp)
  simp only [Value.slice.injEq] at hs
  obtain ⟨rfl, _, rfl⟩ := hs
  refine (Zdm w g c D hv0 h12).mono fun e w' ⟨he, D', hp, hs, hok, hu⟩ => ?_
  have hl := hp.length_eq
  refine ⟨D', he, hp, hs, ?_⟩
  rw [hl]
  exact H.setU hu 0 rfl (by rintro b' hb; rw [List.mem_singleton.1 hb]; rfl) hok (fun b hb => .inl hb)
end Go.Proofs.YtenihpghfdcpkaaGreat
namespace Go.Proofs.YtenihpghfdcpkaaGreat
open Go.RowKit
section
variable {κ ν : Type} [DecidableEq κ] {encK : κ → Value} {encV : ν → Value} {P : Program} {k : TypeId} {w : World} {b : Nat} {l : List (κ × ν)}
end
section
variable {P : Program} {Q : Exit → Act → World → Prop} {n : Nat} {f : Nat → Value} {w0 w : World} {G : List Ck} {dst : Option Tmp} {ty : TypeId} {pos : String} {aft : Array Edge} {gd : Option (Nat × Bool)} {K' : Act → World → Prop}
end
def Z3B (x : NmD) : Prop := (0 ≤ x.cl ∧ x.cl < 3) ∧ 1 ≤ x.sq ∧ x.sq ≤ 4
def Ze4 (c : CeR) : Prop := Z3B ⟨c.x.cl, c.x.seq⟩ ∧ c.S.length ≤ 12 ∧ Zfm c.S
noncomputable def Z2k (c : CeR) : Z1H := ⟨c.x.cl, c.x.seq, c.x.h, Zj c.S⟩
def Z6a (e : Z1H) : NmD := ⟨e.cl, e.sq⟩
def Z3t (a b : Z1H) : Bool := decide (a.t < b.t) || (decide (a.t = b.t) && Zba a.h b.h)
abbrev Zan := List (NmD × Z1H)
def Z51 (last tm : Int) (lg : NmD → Bool) (e : Z1H) : Bool := decide (e.t ≤ last) || decide (e.t > tm) || lg (Z6a e)
def Z52 (last tm : Int) (lg : NmD → Bool) (M : Zan) (e : Z1H) : Zan :=
 if Z51 last tm lg e = true then M else match Zp M (Z6a e) with
  | none => Z2j M (Z6a e) e
  | some was => if Z3t e was = true then Z2j M (Z6a e) e else M
noncomputable def Z7i (last tm : Int) (lg : NmD → Bool) (L : List CeR) : Zan := L.foldl (fun M c => Z52 last tm lg M (Z2k c)) []
section
variable {last tm : Int} {lg : NmD → Bool} {M : Zan} {e : Z1H} {L : List CeR} {c : CeR}
theorem Zel (L : List CeR) (c : CeR) : Z7i last tm lg (L ++ [c]) = Z52 last tm lg (Z7i last tm lg L) (Z2k c) := by simp [Z7i, List.foldl_append]
theorem Z2C (h : Z51 last tm lg e = true) : Z52 last tm lg M e = M := by unfold Z52; rw [if_pos h]
theorem Z6M (h : Z51 last tm lg e = false) (h2 : Zp M (Z6a e) = none) : Z52 last tm lg M e = Z2j M (Z6a e) e := by unfold Z52; rw [if_neg (by rw [h]; decide), h2]
theorem Z70 {was : Z1H} (h : Z51 last tm lg e = false) (h2 : Zp M (Z6a e) = some was) : Z52 last tm lg M e = if Z3t e was = true then Z2j M (Z6a e) e else M := by unfold Z52; rw [if_neg (by rw [h]; decide), h2]
structure EOk (M : Zan) : Prop where
 nd : (M.map (·.1)).Nodup
 nm : ∀ x ∈ M, x.1 = Z6a x.2
 sm : ∀ x ∈ M, Z3B x.1
end
section
variable {κ ν : Type} [DecidableEq κ] {l : List (κ × ν)} {a : κ} {v : ν}
theorem Z7S {y : κ × ν} (h : y ∈ Z2j l a v) : y = (a, v) ∨ y ∈ l := by
 unfold Z2j at h
 split at h
 ·obtain ⟨z, hz, e⟩ := List.mem_map.1 h
  split at e
  ·exact .inl e.symm
  ·exact .inr (e ▸ hz)
 ·rcases List.mem_append.1 h with h | h
  ·exact .inr h
  ·exact .inl (List.mem_singleton.1 h)
theorem Zdd {x : ν} (h : Zp l a = some x) : (a, x) ∈ l := by
 unfold Zp at h
 obtain ⟨y, hy, rfl⟩ := Option.map_eq_some_iff.1 h
 have h1 := List.find?_some hy
 have h2 := List.mem_of_find?_eq_some hy
 have h3 : y.1 = a := by simpa using h1
 rw [← h3]; exact h2
theorem Z4A : (Z2j l a v).map (·.1) = if a ∈ l.map (·.1) then l.map (·.1) else l.map (·.1) ++ [a] := by
 unfold Z2j
 split
 ·rw [List.map_map]
  refine List.map_congr_left fun y _ => ?_
  show (if y.1 = a then (a, v) else y).1 = y.1
  split
  ·rename_i e; exact e.symm
  ·rfl
 ·simp
end
theorem Z5h : ∀ (n : Nat) (l : List Nat), l.Nodup → (∀ x ∈ l, x < n) → l.length ≤ n
 | 0, l, _, h => by
  cases l with
  | nil => simp
  | cons x l => exact absurd (h x (by simp)) (Nat.not_lt_zero _)
 | n + 1, l, hn, h => by
  have ih := Z5h n (l.erase n) (hn.erase n) fun x hx => by
   have h1 := (List.Nodup.mem_erase_iff hn).1 hx
   have h2 := h x h1.2
   have := h1.1
   omega
  by_cases hm : n ∈ l
  ·have := List.length_erase_of_mem hm; omega
  ·rw [List.erase_of_not_mem hm] at ih; omega
section
variable {last tm : Int} {lg : NmD → Bool} {M : Zan} {e : Z1H} {L : List CeR} {c : CeR}
theorem EOk.nil : EOk [] := ⟨List.nodup_nil, by simp, by simp⟩
theorem EOk.put (h : EOk M) (hs : Z3B (Z6a e)) : EOk (Z2j M (Z6a e) e) := by
 refine ⟨?_, fun x hx => ?_, fun x hx => ?_⟩
 ·rw [Z4A]
  split
  ·exact h.nd
  ·rename_i q
   rw [List.nodup_append]
   exact ⟨h.nd, by simp, fun a ha b hb e => by rw [List.mem_singleton.1 hb] at e; exact q (e ▸ ha)⟩
 ·rcases Z7S hx with rfl | hx
  ·rfl
  ·exact h.nm x hx
 ·rcases Z7S hx with rfl | hx
  ·exact hs
  ·exact h.sm x hx
theorem EOk.step (h : EOk M) (hs : Z3B (Z6a e)) : EOk (Z52 last tm lg M e) := by
 unfold Z52
 split
 ·exact h
 ·split
  ·exact h.put hs
  ·split
   ·exact h.put hs
   ·exact h
theorem Z82 (h : ∀ c ∈ L, Ze4 c) : EOk (Z7i last tm lg L) := by
 have key : ∀ (L : List CeR) (M : Zan), EOk M → (∀ c ∈ L, Ze4 c) → EOk (L.foldl (fun M c => Z52 last tm lg M (Z2k c)) M) := by
  intro L
  induction L with
  | nil => intro M hM _; exact hM
  | cons c L ih => intro M hM hc; exact ih _ (hM.step (hc c (by simp)).1) fun d hd => hc d (by simp [hd])
 exact key L [] EOk.nil h
theorem EOk.len (h : EOk M) : M.length ≤ 12 := by
 have hm := Z5h 12 ((M.map (·.1)).map fun x => (x.cl * 4 + (x.sq - 1)).toNat) ?_ ?_
 ·simpa using hm
 ·rw [List.Nodup, List.pairwise_map]
  refine List.Pairwise.imp_of_mem ?_ h.nd
  intro a b ha hb hne e
  obtain ⟨x, hx, rfl⟩ := List.mem_map.1 ha
  obtain ⟨y, hy, rfl⟩ := List.mem_map.1 hb
  have hx' := h.sm x hx
  have hy' := h.sm y hy
  unfold Z3B at hx' hy'
  apply hne
  have h1 : x.1.cl = y.1.cl := by omega
  have h2 : x.1.sq = y.1.sq := by omega
  cases hx1 : x.1; cases hy1 : y.1
  simp_all
 ·intro z hz
  obtain ⟨a, ha, rfl⟩ := List.mem_map.1 hz
  obtain ⟨x, hx, rfl⟩ := List.mem_map.1 ha
  have := h.sm x hx
  unfold Z3B at this
  omega
theorem EOk.inj (h : EOk M) : ∀ a ∈ M.map (·.2), ∀ b ∈ M.map (·.2), Z6a a = Z6a b → a = b := fun a ha b hb e => by
 obtain ⟨x, hx, rfl⟩ := List.mem_map.1 ha
 obtain ⟨y, hy, rfl⟩ := List.mem_map.1 hb
 have e2 : x.1 = y.1 := by rw [h.nm x hx, h.nm y hy, e]
 obtain ⟨i, hi, hxi⟩ := List.mem_iff_getElem.1 hx
 obtain ⟨j, hj, hyj⟩ := List.mem_iff_getElem.1 hy
 have key : i = j := by
  have hp := List.pairwise_iff_getElem.1 h.nd
  rcases Nat.lt_trichotomy i j with q | q | q
  ·exact absurd (by rw [List.getElem_map, List.getElem_map, hxi, hyj, e2]) (hp i j (by simpa using hi) (by simpa using hj) q)
  ·exact q
  ·exact absurd (by rw [List.getElem_map, List.getElem_map, hxi, hyj, e2]) (hp j i (by simpa using hj) (by simpa using hi) q)
 subst key
 rw [← hxi, ← hyj]
end
section
variable {last tm : Int} {lg : NmD → Bool} {M M' : Zan} {A C : List CeR} {P : List PrR} {i k : Nat} {w : World}
theorem Z76 (h : k < C.length) : C.take (k + 1) = C.take k ++ [C.getD k ce0] := by
 rw [List.take_add_one, List.getElem?_eq_getElem h, List.getD_eq_getElem?_getD, List.getElem?_eq_getElem h]; rfl
theorem Z1t (hM : M = Z7i last tm lg (A ++ C.take k)) (hk : k < C.length) (hs : Z52 last tm lg M (Z2k (C.getD k ce0)) = M') : M' = Z7i last tm lg (A ++ C.take (k + 1)) := by
 rw [Z76 hk, ← List.append_assoc, Zel, ← hM, hs]
theorem Ze1 (h : i < P.length) : (P.take (i + 1)).flatMap (·.C) = (P.take i).flatMap (·.C) ++ (P.getD i pr0).C := by
 have e : P.take (i + 1) = P.take i ++ [P.getD i pr0] := by
  rw [List.take_add_one, List.getElem?_eq_getElem h, List.getD_eq_getElem?_getD, List.getElem?_eq_getElem h]; rfl
 rw [e, List.flatMap_append]; simp only [List.flatMap_cons, List.flatMap_nil, List.append_nil]
theorem Z3O (h : k < C.length) : C.getD k ce0 ∈ C := by
 rw [List.getD_eq_getElem?_getD, List.getElem?_eq_getElem h]; exact List.getElem_mem h
theorem Z75 (h : i < P.length) : P.getD i pr0 ∈ P := by
 rw [List.getD_eq_getElem?_getD, List.getElem?_eq_getElem h]; exact List.getElem_mem h
theorem ZcP (hPo : ∀ i, i < P.length → PrOk w (P.getD i pr0)) (hi : i < P.length) (hk : k < (P.getD i pr0).C.length) : CeOk w ((P.getD i pr0).C.getD k ce0) := (hPo i hi).2 _ (Z3O hk)
def PSm (P : List PrR) : Prop := ∀ p ∈ P, ∀ c ∈ p.C, Ze4 c
theorem PSm.at (h : PSm P) (hi : i < P.length) (hk : k < (P.getD i pr0).C.length) : Ze4 ((P.getD i pr0).C.getD k ce0) := h _ (Z75 hi) _ (Z3O hk)
theorem PSm.all (h : PSm P) : ∀ c ∈ P.flatMap (·.C), Ze4 c := fun c hc => by
 obtain ⟨p, hp, hc⟩ := List.mem_flatMap.1 hc
 exact h p hp c hc
def lgM (LM : List (NmD × Bool)) (n : NmD) : Bool := (Zp LM n).getD false
variable {LM : List (NmD × Bool)} {lg : NmD → Bool} {c : CeR} {v : Z1H}
theorem Zfb (h : decide (Zj c.S ≤ last) = true) : Z51 last tm lg (Z2k c) = true := by
 show (decide (Zj c.S ≤ last) || decide (Zj c.S > tm) || lg ⟨c.x.cl, c.x.seq⟩) = true
 rw [h]; rfl
theorem skip2 (h : decide (Zj c.S > tm) = true) : Z51 last tm lg (Z2k c) = true := by
 show (decide (Zj c.S ≤ last) || decide (Zj c.S > tm) || lg ⟨c.x.cl, c.x.seq⟩) = true
 rw [h]; simp
theorem skip3 (hlg : lg = lgM LM) (h : (Zp LM (⟨c.x.cl, c.x.seq⟩ : NmD)).getD false = true) : Z51 last tm lg (Z2k c) = true := by
 show (decide (Zj c.S ≤ last) || decide (Zj c.S > tm) || lg ⟨c.x.cl, c.x.seq⟩) = true
 rw [show lg ⟨c.x.cl, c.x.seq⟩ = true from (by rw [hlg]; exact h)]; simp
theorem Zb8 (hlg : lg = lgM LM) (h1 : decide (Zj c.S ≤ last) = false) (h2 : decide (Zj c.S > tm) = false) (h : (Zp LM (⟨c.x.cl, c.x.seq⟩ : NmD)).getD false = false) : Z51 last tm lg (Z2k c) = false := by
 show (decide (Zj c.S ≤ last) || decide (Zj c.S > tm) || lg ⟨c.x.cl, c.x.seq⟩) = false
 rw [show lg ⟨c.x.cl, c.x.seq⟩ = false from (by rw [hlg]; exact h), h1, h2]; rfl
theorem ZcN (h : (Zp M (⟨c.x.cl, c.x.seq⟩ : NmD)).isSome = true) : ∃ v, Zp M (⟨c.x.cl, c.x.seq⟩ : NmD) = some v := Option.isSome_iff_exists.1 h
theorem Zd3 (h : (Zp M (⟨c.x.cl, c.x.seq⟩ : NmD)).isSome = false) : Zp M (Z6a (Z2k c)) = none := by
 show Zp M (⟨c.x.cl, c.x.seq⟩ : NmD) = none
 cases hq : Zp M (⟨c.x.cl, c.x.seq⟩ : NmD) with
 | none => rfl
 | some v => rw [hq] at h; simp at h
theorem ZaB (hs : Z51 last tm lg (Z2k c) = false) (h : (Zp M (⟨c.x.cl, c.x.seq⟩ : NmD)).isSome = true) (ha : Z3t (Z2k c) ((Zp M (⟨c.x.cl, c.x.seq⟩ : NmD)).getD Z2L) = true) : Z52 last tm lg M (Z2k c) = Z2j M (Z6a (Z2k c)) (Z2k c) := by
 obtain ⟨v, hv⟩ := ZcN h
 rw [hv] at ha; change Z3t (Z2k c) v = _ at ha
 rw [Z70 (was := v) hs hv, if_pos ha]
theorem Zcu (hs : Z51 last tm lg (Z2k c) = false) (h : (Zp M (⟨c.x.cl, c.x.seq⟩ : NmD)).isSome = true) (ha : Z3t (Z2k c) ((Zp M (⟨c.x.cl, c.x.seq⟩ : NmD)).getD Z2L) = false) : Z52 last tm lg M (Z2k c) = M := by
 obtain ⟨v, hv⟩ := ZcN h
 rw [hv] at ha; change Z3t (Z2k c) v = _ at ha
 rw [Z70 (was := v) hs hv, if_neg (by rw [show Z3t (Z2k c) v = false from ha]; decide)]
end
end Go.Proofs.YtenihpghfdcpkaaGreat
