/- WHAT IS PROVED: contracts and plain laws of Sort10, SzS. Conditions: stated with each. -/
import Derived.Test.YtgigjkjdmalmaaaGreatPY10
import Derived.Test.YtgigjkjdmalmaaaGreatPY28
import Derived.Test.YtgigjkjdmalmaaaGreatPY29
import Derived.Test.YtgigjkjdmalmaaaGreatPY30
set_option maxHeartbeats 4000000
set_option maxRecDepth 100000
namespace Go.Proofs.YtgigjkjdmalmaaaGreat
open Go.RowKit Go.Shelf Go.Sort
instance : Inhabited Zk := ⟨Zr⟩
theorem Z5J (s : Zk) (B : Nat) (w : World) (hb : w.heap[B]? = some (.cells ⟨ZV s⟩ 49 (0, 0))) : PredBelow Tryz.prog 81 #[.pointer (some ⟨B, 0, none⟩)] (fun x => .agg (ZV x).toArray) (fun x => decide (x.r = s.r)) w := fun W x hW =>
 (Z90 W B x s ((hW.block B (Z0J hb)).trans hb)).mono fun _ _ ⟨he, hu⟩ => ⟨he, Upd.below hW hu (by simp) hW.size⟩
theorem Z9q (fv : Value) (w : World) : Calls Tryz.prog 103 #[.slice none 0 0, fv] w fun e w' => e = .returned (.int .i64 (-1)) ∧ w' = w := by
 go_enter Tryz.func103, Tryz.ntmps103
 go_wp2
 go_loopg [5, 8] 0 (fun _ _ s8 wr => s8 = .int .i64 0 ∧ wr = w)
 case atStart => exact ⟨rfl, rfl⟩
 case round =>
  obtain ⟨rfl, rfl⟩ := hrel
  go_wp2
  go_ret
  exact ⟨rfl, rfl⟩
theorem Z6z (fv : Value) (w : World) : Calls Tryz.prog 82 #[.slice none 0 0, fv] w fun e w' => e = .returned (.bool false) ∧ w' = w := by
 have hi := Z9q fv
 go_enter Tryz.func82, Tryz.ntmps82
 go_wp2_with (go_at_call 103; refine (hi _).mono ?_; rintro e w' ⟨rfl, rfl⟩)
 go_ret
 exact ⟨rfl, rfl⟩
theorem Z6A (w : World) (B : Nat) (s : Zk) (hb : w.heap[B]? = some (.cells ⟨ZV s⟩ 49 (0, 0))) (v : Value) (D : List Zk) (hv : (Zc 49 38 v D.length (D.flatMap ZV)).ok w) (hl : D.length ≤ 1000000) :
  Calls Tryz.prog 82 #[v, .func (.func 81) #[] #[.pointer (some ⟨B, 0, none⟩)]] w fun e w' => e = .returned (.bool (Z7Y D s.r)) ∧ Upd [] w w' := by
 have hv' := hv
 rcases hv.2 with ⟨rfl, h0⟩ | ⟨g, c, cur, rfl, _⟩
 ·obtain rfl := List.eq_nil_of_length_eq_zero h0
  exact (Z6z _ w).mono fun _ _ ⟨he, hw⟩ => ⟨he, hw ▸ Upd.refl _ _⟩
 ·have hg : g < w.heap.size := (Zc _ _ _ _ _).lt hv g rfl
  have h := AnyQ.slices_ContainsFunc (P := Tryz.prog) Z92 38 Tryz.isAgg49 Tryz.sizeOf49 ZV Z0W (fun x => decide (x.r = s.r)) 81 #[.pointer (some ⟨B, 0, none⟩)] (enters_of Tryz.func81 (by kernel_rfl) rfl) g 0 D.length c D w (Z5J s B w hb) (Nat.le_refl _) (by omega) hg
   (fun j hj i u hi => ZS hv rfl Z0W (i := j) (x := D[j]!) (by rw [getElem!_pos D j hj, List.getElem?_eq_getElem hj]) i (by have := (List.getElem?_eq_some_iff.1 hi).1; rw [Z0W] at this; simp [Nat.blt_eq]; omega) (by omega) hi)
  rw [List.take_length] at h
  exact h.mono fun _ _ ⟨he, hb⟩ => ⟨he, Below.upd hb⟩
abbrev Z44 := {s : Zk // 0 ≤ s.r ∧ s.r < 1000}
instance : Inhabited Z44 := ⟨⟨Zr, by decide⟩⟩
def Z8s (x : Z44) : List Value := ZV x.val
def ZbL (x y : Z44) : Int := x.val.r - y.val.r
theorem Z31 (x : Z44) : (Z8s x).length = 38 := Z0W _
theorem Z72 {α : Type} [Inhabited α] (enc : α → List Value) (k : Nat) (hk : ∀ x, (enc x).length = k) (k0 : 0 < k) (d : Array α) (cur : Array Value) (h : d.size * k ≤ cur.size) : (putCells id 0 (flatK enc k d) cur).size = cur.size ∧ (putCells id 0 (flatK enc k d) cur).toList.take (d.size * k) = d.toList.flatMap enc := by
 refine ⟨by simp [putCells], ?_⟩
 refine List.ext_getElem? fun t => ?_
 rw [List.getElem?_take]
 split
 ·rename_i ht
  have hj : t / k < d.size := (Nat.div_lt_iff_lt_mul k0).2 ht
  have hm : t % k < k := Nat.mod_lt _ k0
  have e : t = t / k * k + t % k := by rw [Nat.mul_comm]; exact (Nat.div_add_mod t k).symm
  have hr : (d.toList.flatMap enc)[t]? = (enc d[t / k]!)[t % k]? := by
   conv => lhs; rw [e]
   exact Z2D enc k hk d.toList (t / k) (t % k) d[t / k]! (by rw [getElem!_pos d _ hj]; simp [hj]) hm
  rw [hr, Array.getElem?_toList]
  have ht' : t < (flatK enc k d).size := by rw [size_flatK]; exact ht
  have hl : (putCells id 0 (flatK enc k d) cur)[t]? = some (flatK enc k d)[t]! := by
   unfold putCells
   rw [Array.getElem?_mapIdx, Array.getElem?_eq_getElem (by omega)]
   simp only [Option.map_some]
   rw [if_pos ⟨Nat.zero_le _, by omega⟩]; rfl
  rw [hl, get_flatK enc k d t ht, getElem!_pos (enc d[t / k]!) _ (by rw [hk]; exact hm), List.getElem?_eq_getElem (by rw [hk]; exact hm)]
 ·rename_i ht
  rw [List.getElem?_eq_none]
  rw [Z1p enc k hk]; simp; omega
theorem Z8p (blk off size : Nat) (w : World) : CmpLays Tryz.prog 84 #[] Z8s 38 ZbL blk off size w := fun m os dk _ x y => by
 have h := Z91 x.val y.val (sortWorldK Z8s 38 w blk off m dk os)
 rw [show IntKind.i64.wrap (x.val.r - y.val.r) = ZbL x y from IntWalk.i64_in _ (by have := x.2; have := y.2; omega)] at h
 exact h
theorem Zaq : SWO (ltOf ZbL) := by
 have e : ∀ x y : Z44, ltOf ZbL x y = decide (x.val.r < y.val.r) := fun x y => by
  unfold ltOf ZbL
  exact decide_eq_decide.2 (by omega)
 refine ⟨fun x => ?_, fun x y z h1 h2 => ?_, fun x y z h1 h2 => ?_⟩
 ·rw [e]; exact decide_eq_false (by omega)
 ·rw [e] at *
  have := of_decide_eq_true h1; have := of_decide_eq_true h2
  exact decide_eq_true (by omega)
 ·rw [e] at *
  have := of_decide_eq_false h1; have := of_decide_eq_false h2
  exact decide_eq_false (by omega)
theorem Za8 (w : World) (g c : Nat) (D : List Zk) (hv : (Zc 49 38 (.slice (some ⟨g, 0, none⟩) D.length c) D.length (D.flatMap ZV)).ok w) (h12 : D.length ≤ 12) (hr : ∀ s ∈ D, 0 ≤ s.r ∧ s.r < 1000) :
  Calls Tryz.prog 83 #[.slice (some ⟨g, 0, none⟩) D.length c, .func (.func 84) #[] #[]] w fun e w' => e = .returned (.tuple #[]) ∧ ∃ D' : List Zk, D'.Perm D ∧ (D'.Pairwise fun a b => a.r ≤ b.r) ∧ (Zc 49 38 (.slice (some ⟨g, 0, none⟩) D.length c) D.length (D'.flatMap ZV)).ok w' ∧ Upd [g] w w' := by
 obtain ⟨A, rfl⟩ : ∃ A : List Z44, A.map (·.val) = D := ⟨D.pmap (fun s h => ⟨s, h⟩) hr, by simp [List.map_pmap]⟩
 simp only [List.length_map] at hv h12 ⊢
 have hfl : ∀ B : List Z44, (B.map (·.val)).flatMap ZV = B.flatMap Z8s := fun B => by rw [List.flatMap_map]; rfl
 rw [hfl] at hv
 have hg : g < w.heap.size := (Zc _ _ _ _ _).lt hv g rfl
 obtain ⟨cur, hb, hnc, hcm, hcs, htk⟩ : ∃ cur, w.heap[g]? = some (.cells cur 49 (0, 0)) ∧ A.length ≤ c ∧ c ≤ maxLen ∧ cur.size = c * 38 ∧ cur.toList.take (A.length * 38) = A.flatMap Z8s := by
  rcases hv.2 with ⟨h, _⟩ | ⟨g', c', cur, h, _, h1, h2, h3, h4, h5⟩
  ·cases h
  ·simp only [Value.slice.injEq, Option.some.injEq, Addr.mk.injEq] at h
   obtain ⟨⟨rfl, _⟩, _, rfl⟩ := h
   exact ⟨cur, h1, h2, h3, h4, h5⟩
 have hH : HoldsK Z8s 38 w g 0 A.toArray := fun j hj => by
  have hj' : j < A.length * 38 := by simpa using hj
  have hq : j / 38 < A.length := (Nat.div_lt_iff_lt_mul (by omega)).2 hj'
  refine ⟨?_, ?_⟩
  ·rw [get_flatK _ _ _ _ (by simpa using hj')]
   have hx : A.toArray[j / 38]! = A[j / 38] := by rw [getElem!_pos A.toArray (j / 38) (by simpa using hq)]; simp
   rw [hx]
   refine ZS (enc := Z8s) hv rfl Z31 (i := j / 38) (x := A[j / 38]) (List.getElem?_eq_getElem hq) (j % 38) (by have := Nat.mod_lt j (show 0 < 38 by omega); simp [Nat.blt_eq, this]) (by omega) ?_
   have hm : j % 38 < (Z8s A[j / 38]).length := by rw [Z31]; omega
   rw [List.getElem?_eq_getElem hm, getElem!_pos (Z8s A[j / 38]) _ hm]; rfl
  ·unfold World.frozen?
   rw [hb]; simp
 have hbl : ∀ (n : Nat) (W : World), n ≤ 12 → Calls Tryz.prog (sortL_ren.f 15) #[.int .u64 n] W fun e w' => (∃ l : Int, e = .returned (.int .i64 l)) ∧ w' = W := fun n W hn =>
  (Any.bits_Len bitsL n W (by omega) (by omega)).mono fun _ _ ⟨he, hw⟩ => ⟨⟨_, he⟩, hw⟩
 have h := AnyQ.slices_SortFunc_small_sorted (P := Tryz.prog) sortL 38 Tryz.isAgg49 Tryz.sizeOf49 Z8s Z31 (fun x v hv => List.all_eq_true.1 (Z2m x.val) v hv) ZbL 84 #[] Zaq g 0 c A.toArray w (enters_of Tryz.func84 (by kernel_rfl) rfl) (Z8p g 0 _ w) hH hg (by simpa using h12) hbl
 rw [show A.toArray.size = A.length from List.size_toArray ..] at h
 refine h.mono fun e w' ⟨he, d', n, os, hp, hs, hw⟩ => ?_
 have hsz : d'.size = A.length := by simpa using hp.1
 have hp2 : d'.toList.Perm A := by
  have := hp.2.2
  have e1 : d'.extract 0 A.length = d' := by rw [← hsz]; exact Array.extract_size
  have e2 : A.toArray.extract 0 A.length = A.toArray := Array.extract_size (xs := A.toArray)
  rw [e1, e2] at this
  exact this
 refine ⟨he, d'.toList.map (·.val), hp2.map _, ?_, ?_, ?_⟩
 ·rw [List.pairwise_map, List.pairwise_iff_getElem]
  intro i j hi hj hij
  have hi' : i < d'.size := by simpa using hi
  have hj' : j < d'.size := by simpa using hj
  have := hs i j (Nat.zero_le _) hij (by omega)
  rw [getElem!_pos d' i hi', getElem!_pos d' j hj'] at this
  have h5 := of_decide_eq_false this
  unfold ZbL at h5
  show (d'.toList[i]).val.r ≤ (d'.toList[j]).val.r
  rw [Array.getElem_toList, Array.getElem_toList]
  omega
 ·rw [hfl]
  obtain ⟨q1, q2⟩ := Z72 Z8s 38 Z31 (by omega) d' cur (by rw [hsz, hcs]; exact Nat.mul_le_mul_right _ hnc)
  refine ⟨by rw [Z1p Z8s 38 Z31]; simp [hsz], .inr ⟨g, c, putCells id 0 (flatK Z8s 38 d') cur, rfl, Nat.zero_le _, ?_, hnc, hcm, by rw [q1, hcs], by rw [← hsz]; exact q2⟩⟩
  rw [hw]
  unfold sortWorldK putRowK putRow mapBlock grow Sort.ahead
  simp only [Array.getElem?_append, Array.size_modify, hg, if_true, Array.getElem?_modify]
  rw [hb]; rfl
 ·subst hw
  refine ⟨rfl, rfl, rfl, size_sortWorldK_c _ _ _ _ _ _ _ _, fun k hk hne => ?_⟩
  have hne : g ≠ k := fun e => hne (by simp [e])
  unfold sortWorldK putRowK putRow mapBlock grow Sort.ahead
  simp only [Array.getElem?_append, Array.size_modify, hk, if_true, Array.getElem?_modify, if_neg hne]
end Go.Proofs.YtgigjkjdmalmaaaGreat
namespace Go.Proofs.YtgigjkjdmalmaaaGreat
open Go.RowKit
theorem Zcq (w : World) (f cn : Int) (hf : -1099511627776 ≤ f ∧ f ≤ 1099511627776) :
  Calls Tryz.prog 55 #[(.agg ⟨([(.int .i64 (f)), (.int .i64 (cn))] : List Value)⟩)] w fun e w' => e = .returned (.int .i64 (3 * f + 1)) ∧ Upd [] w w' := by
 have H := Sat.start0 w
 refine Zg Tryz.func55 rfl 7 rfl (Nat.le_of_ble_eq_true rfl) ?_
 refine Zf ?_
 refine Zt ?_
 refine Z0B (Z5 rfl) (fun K1 hK1 => ?_)
 refine Z2R (vs := ([(.int .i64 (f)), (.int .i64 (cn))] : List Value)) rfl H rfl rfl ?_
 intro b2 w3 (H4 : Sat w [Z7 w (fun _ => False), Z3 b2 27 ([(.int .i64 (f)), (.int .i64 (cn))] : List Value)] w3)
 refine hK1 _ _ ?_
 clear hK1 K1
 refine Z6 (Z5 rfl) (d := 2) (v := (.int .i64 (0))) rfl (by kernel_rfl) ?_
 refine Zu ?_
 refine Zb ?_
 refine Zf ?_
 refine Zt ?_
 refine Z6 (Z5 rfl) (d := 3) (v := (.pointer (some ⟨b2, 0, none⟩))) rfl (by kernel_rfl) ?_
 refine Z6 (Z5 rfl) (d := 4) (v := (.int .i64 (f))) rfl (Zi rfl (by kernel_rfl) (H4.cell 1 rfl rfl)) ?_
 refine Z6 (Z5 rfl) (d := 5) (v := (.int .i64 (3 * f))) rfl (Z0I (z := 3 * f) (by kernel_rfl) (IntWalk.i64_in _ (by omega))) ?_
 refine Z6 (Z5 rfl) (d := 6) (v := (.int .i64 ((3 * f) + 1))) rfl (Z0I (z := (3 * f) + 1) (by kernel_rfl) (IntWalk.i64_in _ (by omega))) ?_
 refine Z6 (Z5 rfl) (d := 2) (v := (.int .i64 ((3 * f) + 1))) rfl (by kernel_rfl) ?_
 refine Zu ?_
 refine Zb ?_
 refine Zz ?_
 refine Z1x rfl (Z0c (v := (.int .i64 ((3 * f) + 1))) rfl) ?_
 exact ⟨rfl, H4.upd 0 rfl [] (fun _ h => h.elim)⟩
theorem Zcr (w : World) (f cn : Int) (hf : -1099511627776 ≤ f ∧ f ≤ 1099511627776) :
  Calls Tryz.prog 58 #[(.agg ⟨([(.int .i64 (f)), (.int .i64 (cn))] : List Value)⟩)] w fun e w' => e = .returned (.int .i64 (2 * f + 1)) ∧ Upd [] w w' := by
 have H := Sat.start0 w
 refine Zg Tryz.func58 rfl 7 rfl (Nat.le_of_ble_eq_true rfl) ?_
 refine Zf ?_
 refine Zt ?_
 refine Z0B (Z5 rfl) (fun K1 hK1 => ?_)
 refine Z2R (vs := ([(.int .i64 (f)), (.int .i64 (cn))] : List Value)) rfl H rfl rfl ?_
 intro b2 w3 (H4 : Sat w [Z7 w (fun _ => False), Z3 b2 27 ([(.int .i64 (f)), (.int .i64 (cn))] : List Value)] w3)
 refine hK1 _ _ ?_
 clear hK1 K1
 refine Z6 (Z5 rfl) (d := 2) (v := (.int .i64 (0))) rfl (by kernel_rfl) ?_
 refine Zu ?_
 refine Zb ?_
 refine Zf ?_
 refine Zt ?_
 refine Z6 (Z5 rfl) (d := 3) (v := (.pointer (some ⟨b2, 0, none⟩))) rfl (by kernel_rfl) ?_
 refine Z6 (Z5 rfl) (d := 4) (v := (.int .i64 (f))) rfl (Zi rfl (by kernel_rfl) (H4.cell 1 rfl rfl)) ?_
 refine Z6 (Z5 rfl) (d := 5) (v := (.int .i64 (2 * f))) rfl (Z0I (z := 2 * f) (by kernel_rfl) (IntWalk.i64_in _ (by omega))) ?_
 refine Z6 (Z5 rfl) (d := 6) (v := (.int .i64 ((2 * f) + 1))) rfl (Z0I (z := (2 * f) + 1) (by kernel_rfl) (IntWalk.i64_in _ (by omega))) ?_
 refine Z6 (Z5 rfl) (d := 2) (v := (.int .i64 ((2 * f) + 1))) rfl (by kernel_rfl) ?_
 refine Zu ?_
 refine Zb ?_
 refine Zz ?_
 refine Z1x rfl (Z0c (v := (.int .i64 ((2 * f) + 1))) rfl) ?_
 exact ⟨rfl, H4.upd 0 rfl [] (fun _ h => h.elim)⟩
theorem Zcp (w : World) (f cn : Int) (hf : -1099511627776 ≤ f ∧ f ≤ 1099511627776) :
  Calls Tryz.prog 9 #[(.agg ⟨([(.int .i64 (f)), (.int .i64 (cn))] : List Value)⟩)] w fun e w' => e = .returned (.int .i64 (3 * f + 1)) ∧ Upd [] w w' := by
 have H := Sat.start0 w
 refine Zg Tryz.func9 rfl 7 rfl (Nat.le_of_ble_eq_true rfl) ?_
 refine Zf ?_
 refine Zt ?_
 refine Z0B (Z5 rfl) (fun K1 hK1 => ?_)
 refine Z2R (vs := ([(.int .i64 (f)), (.int .i64 (cn))] : List Value)) rfl H rfl rfl ?_
 intro b2 w3 (H4 : Sat w [Z7 w (fun _ => False), Z3 b2 27 ([(.int .i64 (f)), (.int .i64 (cn))] : List Value)] w3)
 refine hK1 _ _ ?_
 clear hK1 K1
 refine Z6 (Z5 rfl) (d := 2) (v := (.int .i64 (0))) rfl (by kernel_rfl) ?_
 refine Zu ?_
 refine Zb ?_
 refine Zf ?_
 refine Zt ?_
 refine Z6 (Z5 rfl) (d := 3) (v := (.pointer (some ⟨b2, 0, none⟩))) rfl (by kernel_rfl) ?_
 refine Z6 (Z5 rfl) (d := 4) (v := (.int .i64 (f))) rfl (Zi rfl (by kernel_rfl) (H4.cell 1 rfl rfl)) ?_
 refine Z6 (Z5 rfl) (d := 5) (v := (.int .i64 (3 * f))) rfl (Z0I (z := 3 * f) (by kernel_rfl) (IntWalk.i64_in _ (by omega))) ?_
 refine Z6 (Z5 rfl) (d := 6) (v := (.int .i64 ((3 * f) + 1))) rfl (Z0I (z := (3 * f) + 1) (by kernel_rfl) (IntWalk.i64_in _ (by omega))) ?_
 refine Z6 (Z5 rfl) (d := 2) (v := (.int .i64 ((3 * f) + 1))) rfl (by kernel_rfl) ?_
 refine Zu ?_
 refine Zb ?_
 refine Zz ?_
 refine Z1x rfl (Z0c (v := (.int .i64 ((3 * f) + 1))) rfl) ?_
 exact ⟨rfl, H4.upd 0 rfl [] (fun _ h => h.elim)⟩
theorem Zbl (w : World) (f cn r : Int) (hf : -1099511627776 ≤ f ∧ f ≤ 1099511627776) :
  Calls Tryz.prog 36 #[(.agg ⟨([(.int .i64 (f)), (.int .i64 (cn))] : List Value)⟩), (.int .i64 (r))] w fun e w' => e = .returned (.bool (inB f r)) ∧ Upd [] w w' := by
 have H := Sat.start0 w
 refine Zg Tryz.func36 rfl 13 rfl (Nat.le_of_ble_eq_true rfl) ?_
 refine Zf ?_
 refine Zt ?_
 refine Z0B (Z5 rfl) (fun K1 hK1 => ?_)
 refine Z2R (vs := ([(.int .i64 (f)), (.int .i64 (cn))] : List Value)) rfl H rfl rfl ?_
 intro b2 w3 (H4 : Sat w [Z7 w (fun _ => False), Z3 b2 27 ([(.int .i64 (f)), (.int .i64 (cn))] : List Value)] w3)
 refine hK1 _ _ ?_
 clear hK1 K1
 refine Z6 (Z5 rfl) (d := 4) (v := (.bool false)) rfl (by kernel_rfl) ?_
 refine Zu ?_
 refine Zb ?_
 refine Z0v [4, 5, 6, 7, 8, 9, 10, 11, 12] (fun G_ W_ => G_ 4 = (.bool (inB f r)) ∧ Sat w [Z7 w (fun _ => False), Z3 b2 27 ([(.int .i64 (f)), (.int .i64 (cn))] : List Value)] W_) ?_ ?_
 ·refine Zt ?_
  refine Z6 (Z5 rfl) (d := 5) (v := (.int .i64 (r))) rfl (by kernel_rfl) ?_
  refine Z6 (Z5 rfl) (d := 6) (v := (.bool (decide (r ≥ 0)))) rfl (by kernel_rfl) ?_
  refine Z6 (Z5 rfl) (d := 7) (v := (.bool (decide (r ≥ 0)))) rfl (by kernel_rfl) ?_
  refine (ZC (decide (r ≥ 0))).elim (fun b6 => ?_) (fun b6 => ?_)
  ·have g7 := of_decide_eq_true b6
   refine ZP 7 (.bool true) (congrArg Value.bool b6) ?_
   refine Z6 (Z0k 2 7 true rfl (by kernel_rfl) rfl (by kernel_rfl)) (d := 8) (v := (.int .i64 (r))) rfl (by kernel_rfl) ?_
   refine Z6 (Z0k 2 7 true rfl (by kernel_rfl) rfl (by kernel_rfl)) (d := 9) (v := (.agg ⟨([(.int .i64 (f)), (.int .i64 (cn))] : List Value)⟩)) rfl (ZG (vs := ([(.int .i64 (f)), (.int .i64 (cn))] : List Value)) rfl (by kernel_rfl) (by kernel_rfl) (by exact Nat.le_of_ble_eq_true (by kernel_rfl)) (H4.at 1 rfl) (by kernel_rfl)) ?_
   refine Z0B (Z0k 2 7 true rfl (by kernel_rfl) rfl (by kernel_rfl)) (fun K8 hK8 => ?_)
   refine Z0L (d := 10) rfl (by kernel_rfl) (Zcq w3 f cn (by omega)) ?_
   rintro _ w9 ⟨rfl, u11⟩
   have H10 := H4.keepU u11
   refine ⟨_, rfl, ?_⟩
   refine hK8 _ _ ?_
   clear hK8 K8
   refine Z6 (Z0k 2 7 true rfl (by kernel_rfl) rfl (by kernel_rfl)) (d := 11) (v := (.bool (decide (r < (3 * f + 1))))) rfl (by kernel_rfl) ?_
   refine Z6 (Z5 rfl) (d := 12) (v := (.bool (decide (r < (3 * f + 1))))) rfl (by kernel_rfl) ?_
   refine Z6 (Z5 rfl) (d := 4) (v := (.bool (decide (r < (3 * f + 1))))) rfl (by kernel_rfl) ?_
   refine Zu ?_
   refine ZJ ?_ ⟨(congrArg Value.bool (show (decide (r < (3 * f + 1))) = (inB f r) by simp [inB, b6])), H10⟩
   exact (Za rfl (Za rfl (Za rfl (Za rfl (Za rfl (Za rfl (Za rfl (Za rfl (Za rfl (Za rfl (Z1N)))))))))))
  ·have g12 := of_decide_eq_false b6
   refine ZP 7 (.bool false) (congrArg Value.bool b6) ?_
   refine Z15 (Z0Q 2 7 true rfl (by kernel_rfl) rfl (by kernel_rfl)) rfl ?_
   refine Z15 (Z0Q 2 7 true rfl (by kernel_rfl) rfl (by kernel_rfl)) rfl ?_
   refine Z15 (Z0Q 2 7 true rfl (by kernel_rfl) rfl (by kernel_rfl)) rfl ?_
   refine Z15 (Z0Q 2 7 true rfl (by kernel_rfl) rfl (by kernel_rfl)) rfl ?_
   refine Z6 (Z5 rfl) (d := 12) (v := (.bool false)) rfl (by kernel_rfl) ?_
   refine Z6 (Z5 rfl) (d := 4) (v := (.bool false)) rfl (by kernel_rfl) ?_
   refine Zu ?_
   refine ZJ ?_ ⟨(congrArg Value.bool (show false = (inB f r) by simp [inB, b6])), H4⟩
   exact (Za rfl (Za rfl (Za rfl (Za rfl (Za rfl (Za rfl (Za rfl (Za rfl (Za rfl (Za rfl (Z1N)))))))))))
 ·rintro f13 w14 ⟨v16, H15⟩
  refine Zo 4 _ v16 ?_
  refine Zz ?_
  refine Z1x rfl (Z0c (v := (.bool (inB f r))) rfl) ?_
  exact ⟨rfl, H15.upd 0 rfl [] (fun _ h => h.elim)⟩
end Go.Proofs.YtgigjkjdmalmaaaGreat
