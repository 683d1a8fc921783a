/- WHAT IS PROVED: slices.ContainsFunc and slices.SortFunc over stamps, with the functions that cert.Make hands them: contracts. Conditions: stated with each. -/
import Derived.Test.YtbpeofcoceaahaaLaid10
import Derived.Test.YtbpeofcoceaahaaClos10
namespace Go.Proofs.Ytbpeofcoceaahaa
open Go.RowKit Go.Shelf Go.Sort
instance : Inhabited StampD := ⟨stamp0⟩
theorem contains_pred (s : StampD) (B : Nat) (w : World) (hb : w.heap[B]? = some (.cells ⟨encSt s⟩ 49 (0, 0))) : PredBelow Try.prog 52 #[.pointer (some ⟨B, 0, none⟩)] (fun x => .agg (encSt x).toArray) (fun x => decide (x.r = s.r)) w := fun W x hW =>
  (clos1_any W B x s ((hW.block B (heap_lt hb)).trans hb)).mono fun _ _ ⟨he, hu⟩ => ⟨he, Upd.below hW hu (by simp) hW.size⟩
set_option maxHeartbeats 1000000 in
theorem indexNone (fv : Value) (w : World) : Calls Try.prog 76 #[.slice none 0 0, fv] w fun e w' => e = .returned (.int .i64 (-1)) ∧ w' = w := by
  go_enter Try.func76, Try.ntmps76
  go_wp2
  go_loopg [5, 8] 0 (fun _ _ s8 wr => s8 = .int .i64 0 ∧ wr = w)
  case atStart => exact ⟨rfl, rfl⟩
  case round =>
    obtain ⟨rfl, rfl⟩ := hrel
    go_wp2
    go_ret
    exact ⟨rfl, rfl⟩
set_option maxHeartbeats 1000000 in
theorem containsNone (fv : Value) (w : World) : Calls Try.prog 53 #[.slice none 0 0, fv] w fun e w' => e = .returned (.bool false) ∧ w' = w := by
  have hi := indexNone fv
  go_enter Try.func53, Try.ntmps53
  go_wp2_with (go_at_call 76; refine (hi _).mono ?_; rintro e w' ⟨rfl, rfl⟩)
  go_ret
  exact ⟨rfl, rfl⟩
theorem contains_any (w : World) (B : Nat) (s : StampD) (hb : w.heap[B]? = some (.cells ⟨encSt s⟩ 49 (0, 0))) (v : Value) (D : List StampD) (hv : (rowC 49 38 v D.length (D.flatMap encSt)).ok w) (hl : D.length ≤ 1000000) :
    Calls Try.prog 53 #[v, .func (.func 52) #[] #[.pointer (some ⟨B, 0, none⟩)]] w fun e w' => e = .returned (.bool (hasR D s.r)) ∧ Upd [] w w' := by
  have hv' := hv
  rcases hv.2 with ⟨rfl, h0⟩ | ⟨g, c, cur, rfl, _⟩
  · obtain rfl := List.eq_nil_of_length_eq_zero h0
    exact (containsNone _ w).mono fun _ _ ⟨he, hw⟩ => ⟨he, hw ▸ Upd.refl _ _⟩
  · have hg : g < w.heap.size := (rowC _ _ _ _ _).lt hv g rfl
    have h := AnyQ.slices_ContainsFunc (P := Try.prog) containsL 38 Try.isAgg49 Try.sizeOf49 encSt encSt_len (fun x => decide (x.r = s.r)) 52 #[.pointer (some ⟨B, 0, none⟩)] (enters_of Try.func52 (by kernel_rfl) rfl) g 0 D.length c D w (contains_pred s B w hb) (Nat.le_refl _) (by omega) hg
      (fun j hj i u hi => rows_cell hv rfl encSt_len (i := j) (x := D[j]!) (by rw [getElem!_pos D j hj, List.getElem?_eq_getElem hj]) i (by have := (List.getElem?_eq_some_iff.1 hi).1; rw [encSt_len] at this; simp [Nat.blt_eq]; omega) (by omega) hi)
    rw [List.take_length] at h
    exact h.mono fun _ _ ⟨he, hb⟩ => ⟨he, Below.upd hb⟩
/-- stamps of small replicas -/
abbrev SmallS := {s : StampD // 0 ≤ s.r ∧ s.r < 1000}
instance : Inhabited SmallS := ⟨⟨stamp0, by decide⟩⟩
def encA (x : SmallS) : List Value := encSt x.val
def cmpA (x y : SmallS) : Int := x.val.r - y.val.r
theorem encA_len (x : SmallS) : (encA x).length = 38 := encSt_len _
theorem sorted_block {α : Type} [Inhabited α] (enc : α → List Value) (k : Nat) (hk : ∀ x, (enc x).length = k) (k0 : 0 < k) (d : Array α) (cur : Array Value) (h : d.size * k ≤ cur.size) : (putCells id 0 (flatK enc k d) cur).size = cur.size ∧ (putCells id 0 (flatK enc k d) cur).toList.take (d.size * k) = d.toList.flatMap enc := by
  refine ⟨by simp [putCells], ?_⟩
  refine List.ext_getElem? fun t => ?_
  rw [List.getElem?_take]
  split
  · rename_i ht
    have hj : t / k < d.size := (Nat.div_lt_iff_lt_mul k0).2 ht
    have hm : t % k < k := Nat.mod_lt _ k0
    have e : t = t / k * k + t % k := by rw [Nat.mul_comm]; exact (Nat.div_add_mod t k).symm
    have hr : (d.toList.flatMap enc)[t]? = (enc d[t / k]!)[t % k]? := by
      conv => lhs; rw [e]
      exact flat_get enc k hk d.toList (t / k) (t % k) d[t / k]! (by rw [getElem!_pos d _ hj]; simp [hj]) hm
    rw [hr, Array.getElem?_toList]
    have ht' : t < (flatK enc k d).size := by rw [size_flatK]; exact ht
    have hl : (putCells id 0 (flatK enc k d) cur)[t]? = some (flatK enc k d)[t]! := by
      unfold putCells
      rw [Array.getElem?_mapIdx, Array.getElem?_eq_getElem (by omega)]
      simp only [Option.map_some]
      rw [if_pos ⟨Nat.zero_le _, by omega⟩]; rfl
    rw [hl, get_flatK enc k d t ht, getElem!_pos (enc d[t / k]!) _ (by rw [hk]; exact hm), List.getElem?_eq_getElem (by rw [hk]; exact hm)]
  · rename_i ht
    rw [List.getElem?_eq_none]
    rw [flat_len enc k hk]; simp; omega
theorem clos2_lays (blk off size : Nat) (w : World) : CmpLays Try.prog 55 #[] encA 38 cmpA blk off size w := fun m os dk _ x y => by
  have h := clos2_any x.val y.val (sortWorldK encA 38 w blk off m dk os)
  rw [show IntKind.i64.wrap (x.val.r - y.val.r) = cmpA x y from IntWalk.i64_in _ (by have := x.2; have := y.2; omega)] at h
  exact h
theorem cmpA_swo : SWO (ltOf cmpA) := by
  have e : ∀ x y : SmallS, ltOf cmpA x y = decide (x.val.r < y.val.r) := fun x y => by
    unfold ltOf cmpA
    exact decide_eq_decide.2 (by omega)
  refine ⟨fun x => ?_, fun x y z h1 h2 => ?_, fun x y z h1 h2 => ?_⟩
  · rw [e]; exact decide_eq_false (by omega)
  · rw [e] at *
    have := of_decide_eq_true h1; have := of_decide_eq_true h2
    exact decide_eq_true (by omega)
  · rw [e] at *
    have := of_decide_eq_false h1; have := of_decide_eq_false h2
    exact decide_eq_false (by omega)
/-- slices.SortFunc over at most 12 stamps of a row of the call's own, replicas being small -/
theorem sortS_any (w : World) (g c : Nat) (D : List StampD) (hv : (rowC 49 38 (.slice (some ⟨g, 0, none⟩) D.length c) D.length (D.flatMap encSt)).ok w) (h12 : D.length ≤ 12) (hr : ∀ s ∈ D, 0 ≤ s.r ∧ s.r < 1000) :
    Calls Try.prog 54 #[.slice (some ⟨g, 0, none⟩) D.length c, .func (.func 55) #[] #[]] w fun e w' => e = .returned (.tuple #[]) ∧ ∃ D' : List StampD, D'.Perm D ∧ (D'.Pairwise fun a b => a.r ≤ b.r) ∧ (rowC 49 38 (.slice (some ⟨g, 0, none⟩) D.length c) D.length (D'.flatMap encSt)).ok w' ∧ Upd [g] w w' := by
  obtain ⟨A, rfl⟩ : ∃ A : List SmallS, A.map (·.val) = D := ⟨D.pmap (fun s h => ⟨s, h⟩) hr, by simp [List.map_pmap]⟩
  simp only [List.length_map] at hv h12 ⊢
  have hfl : ∀ B : List SmallS, (B.map (·.val)).flatMap encSt = B.flatMap encA := fun B => by rw [List.flatMap_map]; rfl
  rw [hfl] at hv
  have hg : g < w.heap.size := (rowC _ _ _ _ _).lt hv g rfl
  obtain ⟨cur, hb, hnc, hcm, hcs, htk⟩ : ∃ cur, w.heap[g]? = some (.cells cur 49 (0, 0)) ∧ A.length ≤ c ∧ c ≤ maxLen ∧ cur.size = c * 38 ∧ cur.toList.take (A.length * 38) = A.flatMap encA := by
    rcases hv.2 with ⟨h, _⟩ | ⟨g', c', cur, h, _, h1, h2, h3, h4, h5⟩
    · cases h
    · simp only [Value.slice.injEq, Option.some.injEq, Addr.mk.injEq] at h
      obtain ⟨⟨rfl, _⟩, _, rfl⟩ := h
      exact ⟨cur, h1, h2, h3, h4, h5⟩
  have hH : HoldsK encA 38 w g 0 A.toArray := fun j hj => by
    have hj' : j < A.length * 38 := by simpa using hj
    have hq : j / 38 < A.length := (Nat.div_lt_iff_lt_mul (by omega)).2 hj'
    refine ⟨?_, ?_⟩
    · rw [get_flatK _ _ _ _ (by simpa using hj')]
      have hx : A.toArray[j / 38]! = A[j / 38] := by rw [getElem!_pos A.toArray (j / 38) (by simpa using hq)]; simp
      rw [hx]
      refine rows_cell (enc := encA) hv rfl encA_len (i := j / 38) (x := A[j / 38]) (List.getElem?_eq_getElem hq) (j % 38) (by have := Nat.mod_lt j (show 0 < 38 by omega); simp [Nat.blt_eq, this]) (by omega) ?_
      have hm : j % 38 < (encA A[j / 38]).length := by rw [encA_len]; omega
      rw [List.getElem?_eq_getElem hm, getElem!_pos (encA A[j / 38]) _ hm]; rfl
    · unfold World.frozen?
      rw [hb]; simp
  have hbl : ∀ (n : Nat) (W : World), n ≤ 12 → Calls Try.prog (sortL_ren.f 15) #[.int .u64 n] W fun e w' => (∃ l : Int, e = .returned (.int .i64 l)) ∧ w' = W := fun n W hn =>
    (Any.bits_Len bitsL n W (by omega) (by omega)).mono fun _ _ ⟨he, hw⟩ => ⟨⟨_, he⟩, hw⟩
  have h := AnyQ.slices_SortFunc_small_sorted (P := Try.prog) sortL 38 Try.isAgg49 Try.sizeOf49 encA encA_len (fun x v hv => List.all_eq_true.1 (encSt_one x.val) v hv) cmpA 55 #[] cmpA_swo g 0 c A.toArray w (enters_of Try.func55 (by kernel_rfl) rfl) (clos2_lays g 0 _ w) hH hg (by simpa using h12) hbl
  rw [show A.toArray.size = A.length from List.size_toArray ..] at h
  refine h.mono fun e w' ⟨he, d', n, os, hp, hs, hw⟩ => ?_
  have hsz : d'.size = A.length := by simpa using hp.1
  have hp2 : d'.toList.Perm A := by
    have := hp.2.2
    have e1 : d'.extract 0 A.length = d' := by rw [← hsz]; exact Array.extract_size
    have e2 : A.toArray.extract 0 A.length = A.toArray := Array.extract_size (xs := A.toArray)
    rw [e1, e2] at this
    exact this
  refine ⟨he, d'.toList.map (·.val), hp2.map _, ?_, ?_, ?_⟩
  · rw [List.pairwise_map, List.pairwise_iff_getElem]
    intro i j hi hj hij
    have hi' : i < d'.size := by simpa using hi
    have hj' : j < d'.size := by simpa using hj
    have := hs i j (Nat.zero_le _) hij (by omega)
    rw [getElem!_pos d' i hi', getElem!_pos d' j hj'] at this
    have h5 := of_decide_eq_false this
    unfold cmpA at h5
    show (d'.toList[i]).val.r ≤ (d'.toList[j]).val.r
    rw [Array.getElem_toList, Array.getElem_toList]
    omega
  · rw [hfl]
    obtain ⟨q1, q2⟩ := sorted_block encA 38 encA_len (by omega) d' cur (by rw [hsz, hcs]; exact Nat.mul_le_mul_right _ hnc)
    refine ⟨by rw [flat_len encA 38 encA_len]; simp [hsz], .inr ⟨g, c, putCells id 0 (flatK encA 38 d') cur, rfl, Nat.zero_le _, ?_, hnc, hcm, by rw [q1, hcs], by rw [← hsz]; exact q2⟩⟩
    rw [hw]
    unfold sortWorldK putRowK putRow mapBlock grow Sort.ahead
    simp only [Array.getElem?_append, Array.size_modify, hg, if_true, Array.getElem?_modify]
    rw [hb]; rfl
  · subst hw
    refine ⟨rfl, rfl, rfl, size_sortWorldK_c _ _ _ _ _ _ _ _, fun k hk hne => ?_⟩
    have hne : g ≠ k := fun e => hne (by simp [e])
    unfold sortWorldK putRowK putRow mapBlock grow Sort.ahead
    simp only [Array.getElem?_append, Array.size_modify, hk, if_true, Array.getElem?_modify, if_neg hne]
end Go.Proofs.Ytbpeofcoceaahaa
