/- WHAT IS PROVED: contracts and plain laws of Sort0P, SortP12, Mk12, FiP. Conditions: stated with each. -/
import Derived.Test.YtenihpghfdcpkaaGreatT05
import Derived.Test.YtenihpghfdcpkaaGreatT10
import Derived.Test.YtenihpghfdcpkaaGreatT15
import Derived.Test.YtenihpghfdcpkaaGreatT19
set_option maxHeartbeats 4000000
set_option maxRecDepth 100000
namespace Go.Proofs.YtenihpghfdcpkaaGreat
open Go.RowKit Go.Shelf Go.Sort
theorem ins0P_any (p : Option Addr) (cap : Nat) (fv : Value) (w : World) : Calls Tryz.prog 149 #[.slice p 0 cap, .int .i64 0, .int .i64 0, fv] w fun e w' => e = .returned (.tuple #[]) ∧ w' = w := by
 go_enter Tryz.func149, Tryz.ntmps149
 go_wp2
 refine wp_loop_rounds 1 ?_
 rw [rounds_succ]
 go_wp2
 go_end0
 exact ⟨rfl, rfl⟩
theorem pdq0P_any (p : Option Addr) (cap : Nat) (lim : Int) (fv : Value) (w : World) : Calls Tryz.prog 119 #[.slice p 0 cap, .int .i64 0, .int .i64 0, .int .i64 lim, fv] w fun e w' => e = .returned (.tuple #[]) ∧ w' = w := by
 have hi := fun W => ins0P_any p cap fv W
 go_enter Tryz.func119, Tryz.ntmps119
 go_wp2
 refine wp_loop_rounds 1 ?_
 rw [rounds_succ]
 go_wp2_with (go_at_call 149; refine (hi _).mono ?_; rintro e w' ⟨rfl, rfl⟩)
 (try simp only [Exit.inBlock, Exit.then]); refine bodyPost_ret (results_none rfl _ _ _) rfl ?_
 exact ⟨rfl, rfl⟩
theorem sort0P_any (p : Option Addr) (cap : Nat) (fv : Value) (w : World) : Calls Tryz.prog 90 #[.slice p 0 cap, fv] w fun e w' => e = .returned (.tuple #[]) ∧ w' = w := by
 have hp := fun lim W => pdq0P_any p cap lim fv W
 have hl : ∀ W, Calls Tryz.prog 102 #[.int .u64 0] W fun e w' => e = .returned (.int .i64 (Lib.bitLen 0 : Nat)) ∧ w' = W := fun W => Any.bits_Len bitsL 0 W (by omega) (by omega)
 go_enter Tryz.func90, Tryz.ntmps90
 go_wp2_with (first | (go_at_call 102; refine (hl _).mono ?_; rintro e w' ⟨rfl, rfl⟩) | (go_at_call 119; refine (hp _ _).mono ?_; rintro e w' ⟨rfl, rfl⟩))
 go_end0
 exact ⟨rfl, rfl⟩
theorem ins0O_any (p : Option Addr) (cap : Nat) (fv : Value) (w : World) : Calls Tryz.prog 161 #[.slice p 0 cap, .int .i64 0, .int .i64 0, fv] w fun e w' => e = .returned (.tuple #[]) ∧ w' = w := by
 go_enter Tryz.func161, Tryz.ntmps161
 go_wp2
 refine wp_loop_rounds 1 ?_
 rw [rounds_succ]
 go_wp2
 go_end0
 exact ⟨rfl, rfl⟩
theorem pdq0O_any (p : Option Addr) (cap : Nat) (lim : Int) (fv : Value) (w : World) : Calls Tryz.prog 123 #[.slice p 0 cap, .int .i64 0, .int .i64 0, .int .i64 lim, fv] w fun e w' => e = .returned (.tuple #[]) ∧ w' = w := by
 have hi := fun W => ins0O_any p cap fv W
 go_enter Tryz.func123, Tryz.ntmps123
 go_wp2
 refine wp_loop_rounds 1 ?_
 rw [rounds_succ]
 go_wp2_with (go_at_call 161; refine (hi _).mono ?_; rintro e w' ⟨rfl, rfl⟩)
 (try simp only [Exit.inBlock, Exit.then]); refine bodyPost_ret (results_none rfl _ _ _) rfl ?_
 exact ⟨rfl, rfl⟩
theorem sort0O_any (p : Option Addr) (cap : Nat) (fv : Value) (w : World) : Calls Tryz.prog 95 #[.slice p 0 cap, fv] w fun e w' => e = .returned (.tuple #[]) ∧ w' = w := by
 have hp := fun lim W => pdq0O_any p cap lim fv W
 have hl : ∀ W, Calls Tryz.prog 102 #[.int .u64 0] W fun e w' => e = .returned (.int .i64 (Lib.bitLen 0 : Nat)) ∧ w' = W := fun W => Any.bits_Len bitsL 0 W (by omega) (by omega)
 go_enter Tryz.func95, Tryz.ntmps95
 go_wp2_with (first | (go_at_call 102; refine (hl _).mono ?_; rintro e w' ⟨rfl, rfl⟩) | (go_at_call 123; refine (hp _ _).mono ?_; rintro e w' ⟨rfl, rfl⟩))
 go_end0
 exact ⟨rfl, rfl⟩
theorem ins0T_any (p : Option Addr) (cap : Nat) (fv : Value) (w : World) : Calls Tryz.prog 169 #[.slice p 0 cap, .int .i64 0, .int .i64 0, fv] w fun e w' => e = .returned (.tuple #[]) ∧ w' = w := by
 go_enter Tryz.func169, Tryz.ntmps169
 go_wp2
 refine wp_loop_rounds 1 ?_
 rw [rounds_succ]
 go_wp2
 go_end0
 exact ⟨rfl, rfl⟩
theorem pdq0T_any (p : Option Addr) (cap : Nat) (lim : Int) (fv : Value) (w : World) : Calls Tryz.prog 124 #[.slice p 0 cap, .int .i64 0, .int .i64 0, .int .i64 lim, fv] w fun e w' => e = .returned (.tuple #[]) ∧ w' = w := by
 have hi := fun W => ins0T_any p cap fv W
 go_enter Tryz.func124, Tryz.ntmps124
 go_wp2
 refine wp_loop_rounds 1 ?_
 rw [rounds_succ]
 go_wp2_with (go_at_call 169; refine (hi _).mono ?_; rintro e w' ⟨rfl, rfl⟩)
 (try simp only [Exit.inBlock, Exit.then]); refine bodyPost_ret (results_none rfl _ _ _) rfl ?_
 exact ⟨rfl, rfl⟩
theorem sort0T_any (p : Option Addr) (cap : Nat) (fv : Value) (w : World) : Calls Tryz.prog 97 #[.slice p 0 cap, fv] w fun e w' => e = .returned (.tuple #[]) ∧ w' = w := by
 have hp := fun lim W => pdq0T_any p cap lim fv W
 have hl : ∀ W, Calls Tryz.prog 102 #[.int .u64 0] W fun e w' => e = .returned (.int .i64 (Lib.bitLen 0 : Nat)) ∧ w' = W := fun W => Any.bits_Len bitsL 0 W (by omega) (by omega)
 go_enter Tryz.func97, Tryz.ntmps97
 go_wp2_with (first | (go_at_call 102; refine (hl _).mono ?_; rintro e w' ⟨rfl, rfl⟩) | (go_at_call 124; refine (hp _ _).mono ?_; rintro e w' ⟨rfl, rfl⟩))
 go_end0
 exact ⟨rfl, rfl⟩
instance : Inhabited PrR := ⟨pr0⟩
def cmpPr (x y : PrR) : Int := sgn3 x.r y.r
def ltPr (x y : PrR) : Prop := x.r < y.r
instance (x y : PrR) : Decidable (ltPr x y) := by unfold ltPr; exact inferInstance
theorem ltOf_cmpPr (x y : PrR) : ltOf cmpPr x y = decide (ltPr x y) := by
 unfold ltOf
 refine decide_eq_decide.2 ?_
 unfold cmpPr ltPr
 rcases sgn3_cases x.r y.r with ⟨h1, e1⟩ | ⟨h1, e1⟩ | ⟨h1, e1⟩ <;> rw [e1] <;>
  first | exact iff_of_true (by decide) (by omega) | exact iff_of_false (by decide) (by omega)
theorem cmpPr_swo : SWO (ltOf cmpPr) := by
 refine ⟨fun x => ?_, fun x y z h1 h2 => ?_, fun x y z h1 h2 => ?_⟩
 ·rw [ltOf_cmpPr]; exact decide_eq_false (by unfold ltPr; omega)
 ·rw [ltOf_cmpPr] at *
  have := of_decide_eq_true h1; have := of_decide_eq_true h2
  unfold ltPr at *
  exact decide_eq_true (by omega)
 ·rw [ltOf_cmpPr] at *
  have := of_decide_eq_false h1; have := of_decide_eq_false h2
  unfold ltPr at *
  exact decide_eq_false (by omega)
theorem fstCmp_lays (blk off size : Nat) (w : World) {fb : Nat} (hne : fb ≠ blk) (hfb : (cellC fb 127 [.func (.func 45) #[] #[]]).ok w) : CmpLays Tryz.prog 91 #[.pointer (some ⟨fb, 0, none⟩)] encPr 6 cmpPr blk off size w := fun m os dk _ x y =>
 (fstCmp_any (sortWorldK encPr 6 w blk off m dk os) x y fb ((cellC fb _ _).stay hfb fun b hb => by
  rw [show b = fb from hb]
  have hlt := (cellC fb _ _).lt hfb fb rfl
  unfold sortWorldK putRowK putRow mapBlock grow Sort.ahead
  simp only [Array.getElem?_append, Array.size_modify, hlt, if_true, Array.getElem?_modify]
  rw [if_neg (fun e => hne e.symm)])).mono fun _ _ h => ⟨h.1, h.2.2⟩
theorem sortPE_any (w : World) (g c : Nat) (D : List PrR) (hv : (rowC 71 6 (.slice (some ⟨g, 0, none⟩) D.length c) D.length (D.flatMap encPr)).ok w) (h12 : D.length ≤ 12) (fb : Nat) (hne : fb ≠ g) (hfb : (cellC fb 127 [.func (.func 45) #[] #[]]).ok w) :
  Calls Tryz.prog 90 #[.slice (some ⟨g, 0, none⟩) D.length c, .func (.func 91) #[] #[.pointer (some ⟨fb, 0, none⟩)]] w fun e w' => e = .returned (.tuple #[]) ∧ ∃ D' : List PrR, D'.Perm D ∧ (D'.Pairwise fun a b => ¬ ltPr b a) ∧ (rowC 71 6 (.slice (some ⟨g, 0, none⟩) D.length c) D.length (D'.flatMap encPr)).ok w' ∧ Upd [g] w w' := by
 obtain ⟨A, rfl⟩ : ∃ A : List PrR, A = D := ⟨D, rfl⟩
 have hg : g < w.heap.size := (rowC _ _ _ _ _).lt hv g rfl
 obtain ⟨cur, hb, hnc, hcm, hcs, htk⟩ : ∃ cur, w.heap[g]? = some (.cells cur 71 (0, 0)) ∧ A.length ≤ c ∧ c ≤ maxLen ∧ cur.size = c * 6 ∧ cur.toList.take (A.length * 6) = A.flatMap encPr := by
  rcases hv.2 with ⟨h, _⟩ | ⟨g', c', cur, h, _, h1, h2, h3, h4, h5⟩
  ·cases h
  ·simp only [Value.slice.injEq, Option.some.injEq, Addr.mk.injEq] at h
   obtain ⟨⟨rfl, _⟩, _, rfl⟩ := h
   exact ⟨cur, h1, h2, h3, h4, h5⟩
 have hH : HoldsK encPr 6 w g 0 A.toArray := fun j hj => by
  have hj' : j < A.length * 6 := by simpa using hj
  have hq : j / 6 < A.length := (Nat.div_lt_iff_lt_mul (by omega)).2 hj'
  refine ⟨?_, ?_⟩
  ·rw [get_flatK _ _ _ _ (by simpa using hj')]
   have hx : A.toArray[j / 6]! = A[j / 6] := by rw [getElem!_pos A.toArray (j / 6) (by simpa using hq)]; simp
   rw [hx]
   refine rows_cell (enc := encPr) hv rfl encPr_len (i := j / 6) (x := A[j / 6]) (List.getElem?_eq_getElem hq) (j % 6) (by have := Nat.mod_lt j (show 0 < 6 by omega); simp [Nat.blt_eq, this]) (by omega) ?_
   have hm : j % 6 < (encPr A[j / 6]).length := by rw [encPr_len]; omega
   rw [List.getElem?_eq_getElem hm, getElem!_pos (encPr A[j / 6]) _ hm]; rfl
  ·unfold World.frozen?
   rw [hb]; simp
 have hbl : ∀ (n : Nat) (W : World), n ≤ 12 → Calls Tryz.prog (sortP_ren.f 15) #[.int .u64 n] W fun e w' => (∃ l : Int, e = .returned (.int .i64 l)) ∧ w' = W := fun n W hn =>
  (Any.bits_Len bitsL n W (by omega) (by omega)).mono fun _ _ ⟨he, hw⟩ => ⟨⟨_, he⟩, hw⟩
 have h := AnyQ.slices_SortFunc_small_sorted (P := Tryz.prog) sortP 6 Tryz.isAgg71 Tryz.sizeOf71 encPr encPr_len (fun x v hv => List.all_eq_true.1 (encPr_one x) v hv) cmpPr 91 #[.pointer (some ⟨fb, 0, none⟩)] cmpPr_swo g 0 c A.toArray w (enters_of Tryz.func91 (by kernel_rfl) rfl) (fstCmp_lays g 0 _ w hne hfb) hH hg (by simpa using h12) hbl
 rw [show A.toArray.size = A.length from List.size_toArray ..] at h
 refine h.mono fun e w' ⟨he, d', n, os, hp, hs, hw⟩ => ?_
 have hsz : d'.size = A.length := by simpa using hp.1
 have hp2 : d'.toList.Perm A := by
  have := hp.2.2
  have e1 : d'.extract 0 A.length = d' := by rw [← hsz]; exact Array.extract_size
  have e2 : A.toArray.extract 0 A.length = A.toArray := Array.extract_size (xs := A.toArray)
  rw [e1, e2] at this
  exact this
 refine ⟨he, d'.toList, hp2, ?_, ?_, ?_⟩
 ·rw [List.pairwise_iff_getElem]
  intro i j hi hj hij
  have hi' : i < d'.size := by simpa using hi
  have hj' : j < d'.size := by simpa using hj
  have := hs i j (Nat.zero_le _) hij (by omega)
  rw [getElem!_pos d' i hi', getElem!_pos d' j hj'] at this
  rw [ltOf_cmpPr] at this
  have h5 := of_decide_eq_false this
  rwa [Array.getElem_toList, Array.getElem_toList]
 ·obtain ⟨q1, q2⟩ := sorted_block encPr 6 encPr_len (by omega) d' cur (by rw [hsz, hcs]; exact Nat.mul_le_mul_right _ hnc)
  refine ⟨by rw [flat_len encPr 6 encPr_len]; simp [hsz], .inr ⟨g, c, putCells id 0 (flatK encPr 6 d') cur, rfl, Nat.zero_le _, ?_, hnc, hcm, by rw [q1, hcs], by rw [← hsz]; exact q2⟩⟩
  rw [hw]
  unfold sortWorldK putRowK putRow mapBlock grow Sort.ahead
  simp only [Array.getElem?_append, Array.size_modify, hg, if_true, Array.getElem?_modify]
  rw [hb]; rfl
 ·subst hw
  refine ⟨rfl, rfl, rfl, size_sortWorldK_c _ _ _ _ _ _ _ _, fun k hk hne => ?_⟩
  have hne : g ≠ k := fun e => hne (by simp [e])
  unfold sortWorldK putRowK putRow mapBlock grow Sort.ahead
  simp only [Array.getElem?_append, Array.size_modify, hk, if_true, Array.getElem?_modify, if_neg hne]
theorem sortPRow_any (w : World) (a : Option Addr) (c : Nat) (D : List PrR) (fb : Nat) (hv : (sepC [rowC 71 6 (.slice a D.length c) D.length (D.flatMap encPr), cellC fb 127 [.func (.func 45) #[] #[]]]).ok w) (h12 : D.length ≤ 12) :
  Calls Tryz.prog 90 #[.slice a D.length c, .func (.func 91) #[] #[.pointer (some ⟨fb, 0, none⟩)]] w fun e w' => ∃ D' : List PrR, e = .returned (.tuple #[]) ∧ D'.Perm D ∧ (D'.Pairwise fun a b => ¬ ltPr b a) ∧ Sat w [rowC 71 6 (.slice a D'.length c) D'.length (D'.flatMap encPr), cellC fb 127 [.func (.func 45) #[] #[]], restC w (sepC [rowC 71 6 (.slice a D.length c) D.length (D.flatMap encPr), cellC fb 127 [.func (.func 45) #[] #[]]]).fp] w' := by
 have H := Sat.start _ hv
 cases hD : D with
 | nil =>
  subst hD
  refine (sort0P_any a c (.func (.func 91) #[] #[.pointer (some ⟨fb, 0, none⟩)]) w).mono fun e w' ⟨he, hw⟩ => ?_
  subst hw
  exact ⟨[], he, List.Perm.refl _, List.Pairwise.nil, H⟩
 | cons x D0 =>
  rw [← hD]
  have hv0 := hv.1 _ List.mem_cons_self
  have hv1 := hv.1 _ (List.mem_cons_of_mem _ List.mem_cons_self)
  obtain ⟨g, c', hs⟩ := row_shape hv0 (by rw [hD]; simp)
  simp only [Value.slice.injEq] at hs
  obtain ⟨rfl, _, rfl⟩ := hs
  have hne : fb ≠ g := fun e => (List.pairwise_cons.1 hv.2).1 _ List.mem_cons_self g rfl e.symm
  refine (sortPE_any w g c D hv0 h12 fb hne hv1).mono fun e w' ⟨he, D', hp, hs, hok, hu⟩ => ?_
  have hl := hp.length_eq
  refine ⟨D', he, hp, hs, ?_⟩
  rw [hl]
  exact H.setU hu 0 rfl (by rintro b' hb; rw [List.mem_singleton.1 hb]; rfl) hok (fun b hb => .inl hb)
end Go.Proofs.YtenihpghfdcpkaaGreat
namespace Go.Proofs.YtenihpghfdcpkaaGreat
open Go.RowKit
abbrev kMk12_0 (p0 : PrR) : List Value := ([(.int .i64 p0.r), (.int .i64 p0.e), (.int .u64 p0.f), (.slice p0.ca p0.C.length p0.cc), (.int .i64 p0.sb), (.int .i64 p0.sm)] : List Value)
theorem mkNum_any (w : World) (p : PrR) :
  Calls Tryz.prog 45 #[(.agg ⟨([(.int .i64 (p.r)), (.int .i64 (p.e)), (.int .u64 (p.f)), ((.slice p.ca p.C.length p.cc)), (.int .i64 (p.sb)), (.int .i64 (p.sm))] : List Value)⟩)] w fun e w' => e = .returned (.int .i64 p.r) ∧ Upd [] w w' := by
 have H := Sat.start0 w
 refine calls_fr Tryz.func45 rfl 5 rfl (Nat.le_of_ble_eq_true rfl) ?_
 refine zsl <| zwd fun Kq kq => zdb (kMk12_0 p) H fun b2 w3 H4 => ?_
 refine kq _ _ <| wv 2 (.int .i64 (0)) <| znsl <| wv 3 (pt b2 0) <| zw1 4 (.int .i64 (p.r)) (H4.cell 1 rfl rfl) <| wv 2 (.int .i64 (p.r)) <| znt <| w_ret <| ze1 (.int .i64 (p.r)) ?_
 exact ⟨rfl, H4.upd 0 rfl [] (fun _ h => h.elim)⟩
theorem mkMine_any (w : World) (p : PrR) (s tb : Nat) (F c E last T : Int) (hF : 1 ≤ F ∧ F ≤ 1099511627776) (vm vo : Value) (hs : (cellC s 54 [.int .i64 F, .int .i64 c, .int .i64 E, .int .u64 last, vm, vo]).ok w) (ht : (cellC tb 25 [.int .u64 T]).ok w) :
  Calls Tryz.prog 42 #[(.agg ⟨([(.int .i64 (p.r)), (.int .i64 (p.e)), (.int .u64 (p.f)), ((.slice p.ca p.C.length p.cc)), (.int .i64 (p.sb)), (.int .i64 (p.sm))] : List Value)⟩), (.pointer (some ⟨s, 0, none⟩)), (.pointer (some ⟨tb, 0, none⟩))] w fun e w' => e = .returned (.bool (inB F p.r && decide (p.e = E) && decide (p.f = T))) ∧ Upd [] w w' := by
 have H := Sat.start0 w
 refine calls_fr Tryz.func42 rfl 23 rfl (Nat.le_of_ble_eq_true rfl) ?_
 refine zsl <| zwd fun Kq kq => zdb (kMk12_0 p) H fun b2 w3 H4 => ?_
 refine kq _ _ <| wv 4 (.bool false) <| znsl <| wv 5 (pt s 0) <| zwN 6 ([(.int .i64 (F)), (.int .i64 (c))] : List Value) (H4.roCells 0 rfl hs (fun h => h)) <| wv 7 (pt b2 0) <| zw1 8 (.int .i64 (p.r)) (H4.cell 1 rfl rfl) <| zwd fun Kq kq => zdq 9 (wIn_any w3 F c p.r (by omega)) H4 fun w6 H7 => ?_
 refine kq _ _ <| wv 10 (.bool (inB F p.r)) ?_
 refine (bsplit (inB F p.r)).elim (fun b9 => ?_) (fun b9 => ?_)
 ·refine wl_know 10 (.bool true) (congrArg Value.bool b9) ?_
  refine wy 5 10 true 11 (pt b2 1) <| wy 5 10 true 12 (.int .i64 (p.e)) ?_ (hr := zl1 (H7.cell 1 rfl rfl))
  refine wy 5 10 true 13 (pt s 2) <| wy 5 10 true 14 (.int .i64 (E)) ?_ (hr := zl1 (H7.roCell 0 rfl hs (fun h => h) rfl))
  refine wy 5 10 true 15 (.bool (decide (p.e = E))) <| wv 16 (.bool (decide (p.e = E))) <| wv 17 (.bool (decide (p.e = E))) ?_
  refine (bsplit (decide (p.e = E))).elim (fun b10 => ?_) (fun b10 => ?_)
  ·have g11 := of_decide_eq_true b10
   refine wl_know 17 (.bool true) (congrArg Value.bool b10) ?_
   refine wy 12 17 true 18 (pt b2 2) <| wy 12 17 true 19 (.int .u64 (p.f)) ?_ (hr := zl1 (H7.cell 1 rfl rfl))
   refine wy 12 17 true 20 (.int .u64 (T)) ?_ (hr := zl1 (H7.roCell 0 rfl ht (fun h => h) rfl))
   refine wy 12 17 true 21 (.bool (decide (p.f = T))) <| wv 22 (.bool (decide (p.f = T))) <| wv 4 (.bool (decide (p.f = T))) <| znt <| w_ret <| ze1 (.bool (decide (p.f = T))) ?_
   exact ⟨by simp [b9, b10], H7.upd 0 rfl [] (fun _ h => h.elim)⟩
  have g13 := of_decide_eq_false b10
  refine wl_know 17 (.bool false) (congrArg Value.bool b10) ?_
  iterate 4 refine wn 12 17 true ?_
  refine wv 22 (.bool false) <| wv 4 (.bool false) <| znt <| w_ret <| ze1 (.bool false) ?_
  exact ⟨by simp [b9, b10], H7.upd 0 rfl [] (fun _ h => h.elim)⟩
 refine wl_know 10 (.bool false) (congrArg Value.bool b9) ?_
 iterate 5 refine wn 5 10 true ?_
 refine wv 16 (.bool false) <| wv 17 (.bool false) ?_
 iterate 4 refine wn 12 17 true ?_
 refine wv 22 (.bool false) <| wv 4 (.bool false) <| znt <| w_ret <| ze1 (.bool false) ?_
 exact ⟨by simp [b9], H7.upd 0 rfl [] (fun _ h => h.elim)⟩
abbrev kFiP_0 (p0 : Option Addr) (p1 : List PrR) (p2 : Nat) : Ck := rowC 71 6 (.slice p0 p1.length p2) p1.length (p1.flatMap encPr)
abbrev kFiP_1 (p0 : PrR) (p1 : Nat) : List Value := ([(.int .i64 p0.r), (.int .i64 p0.e), (.int .u64 p0.f), (.slice p0.ca p1 p0.cc), (.int .i64 p0.sb), (.int .i64 p0.sm)] : List Value)
abbrev kFiP_2 : List Value := ([(.int .i64 (0)), (.int .i64 (0)), (.int .u64 (0)), (.slice none 0 0), (.int .i64 (0)), (.int .i64 (0))] : List Value)
def mayPr (F E T : Int) (p : PrR) : Bool := inB F p.r && decide (p.e = E) && decide (p.f = T)
theorem firstP_any (w : World) (la : Option Addr) (lc : Nat) (L : List PrR) (hL : ListAt encPr 6 w (.slice la L.length lc) L) (hlL : L.length ≤ 1000) (m : Nat) (s tb : Nat) (F c E last T : Int) (hF : 1 ≤ F ∧ F ≤ 1099511627776) (vm vo : Value) (hs : (cellC s 54 [.int .i64 F, .int .i64 c, .int .i64 E, .int .u64 last, vm, vo]).ok w) (ht : (cellC tb 25 [.int .u64 T]).ok w) (h12 : (firstN (fun x : PrR => x.r) (mayPr F E T) L).length ≤ 12) :
  Calls Tryz.prog 44 #[(.slice la L.length lc), (.func (.func 45) #[] #[]), (.func (.func 42) #[] #[(.pointer (some ⟨s, 0, none⟩)), (.pointer (some ⟨tb, 0, none⟩))]), (.int .i64 ((m : Int)))] w fun e w' => ∃ (oa : Option Addr) (oc : Nat) (D : List PrR), e = .returned (.slice oa (D.take m).length oc) ∧ SortN (fun x : PrR => x.r) (mayPr F E T) L D ∧ D.length ≤ L.length ∧ (rowC 71 6 (.slice oa (D.take m).length oc) (D.take m).length ((D.take m).flatMap encPr)).ok w' ∧ Upd [] w w' ∧ ∀ q_, (rowC 71 6 (.slice oa (D.take m).length oc) (D.take m).length ((D.take m).flatMap encPr)).fp q_ → w.heap.size ≤ q_ := by
 have H := Sat.start0 w
 have hcap := ListAt.cap hL
 refine calls_fr Tryz.func44 rfl 49 rfl (Nat.le_of_ble_eq_true rfl) ?_
 refine zsl <| zwd fun Kq kq => zdb ([(.func (.func 45) #[] #[])] : List Value) H fun b2 w3 H4 => ?_
 refine kq _ _ <| wv 8 (.slice none 0 0) <| znsl <| zwd fun Kq kq => d_makeMap (Value.int .i64) Value.bool rfl H4 fun b6 w7 H8 => ?_
 refine kq _ _ <| wv 9 (.map (some b6)) <| znsl <| wv 10 (.slice none 0 0) <| znt <| w_seq <| zsl <| wv 15 (.slice la L.length lc) <| wv 16 (.int .i64 ((L.length : Int))) <| wv 17 (.int .i64 (0)) ?_
 refine znt <| w_block ?_
 have H9 := H8.addNil 71 6
 refine wp_round ([10, 12, 13] ++ List.range' 17 23) (fun F_ W_ m_ => ∃ (i : Nat) (HV : List (Int × Bool)) (oa : Option Addr) (oc : Nat) (O : List PrR), F_ 17 = (.int .i64 ((i : Int))) ∧ F_ 10 = (.slice oa O.length oc) ∧ (i ≤ L.length) ∧ (O = firstN (fun x : PrR => x.r) (mayPr F E T) (L.take i)) ∧ (HvOk HV (fun x : PrR => x.r) O) ∧ (O.length ≤ i) ∧ Sat w [restC w (fun _ => False), cellC b2 127 ([(.func (.func 45) #[] #[])] : List Value), mapC b6 (Value.int .i64) Value.bool HV, (kFiP_0 oa O oc)] W_ ∧ m_ = L.length - i) _ ⟨0, [], none, 0, [], (show ((.int .i64 (0)) : Value) = _ by first | rfl | go_num), (by first | rfl | go_num), (Nat.zero_le _), rfl, HvOk.nil, (Nat.zero_le _), H9, rfl⟩ ?_
 rintro g10 w11 _ ⟨i, HV, oa, oc, O, v13, v14, hi, hO, hhv, hOl, H12, rfl⟩
 refine wp_know 17 _ v13 ?_
 refine wp_know 10 _ v14 ?_
 refine zsl <| wv 18 (.bool (decide ((i : Int) < (L.length : Int)))) <| znt <| w_seq ?_
 refine (bsplit (decide ((i : Int) < (L.length : Int)))).elim (fun b16 => ?_) (fun b16 => ?_)
 ·have g17 := of_decide_eq_true b16
  refine zwkt _ b16 ?_
  refine w_skip <| ztn <| w_seq <| w_block <| zsl ?_
  obtain ⟨g19, o20, c21, e22, R23⟩ := SliceOf.atD hL pr0 (show i < L.length by omega)
  refine wv 19 (.pointer (some ⟨g19, o20 + ((i : Int)).toNat * 6, none⟩)) ?_ (hr := e_indexAddrW (E := 71) (by kernel_rfl) (by kernel_rfl) (Nat.le_of_ble_eq_true rfl) rfl e22 rfl (by omega) (by omega))
  refine wv 20 (.agg ⟨(kFiP_1 (L.getD i pr0) ((L.getD i pr0).C.length))⟩) ?_ (hr := e_loadRun (vs := (kFiP_1 (L.getD i pr0) ((L.getD i pr0).C.length))) rfl (by kernel_rfl) (by kernel_rfl) (Nat.le_of_ble_eq_true (by kernel_rfl)) (H12.runR 0 rfl (cells_run R23 0 (by kernel_rfl) (show o20 + ((i : Int)).toNat * 6 = o20 + i * 6 + 0 by omega)) (fun h => h)))
  refine zwd fun Kq kq => zda (kFiP_2) H12 fun b25 w26 H27 => ?_
  refine kq _ _ <| zwd fun Kq kq => zds1 (kFiP_1 (L.getD i pr0) ((L.getD i pr0).C.length)) H27 4 fun w29 H30 => ?_
  refine kq _ _ <| znsl <| zw1 21 (.func (.func 45) #[] #[]) (H30.cell 1 rfl rfl) <| zwN 22 (kFiP_1 (L.getD i pr0) ((L.getD i pr0).C.length)) (H30.at 4 rfl) <| zwd fun Kq kq => zdq 23 (mkNum_any w29 (L.getD i pr0)) H30 fun w33 H34 => ?_
  refine kq _ _ <| wv 13 (.int .i64 ((L.getD i pr0).r)) <| znsl <| wv 24 (.map (some b6)) <| wv 25 (.int .i64 ((L.getD i pr0).r)) <| wv 26 (.bool ((lookM HV ((L.getD i pr0).r)).getD false)) ?_ (hr := e_lookup (kt := 3) (et := 4) (KeyTy.int (by kernel_rfl)) (by kernel_rfl) (fun w => by kernel_rfl) rfl ((L.getD i pr0).r) rfl (H34.at 2 rfl) (optD Value.bool _ _))
  refine wv 27 (.bool (!((lookM HV ((L.getD i pr0).r)).getD false))) <| wv 28 (.bool (!((lookM HV ((L.getD i pr0).r)).getD false))) ?_
  refine (bsplit (!((lookM HV ((L.getD i pr0).r)).getD false))).elim (fun b36 => ?_) (fun b36 => ?_)
  ·have g37 := bnot_true b36
   refine wl_know 28 (.bool true) (congrArg Value.bool b36) ?_
   refine wy 4 28 true 29 (.func (.func 42) #[] #[(pt s 0), (pt tb 0)]) <| wy 4 28 true 30 (.agg ⟨(kFiP_1 (L.getD i pr0) ((L.getD i pr0).C.length))⟩) ?_ (hr := zlN (vs := (kFiP_1 (L.getD i pr0) ((L.getD i pr0).C.length))) (H34.at 4 rfl))
   refine wl_do (wantsY 4 28 true rfl (by kernel_rfl) rfl (by kernel_rfl)) (fun Kq kq => ?_)
   refine zdq 31 (mkMine_any w33 (L.getD i pr0) s tb F c E last T hF vm vo (H34.roCk 0 rfl hs (fun _ _ h => h)) (H34.roCk 0 rfl ht (fun _ _ h => h))) H34 ?_
   intro w40 H41
   refine kq _ _ <| wv 32 (.bool (mayPr F E T (L.getD i pr0))) <| znt ?_
   refine (bsplit (mayPr F E T (L.getD i pr0))).elim (fun b43 => ?_) (fun b43 => ?_)
   ·refine zwkt _ b43 ?_
    refine zsl <| wv 33 (.map (some b6)) <| wv 34 (.int .i64 ((L.getD i pr0).r)) <| zwd fun Kq kq => d_mapUpdate (kt := 3) (et := 4) rfl H41 2 rfl (KeyTy.int (by kernel_rfl)) (by kernel_rfl) rfl ((L.getD i pr0).r) rfl true rfl fun w45 H46 => ?_
    refine kq _ _ <| znt <| w_lit <| wv 35 (.slice oa O.length oc) <| zwN 36 (kFiP_1 (L.getD i pr0) ((L.getD i pr0).C.length)) (H46.at 4 rfl) <| zwd fun Kq kq => zdbs 71 6 64 (.agg ⟨(kFiP_2)⟩) [(0, (.agg ⟨(kFiP_1 (L.getD i pr0) ((L.getD i pr0).C.length))⟩))] (kFiP_1 (L.getD i pr0) ((L.getD i pr0).C.length)) H46 ?_
    intro b48 w49 (H50 : Sat w [restC w (fun _ => False), cellC b2 127 ([(.func (.func 45) #[] #[])] : List Value), mapC b6 (Value.int .i64) Value.bool (putM HV ((L.getD i pr0).r) true), (kFiP_0 oa O oc), cellC b25 71 (kFiP_1 (L.getD i pr0) ((L.getD i pr0).C.length)), rowC 71 6 (.slice (some ⟨b48, 0, none⟩) 1 1) 1 (kFiP_1 (L.getD i pr0) ((L.getD i pr0).C.length))] w49)
    have H51 : Sat w [restC w (fun _ => False), cellC b2 127 ([(.func (.func 45) #[] #[])] : List Value), mapC b6 (Value.int .i64) Value.bool (putM HV ((L.getD i pr0).r) true), (kFiP_0 oa O oc), cellC b25 71 (kFiP_1 (L.getD i pr0) ((L.getD i pr0).C.length)), rowC 71 6 (.slice (some ⟨b48, 0, none⟩) 1 1) 1 ([(L.getD i pr0)].flatMap encPr)] w49 := H50.cast (by rw [(show ((kFiP_1 (L.getD i pr0) ((L.getD i pr0).C.length)) : List Value) = [(L.getD i pr0)].flatMap encPr by kernel_rfl)])
    refine kq _ _ <| zwd fun Kq kq => d_append (T := 41) (e := 71) (size := 6) (bytes := 64) rfl H51 (by kernel_rfl) 3 5 rfl rfl rfl rfl (flat_one encPr encPr_one [(L.getD i pr0)]) (by omega) (by omega) fun v53 w54 H55 => ?_
    have H58 : Sat w [restC w (fun _ => False), cellC b2 127 ([(.func (.func 45) #[] #[])] : List Value), mapC b6 (Value.int .i64) Value.bool (putM HV ((L.getD i pr0).r) true), rowC 71 6 v53 ((O ++ [(L.getD i pr0)]).length) ((O ++ [(L.getD i pr0)]).flatMap encPr), cellC b25 71 (kFiP_1 (L.getD i pr0) ((L.getD i pr0).C.length)), rowC 71 6 (.slice (some ⟨b48, 0, none⟩) 1 1) 1 ([(L.getD i pr0)].flatMap encPr)] w54 := H55.cast (by simp only [List.length_append, List.flatMap_append] <;> rfl)
    obtain ⟨a56, c57, rfl⟩ := ownsRow_shape (H58.at 3 rfl)
    refine kq _ _ <| wv 10 (.slice a56 ((O ++ [(L.getD i pr0)]).length) c57) <| w_nil <| blk_normal <| ztn <| w_lit <| zwi 39 ((i : Int) + 1) <| wv 17 (.int .i64 ((i : Int) + 1)) <| w_nil ?_
    have H59 := H58.pk [0, 1, 2, 3]
    refine round_back ?_ _ ⟨(i + 1), (putM HV ((L.getD i pr0).r) true), a56, c57, (O ++ [(L.getD i pr0)]), rfl, (show ((.slice a56 ((O ++ [(L.getD i pr0)]).length) c57) : Value) = _ by first | rfl | go_num), (by omega), (by rw [firstN_step (show L[i]? = some (L.getD i pr0) by rw [List.getD_eq_getElem?_getD, List.getElem?_eq_getElem (show i < L.length by omega)]; rfl), ← hO]; exact (takeN_yes (by rw [← hhv]; exact (by have q := b36; simpa using q)) b43).symm), (HvOk.put (num := (fun x : PrR => x.r)) (x := (L.getD i pr0)) hhv), (by first | omega | (simp only [List.length_append, List.length_cons, List.length_nil]; omega)), H59, rfl⟩ (by omega)
    exact zs
   refine zwkf _ b43 ?_
   refine w_skip <| blk_normal <| ztn <| w_lit <| zwi 39 ((i : Int) + 1) <| wv 17 (.int .i64 ((i : Int) + 1)) <| w_nil ?_
   have H60 := H41.pk [0, 1, 2, 3]
   refine round_back ?_ _ ⟨(i + 1), HV, oa, oc, O, rfl, rfl, (by omega), (by rw [firstN_step (show L[i]? = some (L.getD i pr0) by rw [List.getD_eq_getElem?_getD, List.getElem?_eq_getElem (show i < L.length by omega)]; rfl), ← hO]; exact (takeN_no2 b43).symm), hhv, (by first | omega | (simp only [List.length_append, List.length_cons, List.length_nil]; omega)), H60, rfl⟩ (by omega)
   exact zs
  have g61 := bnot_false b36
  refine wl_know 28 (.bool false) (congrArg Value.bool b36) ?_
  iterate 3 refine wn 4 28 true ?_
  refine wv 32 (.bool false) <| znt <| wp_iff rfl ?_
  refine w_skip <| blk_normal <| ztn <| w_lit <| zwi 39 ((i : Int) + 1) <| wv 17 (.int .i64 ((i : Int) + 1)) <| w_nil ?_
  have H63 := H34.pk [0, 1, 2, 3]
  refine round_back ?_ _ ⟨(i + 1), HV, oa, oc, O, rfl, rfl, (by omega), (by rw [firstN_step (show L[i]? = some (L.getD i pr0) by rw [List.getD_eq_getElem?_getD, List.getElem?_eq_getElem (show i < L.length by omega)]; rfl), ← hO]; exact (takeN_no1 (by rw [← hhv]; exact (by have q := b36; simpa using q))).symm), hhv, (by first | omega | (simp only [List.length_append, List.length_cons, List.length_nil]; omega)), H63, rfl⟩ (by omega)
  exact zs
 have g64 := of_decide_eq_false b16
 refine zwkf _ b16 ?_
 refine zxb <| ztn <| zsl <| wv 40 (.slice oa O.length oc) <| wv 41 (.func (.func 91) #[] #[(pt b2 0)]) <| zwd fun Kq kq => ?_
 have hiL : i = L.length := by omega
 rw [hiL, List.take_length] at hO
 refine zdc 42 (sortPRow_any w11 oa oc O b2 (H12.fn [3, 1]) (by rw [hO]; exact h12)) ?_
 rintro _ w67 ⟨D, rfl, p68, s69, T70⟩
 have hDl : D.length ≤ L.length := by have q := p68.length_eq; omega
 have H71 := H12.tl [(kFiP_0 oa D oc), cellC b2 127 ([(.func (.func 45) #[] #[])] : List Value)] [3, 1] [0, 2] T70 [2, 1, 3, 0]
 refine ⟨_, rfl, ?_⟩
 refine kq _ _ <| znt <| w_seq <| wp_know 10 (.slice oa D.length oc) (show ((.slice oa O.length oc) : Value) = _ by rw [p68.length_eq]) ?_
 have hcD := ListAt.cap (ListAt.row (enc := encPr) (sz := 6) encPr_len (by decide) (H71.at 3 rfl))
 refine w_lit <| wv 43 (.slice oa D.length oc) <| wv 44 (.slice oa D.length oc) <| wv 45 (.int .i64 ((D.length : Int))) <| wv 46 (.int .i64 ((m : Int))) <| wv 47 (.int .i64 (((min D.length m : Nat) : Int))) ?_ (hr := e_min (k := .i64) (a := (D.length : Int)) (b := (m : Int)) (z := ((min D.length m : Nat) : Int)) rfl rfl (by omega))
 refine wv 48 (.slice oa (min D.length m) oc) ?_ (hr := e_sliceHi (E := 71) (q := (min D.length m)) (by kernel_rfl) (by kernel_rfl) rfl rfl (by omega) (by omega))
 refine wv 8 (.slice oa (min D.length m) oc) <| znt <| w_ret <| ze1 (.slice oa (min D.length m) oc) ?_
 exact ⟨oa, oc, D, by rw [show min D.length m = (D.take m).length by rw [List.length_take, Nat.min_comm]], SortN.of (lt := ltPr) (by rw [← hO]; exact p68) (s69.imp fun h => h), hDl, row_prefix encPr_len (H71.at 3 rfl), H71.upd 0 rfl [] (fun _ h => h.elim), (fun q_ hq_ => H71.fresh 0 rfl (fun _ h => h) 3 rfl rfl q_ (by cases oa with | none => exact hq_ | some _ => exact hq_))⟩
end Go.Proofs.YtenihpghfdcpkaaGreat
