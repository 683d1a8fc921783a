/- WHAT IS PROVED: contracts and plain laws of FstT, SortT12, FiT. Conditions: stated with each. -/
import Derived.Test.YtenihpghfdcpkaaGreatT05
import Derived.Test.YtenihpghfdcpkaaGreatT15
import Derived.Test.YtenihpghfdcpkaaGreatT16
import Derived.Test.YtenihpghfdcpkaaGreatT19
import Derived.Test.YtenihpghfdcpkaaGreatT20
import Derived.Test.YtenihpghfdcpkaaGreatT24
import Derived.Test.YtenihpghfdcpkaaGreatT27
set_option maxHeartbeats 4000000
set_option maxRecDepth 100000
namespace Go.Proofs.YtenihpghfdcpkaaGreat
open Go.RowKit
abbrev kFstT_0 (p0 : TbR) : List Value := ([(.int .i64 p0.i), (.slice p0.da p0.D.length p0.dc)] : List Value)
theorem mkNumT_any (w : World) (p : TbR) :
  Calls Tryz.prog 55 #[(.agg ⟨([(.int .i64 (p.i)), ((.slice p.da p.D.length p.dc))] : List Value)⟩)] w fun e w' => e = .returned (.int .i64 p.i) ∧ Upd [] w w' ∧ Gr w w' := by
 have H := Sat.start0 w
 refine calls_fr Tryz.func55 rfl 5 rfl (Nat.le_of_ble_eq_true rfl) ?_
 refine zsl <| zwd fun Kq kq => d_boxG (vs := (kFstT_0 p)) rfl H rfl rfl fun b2 w3 H4 g5 => ?_
 refine kq _ _ <| wv 2 (.int .i64 (0)) <| znsl <| wv 3 (pt b2 0) <| zw1 4 (.int .i64 (p.i)) (H4.cell 1 rfl rfl) <| wv 2 (.int .i64 (p.i)) <| znt <| w_ret <| ze1 (.int .i64 (p.i)) ?_
 exact ⟨rfl, H4.upd 0 rfl [] (fun _ h => h.elim), g5⟩
theorem fstCmpT_any (w : World) (x y : TbR) (fb : Nat) (hfb : (cellC fb 138 [.func (.func 55) #[] #[]]).ok w) :
  Calls Tryz.prog 98 #[(.agg ⟨([(.int .i64 (x.i)), ((.slice x.da x.D.length x.dc))] : List Value)⟩), (.agg ⟨([(.int .i64 (y.i)), ((.slice y.da y.D.length y.dc))] : List Value)⟩), (.pointer (some ⟨fb, 0, none⟩))] w fun e w' => e = .returned (.int .i64 (sgn3 x.i y.i)) ∧ Upd [] w w' ∧ Gr w w' := by
 have H := Sat.start0 w
 refine calls_fr Tryz.func98 rfl 13 rfl (Nat.le_of_ble_eq_true rfl) ?_
 refine zsl <| zwd fun Kq kq => d_boxG (vs := (kFstT_0 x)) rfl H rfl rfl fun b2 w3 H4 g5 => ?_
 refine kq _ _ <| zwd fun Kq kq => d_boxG (vs := (kFstT_0 y)) rfl H4 rfl rfl fun b7 w8 H9 g10 => ?_
 have gr11 := g5.trans g10
 refine kq _ _ <| wv 5 (.int .i64 (0)) <| znt <| w_seq <| h_startG H9 [restC w (fun _ => False), cellC b2 89 (kFstT_0 x), cellC b7 89 (kFstT_0 y)] 8 rfl (by kernel_rfl) (fun Hx => (Hx.pk [0, 1, 2])) fun w12 H13 S14 g15 => ?_
 have gr16 := gr11.trans g15
 refine hv0 0 S14 6 (.func (.func 55) #[] #[]) ?_ (he := fun _ H' => (zl1 (H'.roCell 0 rfl hfb (fun h => h) rfl)))
 refine hv0 1 S14 7 (.agg ⟨(kFstT_0 x)⟩) ?_ (he := fun _ H' => (zlN (vs := (kFstT_0 x)) (H'.at 1 rfl)))
 refine hv0 3 S14 9 (.func (.func 55) #[] #[]) ?_ (he := fun _ H' => (zl1 (H'.roCell 0 rfl hfb (fun h => h) rfl)))
 refine hv0 4 S14 10 (.agg ⟨(kFstT_0 y)⟩) ?_ (he := fun _ H' => (zlN (vs := (kFstT_0 y)) (H'.at 2 rfl)))
 refine zhd0 2 fun Kq kq => ?_
 refine zdc 8 (mkNumT_any w12 x) ?_
 rintro _ w18 ⟨rfl, u20, g21⟩
 have H19 := H13.keepU u20
 refine ⟨_, rfl, ?_⟩
 have gr22 := gr16.trans g21
 have S23 := H19.pk [0, 1, 2]
 refine kq _ _ S23 <| zhd0 5 fun Kq kq => ?_
 refine zdc 11 (mkNumT_any w18 y) ?_
 rintro _ w25 ⟨rfl, u27, g28⟩
 have H26 := H19.keepU u27
 refine ⟨_, rfl, ?_⟩
 have gr29 := gr22.trans g28
 have S30 := H26.pk [0, 1, 2]
 refine kq _ _ S30 <| zhd0 6 fun Kq kq => ?_
 refine zdc 12 (cmpi64_any x.i y.i w25) ?_
 rintro _ w32 ⟨rfl, hw32⟩
 obtain rfl := hw32.symm
 refine ⟨_, rfl, ?_⟩
 have S33 := H26.pk [0, 1, 2]
 refine kq _ _ S33 <| hv0 7 S33 5 (.int .i64 (sgn3 x.i y.i)) <| zhf <| ztn <| w_ret <| ze1 (.int .i64 (sgn3 x.i y.i)) ?_
 exact ⟨rfl, H26.upd 0 rfl [] (fun _ h => h.elim), gr29⟩
end Go.Proofs.YtenihpghfdcpkaaGreat
namespace Go.Proofs.YtenihpghfdcpkaaGreat
open Go.RowKit Go.Shelf Go.Sort
instance : Inhabited TbR := ⟨tb0⟩
def cmpXT (x y : TbR) : Int := sgn3 x.i y.i
def ltXT (x y : TbR) : Prop := x.i < y.i
instance (x y : TbR) : Decidable (ltXT x y) := by unfold ltXT; exact inferInstance
theorem ltOf_cmpXT (x y : TbR) : ltOf cmpXT x y = decide (ltXT x y) := by
 unfold ltOf
 refine decide_eq_decide.2 ?_
 unfold cmpXT ltXT
 rcases sgn3_cases x.i y.i with ⟨h1, e1⟩ | ⟨h1, e1⟩ | ⟨h1, e1⟩ <;> rw [e1] <;>
  first | exact iff_of_true (by decide) (by omega) | exact iff_of_false (by decide) (by omega)
theorem cmpXT_swo : SWO (ltOf cmpXT) := by
 refine ⟨fun x => ?_, fun x y z h1 h2 => ?_, fun x y z h1 h2 => ?_⟩
 ·rw [ltOf_cmpXT]; exact decide_eq_false (by unfold ltXT; omega)
 ·rw [ltOf_cmpXT] at *
  have := of_decide_eq_true h1; have := of_decide_eq_true h2
  unfold ltXT at *
  exact decide_eq_true (by omega)
 ·rw [ltOf_cmpXT] at *
  have := of_decide_eq_false h1; have := of_decide_eq_false h2
  unfold ltXT at *
  exact decide_eq_false (by omega)
theorem fstCmpT_lays (blk off size : Nat) (w : World) {fb : Nat} (hne : fb ≠ blk) (hfb : (cellC fb 138 [.func (.func 55) #[] #[]]).ok w) : CmpLays Tryz.prog 98 #[.pointer (some ⟨fb, 0, none⟩)] encTb 2 cmpXT blk off size w := fun m os dk _ x y =>
 (fstCmpT_any (sortWorldK encTb 2 w blk off m dk os) x y fb ((cellC fb _ _).stay hfb fun b hb => by
  rw [show b = fb from hb]
  have hlt := (cellC fb _ _).lt hfb fb rfl
  unfold sortWorldK putRowK putRow mapBlock grow Sort.ahead
  simp only [Array.getElem?_append, Array.size_modify, hlt, if_true, Array.getElem?_modify]
  rw [if_neg (fun e => hne e.symm)])).mono fun _ _ h => ⟨h.1, h.2.2⟩
theorem sortTE_any (w : World) (g c : Nat) (D : List TbR) (hv : (rowC 89 2 (.slice (some ⟨g, 0, none⟩) D.length c) D.length (D.flatMap encTb)).ok w) (h12 : D.length ≤ 12) (fb : Nat) (hne : fb ≠ g) (hfb : (cellC fb 138 [.func (.func 55) #[] #[]]).ok w) :
  Calls Tryz.prog 97 #[.slice (some ⟨g, 0, none⟩) D.length c, .func (.func 98) #[] #[.pointer (some ⟨fb, 0, none⟩)]] w fun e w' => e = .returned (.tuple #[]) ∧ ∃ D' : List TbR, D'.Perm D ∧ (D'.Pairwise fun a b => ¬ ltXT b a) ∧ (rowC 89 2 (.slice (some ⟨g, 0, none⟩) D.length c) D.length (D'.flatMap encTb)).ok w' ∧ Upd [g] w w' := by
 obtain ⟨A, rfl⟩ : ∃ A : List TbR, A = D := ⟨D, rfl⟩
 have hg : g < w.heap.size := (rowC _ _ _ _ _).lt hv g rfl
 obtain ⟨cur, hb, hnc, hcm, hcs, htk⟩ : ∃ cur, w.heap[g]? = some (.cells cur 89 (0, 0)) ∧ A.length ≤ c ∧ c ≤ maxLen ∧ cur.size = c * 2 ∧ cur.toList.take (A.length * 2) = A.flatMap encTb := by
  rcases hv.2 with ⟨h, _⟩ | ⟨g', c', cur, h, _, h1, h2, h3, h4, h5⟩
  ·cases h
  ·simp only [Value.slice.injEq, Option.some.injEq, Addr.mk.injEq] at h
   obtain ⟨⟨rfl, _⟩, _, rfl⟩ := h
   exact ⟨cur, h1, h2, h3, h4, h5⟩
 have hH : HoldsK encTb 2 w g 0 A.toArray := fun j hj => by
  have hj' : j < A.length * 2 := by simpa using hj
  have hq : j / 2 < A.length := (Nat.div_lt_iff_lt_mul (by omega)).2 hj'
  refine ⟨?_, ?_⟩
  ·rw [get_flatK _ _ _ _ (by simpa using hj')]
   have hx : A.toArray[j / 2]! = A[j / 2] := by rw [getElem!_pos A.toArray (j / 2) (by simpa using hq)]; simp
   rw [hx]
   refine rows_cell (enc := encTb) hv rfl encTb_len (i := j / 2) (x := A[j / 2]) (List.getElem?_eq_getElem hq) (j % 2) (by have := Nat.mod_lt j (show 0 < 2 by omega); simp [Nat.blt_eq, this]) (by omega) ?_
   have hm : j % 2 < (encTb A[j / 2]).length := by rw [encTb_len]; omega
   rw [List.getElem?_eq_getElem hm, getElem!_pos (encTb A[j / 2]) _ hm]; rfl
  ·unfold World.frozen?
   rw [hb]; simp
 have hbl : ∀ (n : Nat) (W : World), n ≤ 12 → Calls Tryz.prog (sortT_ren.f 15) #[.int .u64 n] W fun e w' => (∃ l : Int, e = .returned (.int .i64 l)) ∧ w' = W := fun n W hn =>
  (Any.bits_Len bitsL n W (by omega) (by omega)).mono fun _ _ ⟨he, hw⟩ => ⟨⟨_, he⟩, hw⟩
 have h := AnyQ.slices_SortFunc_small_sorted (P := Tryz.prog) sortT 2 Tryz.isAgg89 Tryz.sizeOf89 encTb encTb_len (fun x v hv => List.all_eq_true.1 (encTb_one x) v hv) cmpXT 98 #[.pointer (some ⟨fb, 0, none⟩)] cmpXT_swo g 0 c A.toArray w (enters_of Tryz.func98 (by kernel_rfl) rfl) (fstCmpT_lays g 0 _ w hne hfb) hH hg (by simpa using h12) hbl
 rw [show A.toArray.size = A.length from List.size_toArray ..] at h
 refine h.mono fun e w' ⟨he, d', n, os, hp, hs, hw⟩ => ?_
 have hsz : d'.size = A.length := by simpa using hp.1
 have hp2 : d'.toList.Perm A := by
  have := hp.2.2
  have e1 : d'.extract 0 A.length = d' := by rw [← hsz]; exact Array.extract_size
  have e2 : A.toArray.extract 0 A.length = A.toArray := Array.extract_size (xs := A.toArray)
  rw [e1, e2] at this
  exact this
 refine ⟨he, d'.toList, hp2, ?_, ?_, ?_⟩
 ·rw [List.pairwise_iff_getElem]
  intro i j hi hj hij
  have hi' : i < d'.size := by simpa using hi
  have hj' : j < d'.size := by simpa using hj
  have := hs i j (Nat.zero_le _) hij (by omega)
  rw [getElem!_pos d' i hi', getElem!_pos d' j hj'] at this
  rw [ltOf_cmpXT] at this
  have h5 := of_decide_eq_false this
  rwa [Array.getElem_toList, Array.getElem_toList]
 ·obtain ⟨q1, q2⟩ := sorted_block encTb 2 encTb_len (by omega) d' cur (by rw [hsz, hcs]; exact Nat.mul_le_mul_right _ hnc)
  refine ⟨by rw [flat_len encTb 2 encTb_len]; simp [hsz], .inr ⟨g, c, putCells id 0 (flatK encTb 2 d') cur, rfl, Nat.zero_le _, ?_, hnc, hcm, by rw [q1, hcs], by rw [← hsz]; exact q2⟩⟩
  rw [hw]
  unfold sortWorldK putRowK putRow mapBlock grow Sort.ahead
  simp only [Array.getElem?_append, Array.size_modify, hg, if_true, Array.getElem?_modify]
  rw [hb]; rfl
 ·subst hw
  refine ⟨rfl, rfl, rfl, size_sortWorldK_c _ _ _ _ _ _ _ _, fun k hk hne => ?_⟩
  have hne : g ≠ k := fun e => hne (by simp [e])
  unfold sortWorldK putRowK putRow mapBlock grow Sort.ahead
  simp only [Array.getElem?_append, Array.size_modify, hk, if_true, Array.getElem?_modify, if_neg hne]
theorem sortTRow_any (w : World) (a : Option Addr) (c : Nat) (D : List TbR) (fb : Nat) (hv : (sepC [rowC 89 2 (.slice a D.length c) D.length (D.flatMap encTb), cellC fb 138 [.func (.func 55) #[] #[]]]).ok w) (h12 : D.length ≤ 12) :
  Calls Tryz.prog 97 #[.slice a D.length c, .func (.func 98) #[] #[.pointer (some ⟨fb, 0, none⟩)]] w fun e w' => ∃ D' : List TbR, e = .returned (.tuple #[]) ∧ D'.Perm D ∧ (D'.Pairwise fun a b => ¬ ltXT b a) ∧ Sat w [rowC 89 2 (.slice a D'.length c) D'.length (D'.flatMap encTb), cellC fb 138 [.func (.func 55) #[] #[]], restC w (sepC [rowC 89 2 (.slice a D.length c) D.length (D.flatMap encTb), cellC fb 138 [.func (.func 55) #[] #[]]]).fp] w' := by
 have H := Sat.start _ hv
 cases hD : D with
 | nil =>
  subst hD
  refine (sort0T_any a c (.func (.func 98) #[] #[.pointer (some ⟨fb, 0, none⟩)]) w).mono fun e w' ⟨he, hw⟩ => ?_
  subst hw
  exact ⟨[], he, List.Perm.refl _, List.Pairwise.nil, H⟩
 | cons x D0 =>
  rw [← hD]
  have hv0 := hv.1 _ List.mem_cons_self
  have hv1 := hv.1 _ (List.mem_cons_of_mem _ List.mem_cons_self)
  obtain ⟨g, c', hs⟩ := row_shape hv0 (by rw [hD]; simp)
  simp only [Value.slice.injEq] at hs
  obtain ⟨rfl, _, rfl⟩ := hs
  have hne : fb ≠ g := fun e => (List.pairwise_cons.1 hv.2).1 _ List.mem_cons_self g rfl e.symm
  refine (sortTE_any w g c D hv0 h12 fb hne hv1).mono fun e w' ⟨he, D', hp, hs, hok, hu⟩ => ?_
  have hl := hp.length_eq
  refine ⟨D', he, hp, hs, ?_⟩
  rw [hl]
  exact H.setU hu 0 rfl (by rintro b' hb; rw [List.mem_singleton.1 hb]; rfl) hok (fun b hb => .inl hb)
end Go.Proofs.YtenihpghfdcpkaaGreat
namespace Go.Proofs.YtenihpghfdcpkaaGreat
open Go.RowKit
abbrev kFiT_0 (p0 : Option Addr) (p1 : List TbR) (p2 : Nat) : Ck := rowC 89 2 (.slice p0 p1.length p2) p1.length (p1.flatMap encTb)
abbrev kFiT_1 (p0 : TbR) (p1 : Nat) : List Value := ([(.int .i64 p0.i), (.slice p0.da p1 p0.dc)] : List Value)
theorem firstT_any (w : World) (la : Option Addr) (lc : Nat) (L : List TbR) (hL : ListAt encTb 2 w (.slice la L.length lc) L) (hlL : L.length ≤ 1000) (m : Nat) (F c E last : Int) (vm : Value) (mo : Nat) (M : List (Int × EntD)) (hmo : MapAt w mo (Value.int .i64) entV M) (s : Nat) (hs : (cellC s 54 ([(.int .i64 (F)), (.int .i64 (c)), (.int .i64 (E)), (.int .u64 (last)), (vm), (.map (some mo))] : List Value)).ok w) (ob hm : Nat) (X : List (Int × Bool)) (hob : (cellC ob 129 [.map (some hm)]).ok w) (hhm : MapAt w hm (Value.int .i64) Value.bool X) (h12 : (firstN (fun x : TbR => x.i) (mayTb M X) L).length ≤ 12) :
  Calls Tryz.prog 54 #[(.slice la L.length lc), (.func (.func 55) #[] #[]), (.func (.func 53) #[] #[(.pointer (some ⟨s, 0, none⟩)), (.pointer (some ⟨ob, 0, none⟩))]), (.int .i64 ((m : Int)))] w fun e w' => ∃ (oa : Option Addr) (oc : Nat) (D : List TbR), e = .returned (.slice oa (D.take m).length oc) ∧ SortN (fun x : TbR => x.i) (mayTb M X) L D ∧ D.length ≤ L.length ∧ (rowC 89 2 (.slice oa (D.take m).length oc) (D.take m).length ((D.take m).flatMap encTb)).ok w' ∧ Upd [] w w' ∧ ∀ q_, (rowC 89 2 (.slice oa (D.take m).length oc) (D.take m).length ((D.take m).flatMap encTb)).fp q_ → w.heap.size ≤ q_ := by
 have H := Sat.start0 w
 have hcap := ListAt.cap hL
 refine calls_fr Tryz.func54 rfl 49 rfl (Nat.le_of_ble_eq_true rfl) ?_
 refine zsl <| zwd fun Kq kq => zdb ([(.func (.func 55) #[] #[])] : List Value) H fun b2 w3 H4 => ?_
 refine kq _ _ <| wv 8 (.slice none 0 0) <| znsl <| zwd fun Kq kq => d_makeMap (Value.int .i64) Value.bool rfl H4 fun b6 w7 H8 => ?_
 refine kq _ _ <| wv 9 (.map (some b6)) <| znsl <| wv 10 (.slice none 0 0) <| znt <| w_seq <| zsl <| wv 15 (.slice la L.length lc) <| wv 16 (.int .i64 ((L.length : Int))) <| wv 17 (.int .i64 (0)) ?_
 refine znt <| w_block ?_
 have H9 := H8.addNil 89 2
 refine wp_round ([10, 12, 13] ++ List.range' 17 23) (fun F_ W_ m_ => ∃ (i : Nat) (HV : List (Int × Bool)) (oa : Option Addr) (oc : Nat) (O : List TbR), F_ 17 = (.int .i64 ((i : Int))) ∧ F_ 10 = (.slice oa O.length oc) ∧ (i ≤ L.length) ∧ (O = firstN (fun x : TbR => x.i) (mayTb M X) (L.take i)) ∧ (HvOk HV (fun x : TbR => x.i) O) ∧ (O.length ≤ i) ∧ Sat w [restC w (fun _ => False), cellC b2 138 ([(.func (.func 55) #[] #[])] : List Value), mapC b6 (Value.int .i64) Value.bool HV, (kFiT_0 oa O oc)] W_ ∧ m_ = L.length - i) _ ⟨0, [], none, 0, [], (show ((.int .i64 (0)) : Value) = _ by first | rfl | go_num), (by first | rfl | go_num), (Nat.zero_le _), rfl, HvOk.nil, (Nat.zero_le _), H9, rfl⟩ ?_
 rintro g10 w11 _ ⟨i, HV, oa, oc, O, v13, v14, hi, hO, hhv, hOl, H12, rfl⟩
 refine wp_know 17 _ v13 ?_
 refine wp_know 10 _ v14 ?_
 refine zsl <| wv 18 (.bool (decide ((i : Int) < (L.length : Int)))) <| znt <| w_seq ?_
 refine (bsplit (decide ((i : Int) < (L.length : Int)))).elim (fun b16 => ?_) (fun b16 => ?_)
 ·have g17 := of_decide_eq_true b16
  refine zwkt _ b16 ?_
  refine w_skip <| ztn <| w_seq <| w_block <| zsl ?_
  obtain ⟨g19, o20, c21, e22, R23⟩ := SliceOf.atD hL tb0 (show i < L.length by omega)
  refine wv 19 (.pointer (some ⟨g19, o20 + ((i : Int)).toNat * 2, none⟩)) ?_ (hr := e_indexAddrW (E := 89) (by kernel_rfl) (by kernel_rfl) (Nat.le_of_ble_eq_true rfl) rfl e22 rfl (by omega) (by omega))
  refine wv 20 (.agg ⟨(kFiT_1 (L.getD i tb0) ((L.getD i tb0).D.length))⟩) ?_ (hr := e_loadRun (vs := (kFiT_1 (L.getD i tb0) ((L.getD i tb0).D.length))) rfl (by kernel_rfl) (by kernel_rfl) (Nat.le_of_ble_eq_true (by kernel_rfl)) (H12.runR 0 rfl (cells_run R23 0 (by kernel_rfl) (show o20 + ((i : Int)).toNat * 2 = o20 + i * 2 + 0 by omega)) (fun h => h)))
  refine zwd fun Kq kq => zda ([(.int .i64 (0)), (.slice none 0 0)] : List Value) H12 fun b25 w26 H27 => ?_
  refine kq _ _ <| zwd fun Kq kq => zds1 (kFiT_1 (L.getD i tb0) ((L.getD i tb0).D.length)) H27 4 fun w29 H30 => ?_
  refine kq _ _ <| znsl <| zw1 21 (.func (.func 55) #[] #[]) (H30.cell 1 rfl rfl) <| zwN 22 (kFiT_1 (L.getD i tb0) ((L.getD i tb0).D.length)) (H30.at 4 rfl) <| zwd fun Kq kq => zdq 23 (mkNumT2_any w29 (L.getD i tb0)) H30 fun w33 H34 => ?_
  refine kq _ _ <| wv 13 (.int .i64 ((L.getD i tb0).i)) <| znsl <| wv 24 (.map (some b6)) <| wv 25 (.int .i64 ((L.getD i tb0).i)) <| wv 26 (.bool ((lookM HV ((L.getD i tb0).i)).getD false)) ?_ (hr := e_lookup (kt := 3) (et := 4) (KeyTy.int (by kernel_rfl)) (by kernel_rfl) (fun w => by kernel_rfl) rfl ((L.getD i tb0).i) rfl (H34.at 2 rfl) (optD Value.bool _ _))
  refine wv 27 (.bool (!((lookM HV ((L.getD i tb0).i)).getD false))) <| wv 28 (.bool (!((lookM HV ((L.getD i tb0).i)).getD false))) ?_
  refine (bsplit (!((lookM HV ((L.getD i tb0).i)).getD false))).elim (fun b36 => ?_) (fun b36 => ?_)
  ·have g37 := bnot_true b36
   refine wl_know 28 (.bool true) (congrArg Value.bool b36) ?_
   refine wy 4 28 true 29 (.func (.func 53) #[] #[(pt s 0), (pt ob 0)]) <| wy 4 28 true 30 (.agg ⟨(kFiT_1 (L.getD i tb0) ((L.getD i tb0).D.length))⟩) ?_ (hr := zlN (vs := (kFiT_1 (L.getD i tb0) ((L.getD i tb0).D.length))) (H34.at 4 rfl))
   refine wl_do (wantsY 4 28 true rfl (by kernel_rfl) rfl (by kernel_rfl)) (fun Kq kq => ?_)
   refine zdq 31 (mkTomb_any w33 F c E last vm mo M (H34.roMap 0 rfl hmo (fun h => h)) s (H34.roCk 0 rfl hs (fun _ _ h => h)) ob hm X (H34.roCk 0 rfl hob (fun _ _ h => h)) (H34.roMap 0 rfl hhm (fun h => h)) (L.getD i tb0)) H34 ?_
   intro w40 H41
   refine kq _ _ <| wv 32 (.bool (mayTb M X (L.getD i tb0))) <| znt ?_
   refine (bsplit (mayTb M X (L.getD i tb0))).elim (fun b43 => ?_) (fun b43 => ?_)
   ·refine zwkt _ b43 ?_
    refine zsl <| wv 33 (.map (some b6)) <| wv 34 (.int .i64 ((L.getD i tb0).i)) <| zwd fun Kq kq => d_mapUpdate (kt := 3) (et := 4) rfl H41 2 rfl (KeyTy.int (by kernel_rfl)) (by kernel_rfl) rfl ((L.getD i tb0).i) rfl true rfl fun w45 H46 => ?_
    refine kq _ _ <| znt <| w_lit <| wv 35 (.slice oa O.length oc) <| zwN 36 (kFiT_1 (L.getD i tb0) ((L.getD i tb0).D.length)) (H46.at 4 rfl) <| zwd fun Kq kq => zdbs 89 2 32 (.agg ⟨([(.int .i64 (0)), (.slice none 0 0)] : List Value)⟩) [(0, (.agg ⟨(kFiT_1 (L.getD i tb0) ((L.getD i tb0).D.length))⟩))] (kFiT_1 (L.getD i tb0) ((L.getD i tb0).D.length)) H46 ?_
    intro b48 w49 (H50 : Sat w [restC w (fun _ => False), cellC b2 138 ([(.func (.func 55) #[] #[])] : List Value), mapC b6 (Value.int .i64) Value.bool (putM HV ((L.getD i tb0).i) true), (kFiT_0 oa O oc), cellC b25 89 (kFiT_1 (L.getD i tb0) ((L.getD i tb0).D.length)), rowC 89 2 (.slice (some ⟨b48, 0, none⟩) 1 1) 1 (kFiT_1 (L.getD i tb0) ((L.getD i tb0).D.length))] w49)
    have H51 : Sat w [restC w (fun _ => False), cellC b2 138 ([(.func (.func 55) #[] #[])] : List Value), mapC b6 (Value.int .i64) Value.bool (putM HV ((L.getD i tb0).i) true), (kFiT_0 oa O oc), cellC b25 89 (kFiT_1 (L.getD i tb0) ((L.getD i tb0).D.length)), rowC 89 2 (.slice (some ⟨b48, 0, none⟩) 1 1) 1 ([(L.getD i tb0)].flatMap encTb)] w49 := H50.cast (by rw [(show ((kFiT_1 (L.getD i tb0) ((L.getD i tb0).D.length)) : List Value) = [(L.getD i tb0)].flatMap encTb by kernel_rfl)])
    refine kq _ _ <| zwd fun Kq kq => d_append (T := 43) (e := 89) (size := 2) (bytes := 32) rfl H51 (by kernel_rfl) 3 5 rfl rfl rfl rfl (flat_one encTb encTb_one [(L.getD i tb0)]) (by omega) (by omega) fun v53 w54 H55 => ?_
    have H58 : Sat w [restC w (fun _ => False), cellC b2 138 ([(.func (.func 55) #[] #[])] : List Value), mapC b6 (Value.int .i64) Value.bool (putM HV ((L.getD i tb0).i) true), rowC 89 2 v53 ((O ++ [(L.getD i tb0)]).length) ((O ++ [(L.getD i tb0)]).flatMap encTb), cellC b25 89 (kFiT_1 (L.getD i tb0) ((L.getD i tb0).D.length)), rowC 89 2 (.slice (some ⟨b48, 0, none⟩) 1 1) 1 ([(L.getD i tb0)].flatMap encTb)] w54 := H55.cast (by simp only [List.length_append, List.flatMap_append] <;> rfl)
    obtain ⟨a56, c57, rfl⟩ := ownsRow_shape (H58.at 3 rfl)
    refine kq _ _ <| wv 10 (.slice a56 ((O ++ [(L.getD i tb0)]).length) c57) <| w_nil <| blk_normal <| ztn <| w_lit <| zwi 39 ((i : Int) + 1) <| wv 17 (.int .i64 ((i : Int) + 1)) <| w_nil ?_
    have H59 := H58.pk [0, 1, 2, 3]
    refine round_back ?_ _ ⟨(i + 1), (putM HV ((L.getD i tb0).i) true), a56, c57, (O ++ [(L.getD i tb0)]), rfl, (show ((.slice a56 ((O ++ [(L.getD i tb0)]).length) c57) : Value) = _ by first | rfl | go_num), (by omega), (by rw [firstN_step (show L[i]? = some (L.getD i tb0) by rw [List.getD_eq_getElem?_getD, List.getElem?_eq_getElem (show i < L.length by omega)]; rfl), ← hO]; exact (takeN_yes (by rw [← hhv]; exact (by have q := b36; simpa using q)) b43).symm), (HvOk.put (num := (fun x : TbR => x.i)) (x := (L.getD i tb0)) hhv), (by first | omega | (simp only [List.length_append, List.length_cons, List.length_nil]; omega)), H59, rfl⟩ (by omega)
    exact zs
   refine zwkf _ b43 ?_
   refine w_skip <| blk_normal <| ztn <| w_lit <| zwi 39 ((i : Int) + 1) <| wv 17 (.int .i64 ((i : Int) + 1)) <| w_nil ?_
   have H60 := H41.pk [0, 1, 2, 3]
   refine round_back ?_ _ ⟨(i + 1), HV, oa, oc, O, rfl, rfl, (by omega), (by rw [firstN_step (show L[i]? = some (L.getD i tb0) by rw [List.getD_eq_getElem?_getD, List.getElem?_eq_getElem (show i < L.length by omega)]; rfl), ← hO]; exact (takeN_no2 b43).symm), hhv, (by first | omega | (simp only [List.length_append, List.length_cons, List.length_nil]; omega)), H60, rfl⟩ (by omega)
   exact zs
  have g61 := bnot_false b36
  refine wl_know 28 (.bool false) (congrArg Value.bool b36) ?_
  iterate 3 refine wn 4 28 true ?_
  refine wv 32 (.bool false) <| znt <| wp_iff rfl ?_
  refine w_skip <| blk_normal <| ztn <| w_lit <| zwi 39 ((i : Int) + 1) <| wv 17 (.int .i64 ((i : Int) + 1)) <| w_nil ?_
  have H63 := H34.pk [0, 1, 2, 3]
  refine round_back ?_ _ ⟨(i + 1), HV, oa, oc, O, rfl, rfl, (by omega), (by rw [firstN_step (show L[i]? = some (L.getD i tb0) by rw [List.getD_eq_getElem?_getD, List.getElem?_eq_getElem (show i < L.length by omega)]; rfl), ← hO]; exact (takeN_no1 (by rw [← hhv]; exact (by have q := b36; simpa using q))).symm), hhv, (by first | omega | (simp only [List.length_append, List.length_cons, List.length_nil]; omega)), H63, rfl⟩ (by omega)
  exact zs
 have g64 := of_decide_eq_false b16
 refine zwkf _ b16 ?_
 refine zxb <| ztn <| zsl <| wv 40 (.slice oa O.length oc) <| wv 41 (.func (.func 98) #[] #[(pt b2 0)]) <| zwd fun Kq kq => ?_
 have hiL : i = L.length := by omega
 rw [hiL, List.take_length] at hO
 refine zdc 42 (sortTRow_any w11 oa oc O b2 (H12.fn [3, 1]) (by rw [hO]; exact h12)) ?_
 rintro _ w67 ⟨D, rfl, p68, s69, T70⟩
 have hDl : D.length ≤ L.length := by have q := p68.length_eq; omega
 have H71 := H12.tl [(kFiT_0 oa D oc), cellC b2 138 ([(.func (.func 55) #[] #[])] : List Value)] [3, 1] [0, 2] T70 [2, 1, 3, 0]
 refine ⟨_, rfl, ?_⟩
 refine kq _ _ <| znt <| w_seq <| wp_know 10 (.slice oa D.length oc) (show ((.slice oa O.length oc) : Value) = _ by rw [p68.length_eq]) ?_
 have hcD := ListAt.cap (ListAt.row (enc := encTb) (sz := 2) encTb_len (by decide) (H71.at 3 rfl))
 refine w_lit <| wv 43 (.slice oa D.length oc) <| wv 44 (.slice oa D.length oc) <| wv 45 (.int .i64 ((D.length : Int))) <| wv 46 (.int .i64 ((m : Int))) <| wv 47 (.int .i64 (((min D.length m : Nat) : Int))) ?_ (hr := e_min (k := .i64) (a := (D.length : Int)) (b := (m : Int)) (z := ((min D.length m : Nat) : Int)) rfl rfl (by omega))
 refine wv 48 (.slice oa (min D.length m) oc) ?_ (hr := e_sliceHi (E := 89) (q := (min D.length m)) (by kernel_rfl) (by kernel_rfl) rfl rfl (by omega) (by omega))
 refine wv 8 (.slice oa (min D.length m) oc) <| znt <| w_ret <| ze1 (.slice oa (min D.length m) oc) ?_
 exact ⟨oa, oc, D, by rw [show min D.length m = (D.take m).length by rw [List.length_take, Nat.min_comm]], SortN.of (lt := ltXT) (by rw [← hO]; exact p68) (s69.imp fun h => h), hDl, row_prefix encTb_len (H71.at 3 rfl), H71.upd 0 rfl [] (fun _ h => h.elim), (fun q_ hq_ => H71.fresh 0 rfl (fun _ h => h) 3 rfl rfl q_ (by cases oa with | none => exact hq_ | some _ => exact hq_))⟩
end Go.Proofs.YtenihpghfdcpkaaGreat
