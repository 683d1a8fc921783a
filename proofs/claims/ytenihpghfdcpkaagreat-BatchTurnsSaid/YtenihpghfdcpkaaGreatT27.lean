/- WHAT IS PROVED: contracts and plain laws of LaidO, FstO, SortO12, FiO, LaidT. Conditions: stated with each. -/
import Derived.Test.YtenihpghfdcpkaaGreatT05
import Derived.Test.YtenihpghfdcpkaaGreatT10
import Derived.Test.YtenihpghfdcpkaaGreatT15
import Derived.Test.YtenihpghfdcpkaaGreatT16
import Derived.Test.YtenihpghfdcpkaaGreatT19
import Derived.Test.YtenihpghfdcpkaaGreatT20
import Derived.Test.YtenihpghfdcpkaaGreatT24
set_option maxHeartbeats 4000000
set_option maxRecDepth 100000
namespace Go.Proofs.YtenihpghfdcpkaaGreat
open Go.RowKit Go.Shelf
def sortO_ren : Go.Shelf.Ren := ⟨fun | 6 => 95 | 15 => 102 | 14 => 123 | 28 => 136 | 29 => 137 | 20 => 161 | 21 => 162 | 22 => 163 | 23 => 164 | 24 => 165 | 25 => 166 | 26 => 167 | 27 => 168 | 46 => 198 | 47 => 182 | 48 => 183 | 49 => 199 | 50 => 200 | 57 => 217 | n => n, fun | 22 => 42 | 24 => 86 | 25 => 186 | 3 => 3 | 39 => 108 | 0 => 0 | 53 => 198 | 55 => 25 | 4 => 4 | 46 => 222 | 45 => 221 | 50 => 226 | 5 => 5 | 9 => 9 | 66 => 257 | 70 => 261 | 76 => 281 | 77 => 282 | n => n, fun | n => n⟩
theorem sortO : Go.Proofs.SlLaysF0.n6 Tryz.prog sortO_ren := {
 mixed := by kernel_rfl,
 f6 := ⟨Tryz.f95.name, by decide, Tryz.func95.trans (congrArg some (by kernel_rfl))⟩,
 f14 := ⟨Tryz.f123.name, by decide, Tryz.func123.trans (congrArg some (by kernel_rfl))⟩,
 f15 := Tryz.func102.trans (congrArg some (by kernel_rfl)),
 f20 := ⟨Tryz.f161.name, by decide, Tryz.func161.trans (congrArg some (by kernel_rfl))⟩,
 f21 := ⟨Tryz.f162.name, by decide, Tryz.func162.trans (congrArg some (by kernel_rfl))⟩,
 f22 := ⟨Tryz.f163.name, by decide, Tryz.func163.trans (congrArg some (by kernel_rfl))⟩,
 f23 := ⟨Tryz.f164.name, by decide, Tryz.func164.trans (congrArg some (by kernel_rfl))⟩,
 f24 := ⟨Tryz.f165.name, by decide, Tryz.func165.trans (congrArg some (by kernel_rfl))⟩,
 f25 := ⟨Tryz.f166.name, by decide, Tryz.func166.trans (congrArg some (by kernel_rfl))⟩,
 f26 := ⟨Tryz.f167.name, by decide, Tryz.func167.trans (congrArg some (by kernel_rfl))⟩,
 f27 := ⟨Tryz.f168.name, by decide, Tryz.func168.trans (congrArg some (by kernel_rfl))⟩,
 f28 := Tryz.func136.trans (congrArg some (by kernel_rfl)),
 f29 := Tryz.func137.trans (congrArg some (by kernel_rfl)),
 f46 := ⟨Tryz.f198.name, by decide, Tryz.func198.trans (congrArg some (by kernel_rfl))⟩,
 f47 := Tryz.func182.trans (congrArg some (by kernel_rfl)),
 f48 := Tryz.func183.trans (congrArg some (by kernel_rfl)),
 f49 := ⟨Tryz.f199.name, by decide, Tryz.func199.trans (congrArg some (by kernel_rfl))⟩,
 f50 := ⟨Tryz.f200.name, by decide, Tryz.func200.trans (congrArg some (by kernel_rfl))⟩,
 f57 := ⟨Tryz.f217.name, by decide, Tryz.func217.trans (congrArg some (by kernel_rfl))⟩,
 t0 := Tryz.underlying0,
 a0 := Tryz.isAgg0,
 z0 := Tryz.sizeOf0,
 v0 := Tryz.zeroValue0,
 t3 := Tryz.underlying3,
 a3 := Tryz.isAgg3,
 z3 := Tryz.sizeOf3,
 v3 := Tryz.zeroValue3,
 t4 := Tryz.underlying4,
 a4 := Tryz.isAgg4,
 z4 := Tryz.sizeOf4,
 v4 := Tryz.zeroValue4,
 t5 := Tryz.underlying5,
 a5 := Tryz.isAgg5,
 z5 := Tryz.sizeOf5,
 v5 := Tryz.zeroValue5,
 t9 := Tryz.underlying9,
 a9 := Tryz.isAgg9,
 z9 := Tryz.sizeOf9,
 v9 := Tryz.zeroValue9,
 t22 := Tryz.underlying42,
 a22 := Tryz.isAgg42,
 z22 := Tryz.sizeOf42,
 v22 := Tryz.zeroValue42,
 t25 := Tryz.underlying186,
 a25 := Tryz.isAgg186,
 z25 := Tryz.sizeOf186,
 v25 := Tryz.zeroValue186,
 t39 := Tryz.underlying108,
 a39 := Tryz.isAgg108,
 z39 := Tryz.sizeOf108,
 v39 := Tryz.zeroValue108,
 t45 := Tryz.underlying221,
 a45 := Tryz.isAgg221,
 z45 := Tryz.sizeOf221,
 v45 := Tryz.zeroValue221,
 t46 := Tryz.underlying222,
 a46 := Tryz.isAgg222,
 z46 := Tryz.sizeOf222,
 v46 := Tryz.zeroValue222,
 t50 := Tryz.underlying226,
 a50 := Tryz.isAgg226,
 z50 := Tryz.sizeOf226,
 v50 := Tryz.zeroValue226,
 t53 := Tryz.underlying198,
 a53 := Tryz.isAgg198,
 z53 := Tryz.sizeOf198,
 v53 := Tryz.zeroValue198,
 t55 := Tryz.underlying25,
 a55 := Tryz.isAgg25,
 z55 := Tryz.sizeOf25,
 v55 := Tryz.zeroValue25,
 t66 := Tryz.underlying257,
 a66 := Tryz.isAgg257,
 z66 := Tryz.sizeOf257,
 v66 := Tryz.zeroValue257,
 t70 := Tryz.underlying261,
 a70 := Tryz.isAgg261,
 z70 := Tryz.sizeOf261,
 v70 := Tryz.zeroValue261,
 t76 := Tryz.underlying281,
 a76 := Tryz.isAgg281,
 z76 := Tryz.sizeOf281,
 v76 := Tryz.zeroValue281,
 t77 := Tryz.underlying282,
 a77 := Tryz.isAgg282,
 z77 := Tryz.sizeOf282,
 v77 := Tryz.zeroValue282 }
end Go.Proofs.YtenihpghfdcpkaaGreat
namespace Go.Proofs.YtenihpghfdcpkaaGreat
open Go.RowKit
abbrev kFstO_0 (p0 : OpR) : List Value := ([(.int .i64 p0.i), (.slice p0.pa p0.P.length p0.pc)] : List Value) ++ hc p0.h
theorem mkNumO_any (w : World) (p : OpR) :
  Calls Tryz.prog 51 #[(.agg ⟨(([(.int .i64 (p.i)), ((.slice p.pa p.P.length p.pc))] : List Value) ++ hc p.h)⟩)] w fun e w' => e = .returned (.int .i64 p.i) ∧ Upd [] w w' ∧ Gr w w' := by
 have H := Sat.start0 w
 refine calls_fr Tryz.func51 rfl 5 rfl (Nat.le_of_ble_eq_true rfl) ?_
 refine zsl <| zwd fun Kq kq => d_boxG (vs := (kFstO_0 p)) rfl H rfl rfl fun b2 w3 H4 g5 => ?_
 refine kq _ _ <| wv 2 (.int .i64 (0)) <| znsl <| wv 3 (pt b2 0) <| zw1 4 (.int .i64 (p.i)) (H4.cell 1 rfl (by kernel_rfl)) <| wv 2 (.int .i64 (p.i)) <| znt <| w_ret <| ze1 (.int .i64 (p.i)) ?_
 exact ⟨rfl, H4.upd 0 rfl [] (fun _ h => h.elim), g5⟩
theorem fstCmpO_any (w : World) (x y : OpR) (fb : Nat) (hfb : (cellC fb 133 [.func (.func 51) #[] #[]]).ok w) :
  Calls Tryz.prog 96 #[(.agg ⟨(([(.int .i64 (x.i)), ((.slice x.pa x.P.length x.pc))] : List Value) ++ hc x.h)⟩), (.agg ⟨(([(.int .i64 (y.i)), ((.slice y.pa y.P.length y.pc))] : List Value) ++ hc y.h)⟩), (.pointer (some ⟨fb, 0, none⟩))] w fun e w' => e = .returned (.int .i64 (sgn3 x.i y.i)) ∧ Upd [] w w' ∧ Gr w w' := by
 have H := Sat.start0 w
 refine calls_fr Tryz.func96 rfl 13 rfl (Nat.le_of_ble_eq_true rfl) ?_
 refine zsl <| zwd fun Kq kq => d_boxG (vs := (kFstO_0 x)) rfl H rfl rfl fun b2 w3 H4 g5 => ?_
 refine kq _ _ <| zwd fun Kq kq => d_boxG (vs := (kFstO_0 y)) rfl H4 rfl rfl fun b7 w8 H9 g10 => ?_
 have gr11 := g5.trans g10
 refine kq _ _ <| wv 5 (.int .i64 (0)) <| znt <| w_seq <| h_startG H9 [restC w (fun _ => False), cellC b2 86 (kFstO_0 x), cellC b7 86 (kFstO_0 y)] 8 rfl (by kernel_rfl) (fun Hx => (Hx.pk [0, 1, 2])) fun w12 H13 S14 g15 => ?_
 have gr16 := gr11.trans g15
 refine hv0 0 S14 6 (.func (.func 51) #[] #[]) ?_ (he := fun _ H' => (zl1 (H'.roCell 0 rfl hfb (fun h => h) rfl)))
 refine hv0 1 S14 7 (.agg ⟨(kFstO_0 x)⟩) ?_ (he := fun _ H' => (zlN (vs := (kFstO_0 x)) (H'.at 1 rfl)))
 refine hv0 3 S14 9 (.func (.func 51) #[] #[]) ?_ (he := fun _ H' => (zl1 (H'.roCell 0 rfl hfb (fun h => h) rfl)))
 refine hv0 4 S14 10 (.agg ⟨(kFstO_0 y)⟩) ?_ (he := fun _ H' => (zlN (vs := (kFstO_0 y)) (H'.at 2 rfl)))
 refine zhd0 2 fun Kq kq => ?_
 refine zdc 8 (mkNumO_any w12 x) ?_
 rintro _ w18 ⟨rfl, u20, g21⟩
 have H19 := H13.keepU u20
 refine ⟨_, rfl, ?_⟩
 have gr22 := gr16.trans g21
 have S23 := H19.pk [0, 1, 2]
 refine kq _ _ S23 <| zhd0 5 fun Kq kq => ?_
 refine zdc 11 (mkNumO_any w18 y) ?_
 rintro _ w25 ⟨rfl, u27, g28⟩
 have H26 := H19.keepU u27
 refine ⟨_, rfl, ?_⟩
 have gr29 := gr22.trans g28
 have S30 := H26.pk [0, 1, 2]
 refine kq _ _ S30 <| zhd0 6 fun Kq kq => ?_
 refine zdc 12 (cmpi64_any x.i y.i w25) ?_
 rintro _ w32 ⟨rfl, hw32⟩
 obtain rfl := hw32.symm
 refine ⟨_, rfl, ?_⟩
 have S33 := H26.pk [0, 1, 2]
 refine kq _ _ S33 <| hv0 7 S33 5 (.int .i64 (sgn3 x.i y.i)) <| zhf <| ztn <| w_ret <| ze1 (.int .i64 (sgn3 x.i y.i)) ?_
 exact ⟨rfl, H26.upd 0 rfl [] (fun _ h => h.elim), gr29⟩
end Go.Proofs.YtenihpghfdcpkaaGreat
namespace Go.Proofs.YtenihpghfdcpkaaGreat
open Go.RowKit Go.Shelf Go.Sort
instance : Inhabited OpR := ⟨op0⟩
def cmpXO (x y : OpR) : Int := sgn3 x.i y.i
def ltXO (x y : OpR) : Prop := x.i < y.i
instance (x y : OpR) : Decidable (ltXO x y) := by unfold ltXO; exact inferInstance
theorem ltOf_cmpXO (x y : OpR) : ltOf cmpXO x y = decide (ltXO x y) := by
 unfold ltOf
 refine decide_eq_decide.2 ?_
 unfold cmpXO ltXO
 rcases sgn3_cases x.i y.i with ⟨h1, e1⟩ | ⟨h1, e1⟩ | ⟨h1, e1⟩ <;> rw [e1] <;>
  first | exact iff_of_true (by decide) (by omega) | exact iff_of_false (by decide) (by omega)
theorem cmpXO_swo : SWO (ltOf cmpXO) := by
 refine ⟨fun x => ?_, fun x y z h1 h2 => ?_, fun x y z h1 h2 => ?_⟩
 ·rw [ltOf_cmpXO]; exact decide_eq_false (by unfold ltXO; omega)
 ·rw [ltOf_cmpXO] at *
  have := of_decide_eq_true h1; have := of_decide_eq_true h2
  unfold ltXO at *
  exact decide_eq_true (by omega)
 ·rw [ltOf_cmpXO] at *
  have := of_decide_eq_false h1; have := of_decide_eq_false h2
  unfold ltXO at *
  exact decide_eq_false (by omega)
theorem fstCmpO_lays (blk off size : Nat) (w : World) {fb : Nat} (hne : fb ≠ blk) (hfb : (cellC fb 133 [.func (.func 51) #[] #[]]).ok w) : CmpLays Tryz.prog 96 #[.pointer (some ⟨fb, 0, none⟩)] encOp 34 cmpXO blk off size w := fun m os dk _ x y =>
 (fstCmpO_any (sortWorldK encOp 34 w blk off m dk os) x y fb ((cellC fb _ _).stay hfb fun b hb => by
  rw [show b = fb from hb]
  have hlt := (cellC fb _ _).lt hfb fb rfl
  unfold sortWorldK putRowK putRow mapBlock grow Sort.ahead
  simp only [Array.getElem?_append, Array.size_modify, hlt, if_true, Array.getElem?_modify]
  rw [if_neg (fun e => hne e.symm)])).mono fun _ _ h => ⟨h.1, h.2.2⟩
theorem sortOE_any (w : World) (g c : Nat) (D : List OpR) (hv : (rowC 86 34 (.slice (some ⟨g, 0, none⟩) D.length c) D.length (D.flatMap encOp)).ok w) (h12 : D.length ≤ 12) (fb : Nat) (hne : fb ≠ g) (hfb : (cellC fb 133 [.func (.func 51) #[] #[]]).ok w) :
  Calls Tryz.prog 95 #[.slice (some ⟨g, 0, none⟩) D.length c, .func (.func 96) #[] #[.pointer (some ⟨fb, 0, none⟩)]] w fun e w' => e = .returned (.tuple #[]) ∧ ∃ D' : List OpR, D'.Perm D ∧ (D'.Pairwise fun a b => ¬ ltXO b a) ∧ (rowC 86 34 (.slice (some ⟨g, 0, none⟩) D.length c) D.length (D'.flatMap encOp)).ok w' ∧ Upd [g] w w' := by
 obtain ⟨A, rfl⟩ : ∃ A : List OpR, A = D := ⟨D, rfl⟩
 have hg : g < w.heap.size := (rowC _ _ _ _ _).lt hv g rfl
 obtain ⟨cur, hb, hnc, hcm, hcs, htk⟩ : ∃ cur, w.heap[g]? = some (.cells cur 86 (0, 0)) ∧ A.length ≤ c ∧ c ≤ maxLen ∧ cur.size = c * 34 ∧ cur.toList.take (A.length * 34) = A.flatMap encOp := by
  rcases hv.2 with ⟨h, _⟩ | ⟨g', c', cur, h, _, h1, h2, h3, h4, h5⟩
  ·cases h
  ·simp only [Value.slice.injEq, Option.some.injEq, Addr.mk.injEq] at h
   obtain ⟨⟨rfl, _⟩, _, rfl⟩ := h
   exact ⟨cur, h1, h2, h3, h4, h5⟩
 have hH : HoldsK encOp 34 w g 0 A.toArray := fun j hj => by
  have hj' : j < A.length * 34 := by simpa using hj
  have hq : j / 34 < A.length := (Nat.div_lt_iff_lt_mul (by omega)).2 hj'
  refine ⟨?_, ?_⟩
  ·rw [get_flatK _ _ _ _ (by simpa using hj')]
   have hx : A.toArray[j / 34]! = A[j / 34] := by rw [getElem!_pos A.toArray (j / 34) (by simpa using hq)]; simp
   rw [hx]
   refine rows_cell (enc := encOp) hv rfl encOp_len (i := j / 34) (x := A[j / 34]) (List.getElem?_eq_getElem hq) (j % 34) (by have := Nat.mod_lt j (show 0 < 34 by omega); simp [Nat.blt_eq, this]) (by omega) ?_
   have hm : j % 34 < (encOp A[j / 34]).length := by rw [encOp_len]; omega
   rw [List.getElem?_eq_getElem hm, getElem!_pos (encOp A[j / 34]) _ hm]; rfl
  ·unfold World.frozen?
   rw [hb]; simp
 have hbl : ∀ (n : Nat) (W : World), n ≤ 12 → Calls Tryz.prog (sortO_ren.f 15) #[.int .u64 n] W fun e w' => (∃ l : Int, e = .returned (.int .i64 l)) ∧ w' = W := fun n W hn =>
  (Any.bits_Len bitsL n W (by omega) (by omega)).mono fun _ _ ⟨he, hw⟩ => ⟨⟨_, he⟩, hw⟩
 have h := AnyQ.slices_SortFunc_small_sorted (P := Tryz.prog) sortO 34 Tryz.isAgg86 Tryz.sizeOf86 encOp encOp_len (fun x v hv => List.all_eq_true.1 (encOp_one x) v hv) cmpXO 96 #[.pointer (some ⟨fb, 0, none⟩)] cmpXO_swo g 0 c A.toArray w (enters_of Tryz.func96 (by kernel_rfl) rfl) (fstCmpO_lays g 0 _ w hne hfb) hH hg (by simpa using h12) hbl
 rw [show A.toArray.size = A.length from List.size_toArray ..] at h
 refine h.mono fun e w' ⟨he, d', n, os, hp, hs, hw⟩ => ?_
 have hsz : d'.size = A.length := by simpa using hp.1
 have hp2 : d'.toList.Perm A := by
  have := hp.2.2
  have e1 : d'.extract 0 A.length = d' := by rw [← hsz]; exact Array.extract_size
  have e2 : A.toArray.extract 0 A.length = A.toArray := Array.extract_size (xs := A.toArray)
  rw [e1, e2] at this
  exact this
 refine ⟨he, d'.toList, hp2, ?_, ?_, ?_⟩
 ·rw [List.pairwise_iff_getElem]
  intro i j hi hj hij
  have hi' : i < d'.size := by simpa using hi
  have hj' : j < d'.size := by simpa using hj
  have := hs i j (Nat.zero_le _) hij (by omega)
  rw [getElem!_pos d' i hi', getElem!_pos d' j hj'] at this
  rw [ltOf_cmpXO] at this
  have h5 := of_decide_eq_false this
  rwa [Array.getElem_toList, Array.getElem_toList]
 ·obtain ⟨q1, q2⟩ := sorted_block encOp 34 encOp_len (by omega) d' cur (by rw [hsz, hcs]; exact Nat.mul_le_mul_right _ hnc)
  refine ⟨by rw [flat_len encOp 34 encOp_len]; simp [hsz], .inr ⟨g, c, putCells id 0 (flatK encOp 34 d') cur, rfl, Nat.zero_le _, ?_, hnc, hcm, by rw [q1, hcs], by rw [← hsz]; exact q2⟩⟩
  rw [hw]
  unfold sortWorldK putRowK putRow mapBlock grow Sort.ahead
  simp only [Array.getElem?_append, Array.size_modify, hg, if_true, Array.getElem?_modify]
  rw [hb]; rfl
 ·subst hw
  refine ⟨rfl, rfl, rfl, size_sortWorldK_c _ _ _ _ _ _ _ _, fun k hk hne => ?_⟩
  have hne : g ≠ k := fun e => hne (by simp [e])
  unfold sortWorldK putRowK putRow mapBlock grow Sort.ahead
  simp only [Array.getElem?_append, Array.size_modify, hk, if_true, Array.getElem?_modify, if_neg hne]
theorem sortORow_any (w : World) (a : Option Addr) (c : Nat) (D : List OpR) (fb : Nat) (hv : (sepC [rowC 86 34 (.slice a D.length c) D.length (D.flatMap encOp), cellC fb 133 [.func (.func 51) #[] #[]]]).ok w) (h12 : D.length ≤ 12) :
  Calls Tryz.prog 95 #[.slice a D.length c, .func (.func 96) #[] #[.pointer (some ⟨fb, 0, none⟩)]] w fun e w' => ∃ D' : List OpR, e = .returned (.tuple #[]) ∧ D'.Perm D ∧ (D'.Pairwise fun a b => ¬ ltXO b a) ∧ Sat w [rowC 86 34 (.slice a D'.length c) D'.length (D'.flatMap encOp), cellC fb 133 [.func (.func 51) #[] #[]], restC w (sepC [rowC 86 34 (.slice a D.length c) D.length (D.flatMap encOp), cellC fb 133 [.func (.func 51) #[] #[]]]).fp] w' := by
 have H := Sat.start _ hv
 cases hD : D with
 | nil =>
  subst hD
  refine (sort0O_any a c (.func (.func 96) #[] #[.pointer (some ⟨fb, 0, none⟩)]) w).mono fun e w' ⟨he, hw⟩ => ?_
  subst hw
  exact ⟨[], he, List.Perm.refl _, List.Pairwise.nil, H⟩
 | cons x D0 =>
  rw [← hD]
  have hv0 := hv.1 _ List.mem_cons_self
  have hv1 := hv.1 _ (List.mem_cons_of_mem _ List.mem_cons_self)
  obtain ⟨g, c', hs⟩ := row_shape hv0 (by rw [hD]; simp)
  simp only [Value.slice.injEq] at hs
  obtain ⟨rfl, _, rfl⟩ := hs
  have hne : fb ≠ g := fun e => (List.pairwise_cons.1 hv.2).1 _ List.mem_cons_self g rfl e.symm
  refine (sortOE_any w g c D hv0 h12 fb hne hv1).mono fun e w' ⟨he, D', hp, hs, hok, hu⟩ => ?_
  have hl := hp.length_eq
  refine ⟨D', he, hp, hs, ?_⟩
  rw [hl]
  exact H.setU hu 0 rfl (by rintro b' hb; rw [List.mem_singleton.1 hb]; rfl) hok (fun b hb => .inl hb)
end Go.Proofs.YtenihpghfdcpkaaGreat
namespace Go.Proofs.YtenihpghfdcpkaaGreat
open Go.RowKit
abbrev kFiO_0 (p0 : Option Addr) (p1 : List OpR) (p2 : Nat) : Ck := rowC 86 34 (.slice p0 p1.length p2) p1.length (p1.flatMap encOp)
abbrev kFiO_1 (p0 : OpR) (p1 : Nat) : List Value := ([(.int .i64 p0.i), (.slice p0.pa p1 p0.pc)] : List Value) ++ hc p0.h
theorem firstO_any (w : World) (la : Option Addr) (lc : Nat) (L : List OpR) (hL : ListAt encOp 34 w (.slice la L.length lc) L) (hlL : L.length ≤ 1000) (m : Nat) (F c E last : Int) (vm : Value) (mo : Nat) (M : List (Int × EntD)) (hmo : MapAt w mo (Value.int .i64) entV M) (hM : OpenOk M) (s : Nat) (hs : (cellC s 54 ([(.int .i64 (F)), (.int .i64 (c)), (.int .i64 (E)), (.int .u64 (last)), (vm), (.map (some mo))] : List Value)).ok w) (hoL : ∀ i, i < L.length → ListAt encB 1 w (.slice (L.getD i op0).pa (L.getD i op0).P.length (L.getD i op0).pc) (L.getD i op0).P) (hlo : ∀ i, i < L.length → (L.getD i op0).P.length ≤ 1000) (h12 : (firstN (fun x : OpR => x.i) (mayOp M) L).length ≤ 12) :
  Calls Tryz.prog 50 #[(.slice la L.length lc), (.func (.func 51) #[] #[]), (.func (.func 48) #[] #[(.pointer (some ⟨s, 0, none⟩))]), (.int .i64 ((m : Int)))] w fun e w' => ∃ (oa : Option Addr) (oc : Nat) (D : List OpR), e = .returned (.slice oa (D.take m).length oc) ∧ SortN (fun x : OpR => x.i) (mayOp M) L D ∧ D.length ≤ L.length ∧ (rowC 86 34 (.slice oa (D.take m).length oc) (D.take m).length ((D.take m).flatMap encOp)).ok w' ∧ Upd [] w w' ∧ ∀ q_, (rowC 86 34 (.slice oa (D.take m).length oc) (D.take m).length ((D.take m).flatMap encOp)).fp q_ → w.heap.size ≤ q_ := by
 have H := Sat.start0 w
 have hcap := ListAt.cap hL
 refine calls_fr Tryz.func50 rfl 49 rfl (Nat.le_of_ble_eq_true rfl) ?_
 refine zsl <| zwd fun Kq kq => zdb ([(.func (.func 51) #[] #[])] : List Value) H fun b2 w3 H4 => ?_
 refine kq _ _ <| wv 8 (.slice none 0 0) <| znsl <| zwd fun Kq kq => d_makeMap (Value.int .i64) Value.bool rfl H4 fun b6 w7 H8 => ?_
 refine kq _ _ <| wv 9 (.map (some b6)) <| znsl <| wv 10 (.slice none 0 0) <| znt <| w_seq <| zsl <| wv 15 (.slice la L.length lc) <| wv 16 (.int .i64 ((L.length : Int))) <| wv 17 (.int .i64 (0)) ?_
 refine znt <| w_block ?_
 have H9 := H8.addNil 86 34
 refine wp_round ([10, 12, 13] ++ List.range' 17 23) (fun F_ W_ m_ => ∃ (i : Nat) (HV : List (Int × Bool)) (oa : Option Addr) (oc : Nat) (O : List OpR), F_ 17 = (.int .i64 ((i : Int))) ∧ F_ 10 = (.slice oa O.length oc) ∧ (i ≤ L.length) ∧ (O = firstN (fun x : OpR => x.i) (mayOp M) (L.take i)) ∧ (HvOk HV (fun x : OpR => x.i) O) ∧ (O.length ≤ i) ∧ Sat w [restC w (fun _ => False), cellC b2 133 ([(.func (.func 51) #[] #[])] : List Value), mapC b6 (Value.int .i64) Value.bool HV, (kFiO_0 oa O oc)] W_ ∧ m_ = L.length - i) _ ⟨0, [], none, 0, [], (show ((.int .i64 (0)) : Value) = _ by first | rfl | go_num), (by first | rfl | go_num), (Nat.zero_le _), rfl, HvOk.nil, (Nat.zero_le _), H9, rfl⟩ ?_
 rintro g10 w11 _ ⟨i, HV, oa, oc, O, v13, v14, hi, hO, hhv, hOl, H12, rfl⟩
 refine wp_know 17 _ v13 ?_
 refine wp_know 10 _ v14 ?_
 refine zsl <| wv 18 (.bool (decide ((i : Int) < (L.length : Int)))) <| znt <| w_seq ?_
 refine (bsplit (decide ((i : Int) < (L.length : Int)))).elim (fun b16 => ?_) (fun b16 => ?_)
 ·have g17 := of_decide_eq_true b16
  refine zwkt _ b16 ?_
  refine w_skip <| ztn <| w_seq <| w_block <| zsl ?_
  obtain ⟨g19, o20, c21, e22, R23⟩ := SliceOf.atD hL op0 (show i < L.length by omega)
  refine wv 19 (.pointer (some ⟨g19, o20 + ((i : Int)).toNat * 34, none⟩)) ?_ (hr := e_indexAddrW (E := 86) (by kernel_rfl) (by kernel_rfl) (Nat.le_of_ble_eq_true rfl) rfl e22 rfl (by omega) (by omega))
  refine wv 20 (.agg ⟨(kFiO_1 (L.getD i op0) ((L.getD i op0).P.length))⟩) ?_ (hr := e_loadRun (vs := (kFiO_1 (L.getD i op0) ((L.getD i op0).P.length))) rfl (by kernel_rfl) (by kernel_rfl) (Nat.le_of_ble_eq_true (by kernel_rfl)) (H12.runR 0 rfl (cells_run R23 0 (by kernel_rfl) (show o20 + ((i : Int)).toNat * 34 = o20 + i * 34 + 0 by omega)) (fun h => h)))
  refine zwd fun Kq kq => zda (([(.int .i64 (0)), (.slice none 0 0)] : List Value) ++ hc hash0) H12 fun b25 w26 H27 => ?_
  refine kq _ _ <| zwd fun Kq kq => zds1 (kFiO_1 (L.getD i op0) ((L.getD i op0).P.length)) H27 4 fun w29 H30 => ?_
  refine kq _ _ <| znsl <| zw1 21 (.func (.func 51) #[] #[]) (H30.cell 1 rfl rfl) <| zwN 22 (kFiO_1 (L.getD i op0) ((L.getD i op0).P.length)) (H30.at 4 rfl) <| zwd fun Kq kq => zdq 23 (mkNumO2_any w29 (L.getD i op0)) H30 fun w33 H34 => ?_
  refine kq _ _ <| wv 13 (.int .i64 ((L.getD i op0).i)) <| znsl <| wv 24 (.map (some b6)) <| wv 25 (.int .i64 ((L.getD i op0).i)) <| wv 26 (.bool ((lookM HV ((L.getD i op0).i)).getD false)) ?_ (hr := e_lookup (kt := 3) (et := 4) (KeyTy.int (by kernel_rfl)) (by kernel_rfl) (fun w => by kernel_rfl) rfl ((L.getD i op0).i) rfl (H34.at 2 rfl) (optD Value.bool _ _))
  refine wv 27 (.bool (!((lookM HV ((L.getD i op0).i)).getD false))) <| wv 28 (.bool (!((lookM HV ((L.getD i op0).i)).getD false))) ?_
  refine (bsplit (!((lookM HV ((L.getD i op0).i)).getD false))).elim (fun b36 => ?_) (fun b36 => ?_)
  ·have g37 := bnot_true b36
   refine wl_know 28 (.bool true) (congrArg Value.bool b36) ?_
   refine wy 4 28 true 29 (.func (.func 48) #[] #[(pt s 0)]) <| wy 4 28 true 30 (.agg ⟨(kFiO_1 (L.getD i op0) ((L.getD i op0).P.length))⟩) ?_ (hr := zlN (vs := (kFiO_1 (L.getD i op0) ((L.getD i op0).P.length))) (H34.at 4 rfl))
   refine wl_do (wantsY 4 28 true rfl (by kernel_rfl) rfl (by kernel_rfl)) (fun Kq kq => ?_)
   refine zdq 31 (mkOpen_any w33 F c E last vm mo M (H34.roMap 0 rfl hmo (fun h => h)) hM (L.getD i op0) (ListAt.now H34 0 rfl (hoL i (by omega))) (hlo i (by omega)) s (H34.roCk 0 rfl hs (fun _ _ h => h))) H34 ?_
   intro w40 H41
   refine kq _ _ <| wv 32 (.bool (mayOp M (L.getD i op0))) <| znt ?_
   refine (bsplit (mayOp M (L.getD i op0))).elim (fun b43 => ?_) (fun b43 => ?_)
   ·refine zwkt _ b43 ?_
    refine zsl <| wv 33 (.map (some b6)) <| wv 34 (.int .i64 ((L.getD i op0).i)) <| zwd fun Kq kq => d_mapUpdate (kt := 3) (et := 4) rfl H41 2 rfl (KeyTy.int (by kernel_rfl)) (by kernel_rfl) rfl ((L.getD i op0).i) rfl true rfl fun w45 H46 => ?_
    refine kq _ _ <| znt <| w_lit <| wv 35 (.slice oa O.length oc) <| zwN 36 (kFiO_1 (L.getD i op0) ((L.getD i op0).P.length)) (H46.at 4 rfl) <| zwd fun Kq kq => zdbs 86 34 64 (.agg ⟨(([(.int .i64 (0)), (.slice none 0 0)] : List Value) ++ hc hash0)⟩) [(0, (.agg ⟨(kFiO_1 (L.getD i op0) ((L.getD i op0).P.length))⟩))] (kFiO_1 (L.getD i op0) ((L.getD i op0).P.length)) H46 ?_
    intro b48 w49 (H50 : Sat w [restC w (fun _ => False), cellC b2 133 ([(.func (.func 51) #[] #[])] : List Value), mapC b6 (Value.int .i64) Value.bool (putM HV ((L.getD i op0).i) true), (kFiO_0 oa O oc), cellC b25 86 (kFiO_1 (L.getD i op0) ((L.getD i op0).P.length)), rowC 86 34 (.slice (some ⟨b48, 0, none⟩) 1 1) 1 (kFiO_1 (L.getD i op0) ((L.getD i op0).P.length))] w49)
    have H51 : Sat w [restC w (fun _ => False), cellC b2 133 ([(.func (.func 51) #[] #[])] : List Value), mapC b6 (Value.int .i64) Value.bool (putM HV ((L.getD i op0).i) true), (kFiO_0 oa O oc), cellC b25 86 (kFiO_1 (L.getD i op0) ((L.getD i op0).P.length)), rowC 86 34 (.slice (some ⟨b48, 0, none⟩) 1 1) 1 ([(L.getD i op0)].flatMap encOp)] w49 := H50.cast (by rw [(show ((kFiO_1 (L.getD i op0) ((L.getD i op0).P.length)) : List Value) = [(L.getD i op0)].flatMap encOp by kernel_rfl)])
    refine kq _ _ <| zwd fun Kq kq => d_append (T := 42) (e := 86) (size := 34) (bytes := 64) rfl H51 (by kernel_rfl) 3 5 rfl rfl rfl rfl (flat_one encOp encOp_one [(L.getD i op0)]) (by omega) (by omega) fun v53 w54 H55 => ?_
    have H58 : Sat w [restC w (fun _ => False), cellC b2 133 ([(.func (.func 51) #[] #[])] : List Value), mapC b6 (Value.int .i64) Value.bool (putM HV ((L.getD i op0).i) true), rowC 86 34 v53 ((O ++ [(L.getD i op0)]).length) ((O ++ [(L.getD i op0)]).flatMap encOp), cellC b25 86 (kFiO_1 (L.getD i op0) ((L.getD i op0).P.length)), rowC 86 34 (.slice (some ⟨b48, 0, none⟩) 1 1) 1 ([(L.getD i op0)].flatMap encOp)] w54 := H55.cast (by simp only [List.length_append, List.flatMap_append] <;> rfl)
    obtain ⟨a56, c57, rfl⟩ := ownsRow_shape (H58.at 3 rfl)
    refine kq _ _ <| wv 10 (.slice a56 ((O ++ [(L.getD i op0)]).length) c57) <| w_nil <| blk_normal <| ztn <| w_lit <| zwi 39 ((i : Int) + 1) <| wv 17 (.int .i64 ((i : Int) + 1)) <| w_nil ?_
    have H59 := H58.pk [0, 1, 2, 3]
    refine round_back ?_ _ ⟨(i + 1), (putM HV ((L.getD i op0).i) true), a56, c57, (O ++ [(L.getD i op0)]), rfl, (show ((.slice a56 ((O ++ [(L.getD i op0)]).length) c57) : Value) = _ by first | rfl | go_num), (by omega), (by rw [firstN_step (show L[i]? = some (L.getD i op0) by rw [List.getD_eq_getElem?_getD, List.getElem?_eq_getElem (show i < L.length by omega)]; rfl), ← hO]; exact (takeN_yes (by rw [← hhv]; exact (by have q := b36; simpa using q)) b43).symm), (HvOk.put (num := (fun x : OpR => x.i)) (x := (L.getD i op0)) hhv), (by first | omega | (simp only [List.length_append, List.length_cons, List.length_nil]; omega)), H59, rfl⟩ (by omega)
    exact zs
   refine zwkf _ b43 ?_
   refine w_skip <| blk_normal <| ztn <| w_lit <| zwi 39 ((i : Int) + 1) <| wv 17 (.int .i64 ((i : Int) + 1)) <| w_nil ?_
   have H60 := H41.pk [0, 1, 2, 3]
   refine round_back ?_ _ ⟨(i + 1), HV, oa, oc, O, rfl, rfl, (by omega), (by rw [firstN_step (show L[i]? = some (L.getD i op0) by rw [List.getD_eq_getElem?_getD, List.getElem?_eq_getElem (show i < L.length by omega)]; rfl), ← hO]; exact (takeN_no2 b43).symm), hhv, (by first | omega | (simp only [List.length_append, List.length_cons, List.length_nil]; omega)), H60, rfl⟩ (by omega)
   exact zs
  have g61 := bnot_false b36
  refine wl_know 28 (.bool false) (congrArg Value.bool b36) ?_
  iterate 3 refine wn 4 28 true ?_
  refine wv 32 (.bool false) <| znt <| wp_iff rfl ?_
  refine w_skip <| blk_normal <| ztn <| w_lit <| zwi 39 ((i : Int) + 1) <| wv 17 (.int .i64 ((i : Int) + 1)) <| w_nil ?_
  have H63 := H34.pk [0, 1, 2, 3]
  refine round_back ?_ _ ⟨(i + 1), HV, oa, oc, O, rfl, rfl, (by omega), (by rw [firstN_step (show L[i]? = some (L.getD i op0) by rw [List.getD_eq_getElem?_getD, List.getElem?_eq_getElem (show i < L.length by omega)]; rfl), ← hO]; exact (takeN_no1 (by rw [← hhv]; exact (by have q := b36; simpa using q))).symm), hhv, (by first | omega | (simp only [List.length_append, List.length_cons, List.length_nil]; omega)), H63, rfl⟩ (by omega)
  exact zs
 have g64 := of_decide_eq_false b16
 refine zwkf _ b16 ?_
 refine zxb <| ztn <| zsl <| wv 40 (.slice oa O.length oc) <| wv 41 (.func (.func 96) #[] #[(pt b2 0)]) <| zwd fun Kq kq => ?_
 have hiL : i = L.length := by omega
 rw [hiL, List.take_length] at hO
 refine zdc 42 (sortORow_any w11 oa oc O b2 (H12.fn [3, 1]) (by rw [hO]; exact h12)) ?_
 rintro _ w67 ⟨D, rfl, p68, s69, T70⟩
 have hDl : D.length ≤ L.length := by have q := p68.length_eq; omega
 have H71 := H12.tl [(kFiO_0 oa D oc), cellC b2 133 ([(.func (.func 51) #[] #[])] : List Value)] [3, 1] [0, 2] T70 [2, 1, 3, 0]
 refine ⟨_, rfl, ?_⟩
 refine kq _ _ <| znt <| w_seq <| wp_know 10 (.slice oa D.length oc) (show ((.slice oa O.length oc) : Value) = _ by rw [p68.length_eq]) ?_
 have hcD := ListAt.cap (ListAt.row (enc := encOp) (sz := 34) encOp_len (by decide) (H71.at 3 rfl))
 refine w_lit <| wv 43 (.slice oa D.length oc) <| wv 44 (.slice oa D.length oc) <| wv 45 (.int .i64 ((D.length : Int))) <| wv 46 (.int .i64 ((m : Int))) <| wv 47 (.int .i64 (((min D.length m : Nat) : Int))) ?_ (hr := e_min (k := .i64) (a := (D.length : Int)) (b := (m : Int)) (z := ((min D.length m : Nat) : Int)) rfl rfl (by omega))
 refine wv 48 (.slice oa (min D.length m) oc) ?_ (hr := e_sliceHi (E := 86) (q := (min D.length m)) (by kernel_rfl) (by kernel_rfl) rfl rfl (by omega) (by omega))
 refine wv 8 (.slice oa (min D.length m) oc) <| znt <| w_ret <| ze1 (.slice oa (min D.length m) oc) ?_
 exact ⟨oa, oc, D, by rw [show min D.length m = (D.take m).length by rw [List.length_take, Nat.min_comm]], SortN.of (lt := ltXO) (by rw [← hO]; exact p68) (s69.imp fun h => h), hDl, row_prefix encOp_len (H71.at 3 rfl), H71.upd 0 rfl [] (fun _ h => h.elim), (fun q_ hq_ => H71.fresh 0 rfl (fun _ h => h) 3 rfl rfl q_ (by cases oa with | none => exact hq_ | some _ => exact hq_))⟩
end Go.Proofs.YtenihpghfdcpkaaGreat
namespace Go.Proofs.YtenihpghfdcpkaaGreat
open Go.RowKit Go.Shelf
def sortT_ren : Go.Shelf.Ren := ⟨fun | 6 => 97 | 15 => 102 | 14 => 124 | 28 => 136 | 29 => 137 | 20 => 169 | 21 => 170 | 22 => 171 | 23 => 172 | 24 => 173 | 25 => 174 | 26 => 175 | 27 => 176 | 46 => 201 | 47 => 182 | 48 => 183 | 49 => 202 | 50 => 203 | 57 => 218 | n => n, fun | 22 => 43 | 24 => 89 | 25 => 188 | 3 => 3 | 39 => 108 | 0 => 0 | 53 => 198 | 55 => 25 | 4 => 4 | 46 => 222 | 45 => 221 | 50 => 226 | 5 => 5 | 9 => 9 | 66 => 257 | 70 => 261 | 76 => 281 | 77 => 282 | n => n, fun | n => n⟩
theorem sortT : Go.Proofs.SlLaysF0.n6 Tryz.prog sortT_ren := {
 mixed := by kernel_rfl,
 f6 := ⟨Tryz.f97.name, by decide, Tryz.func97.trans (congrArg some (by kernel_rfl))⟩,
 f14 := ⟨Tryz.f124.name, by decide, Tryz.func124.trans (congrArg some (by kernel_rfl))⟩,
 f15 := Tryz.func102.trans (congrArg some (by kernel_rfl)),
 f20 := ⟨Tryz.f169.name, by decide, Tryz.func169.trans (congrArg some (by kernel_rfl))⟩,
 f21 := ⟨Tryz.f170.name, by decide, Tryz.func170.trans (congrArg some (by kernel_rfl))⟩,
 f22 := ⟨Tryz.f171.name, by decide, Tryz.func171.trans (congrArg some (by kernel_rfl))⟩,
 f23 := ⟨Tryz.f172.name, by decide, Tryz.func172.trans (congrArg some (by kernel_rfl))⟩,
 f24 := ⟨Tryz.f173.name, by decide, Tryz.func173.trans (congrArg some (by kernel_rfl))⟩,
 f25 := ⟨Tryz.f174.name, by decide, Tryz.func174.trans (congrArg some (by kernel_rfl))⟩,
 f26 := ⟨Tryz.f175.name, by decide, Tryz.func175.trans (congrArg some (by kernel_rfl))⟩,
 f27 := ⟨Tryz.f176.name, by decide, Tryz.func176.trans (congrArg some (by kernel_rfl))⟩,
 f28 := Tryz.func136.trans (congrArg some (by kernel_rfl)),
 f29 := Tryz.func137.trans (congrArg some (by kernel_rfl)),
 f46 := ⟨Tryz.f201.name, by decide, Tryz.func201.trans (congrArg some (by kernel_rfl))⟩,
 f47 := Tryz.func182.trans (congrArg some (by kernel_rfl)),
 f48 := Tryz.func183.trans (congrArg some (by kernel_rfl)),
 f49 := ⟨Tryz.f202.name, by decide, Tryz.func202.trans (congrArg some (by kernel_rfl))⟩,
 f50 := ⟨Tryz.f203.name, by decide, Tryz.func203.trans (congrArg some (by kernel_rfl))⟩,
 f57 := ⟨Tryz.f218.name, by decide, Tryz.func218.trans (congrArg some (by kernel_rfl))⟩,
 t0 := Tryz.underlying0,
 a0 := Tryz.isAgg0,
 z0 := Tryz.sizeOf0,
 v0 := Tryz.zeroValue0,
 t3 := Tryz.underlying3,
 a3 := Tryz.isAgg3,
 z3 := Tryz.sizeOf3,
 v3 := Tryz.zeroValue3,
 t4 := Tryz.underlying4,
 a4 := Tryz.isAgg4,
 z4 := Tryz.sizeOf4,
 v4 := Tryz.zeroValue4,
 t5 := Tryz.underlying5,
 a5 := Tryz.isAgg5,
 z5 := Tryz.sizeOf5,
 v5 := Tryz.zeroValue5,
 t9 := Tryz.underlying9,
 a9 := Tryz.isAgg9,
 z9 := Tryz.sizeOf9,
 v9 := Tryz.zeroValue9,
 t22 := Tryz.underlying43,
 a22 := Tryz.isAgg43,
 z22 := Tryz.sizeOf43,
 v22 := Tryz.zeroValue43,
 t25 := Tryz.underlying188,
 a25 := Tryz.isAgg188,
 z25 := Tryz.sizeOf188,
 v25 := Tryz.zeroValue188,
 t39 := Tryz.underlying108,
 a39 := Tryz.isAgg108,
 z39 := Tryz.sizeOf108,
 v39 := Tryz.zeroValue108,
 t45 := Tryz.underlying221,
 a45 := Tryz.isAgg221,
 z45 := Tryz.sizeOf221,
 v45 := Tryz.zeroValue221,
 t46 := Tryz.underlying222,
 a46 := Tryz.isAgg222,
 z46 := Tryz.sizeOf222,
 v46 := Tryz.zeroValue222,
 t50 := Tryz.underlying226,
 a50 := Tryz.isAgg226,
 z50 := Tryz.sizeOf226,
 v50 := Tryz.zeroValue226,
 t53 := Tryz.underlying198,
 a53 := Tryz.isAgg198,
 z53 := Tryz.sizeOf198,
 v53 := Tryz.zeroValue198,
 t55 := Tryz.underlying25,
 a55 := Tryz.isAgg25,
 z55 := Tryz.sizeOf25,
 v55 := Tryz.zeroValue25,
 t66 := Tryz.underlying257,
 a66 := Tryz.isAgg257,
 z66 := Tryz.sizeOf257,
 v66 := Tryz.zeroValue257,
 t70 := Tryz.underlying261,
 a70 := Tryz.isAgg261,
 z70 := Tryz.sizeOf261,
 v70 := Tryz.zeroValue261,
 t76 := Tryz.underlying281,
 a76 := Tryz.isAgg281,
 z76 := Tryz.sizeOf281,
 v76 := Tryz.zeroValue281,
 t77 := Tryz.underlying282,
 a77 := Tryz.isAgg282,
 z77 := Tryz.sizeOf282,
 v77 := Tryz.zeroValue282 }
end Go.Proofs.YtenihpghfdcpkaaGreat
