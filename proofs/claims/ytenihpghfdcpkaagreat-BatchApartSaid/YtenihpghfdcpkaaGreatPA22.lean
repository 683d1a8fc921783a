/- WHAT IS PROVED: contracts and plain laws of Fst12, Sort0P, SortP12, Mk12, FiP. Conditions: stated with each. -/
import Derived.Test.YtenihpghfdcpkaaGreatPA05
import Derived.Test.YtenihpghfdcpkaaGreatPA08
import Derived.Test.YtenihpghfdcpkaaGreatPA10
import Derived.Test.YtenihpghfdcpkaaGreatPA11
import Derived.Test.YtenihpghfdcpkaaGreatPA16
import Derived.Test.YtenihpghfdcpkaaGreatPA17
import Derived.Test.YtenihpghfdcpkaaGreatPA21
set_option maxHeartbeats 4000000
set_option maxRecDepth 100000
namespace Go.Proofs.YtenihpghfdcpkaaGreat
open Go.RowKit
abbrev Z37 (p0 : PrR) : List Value := ([(.int .i64 p0.r), (.int .i64 p0.e), (.int .u64 p0.f), (.slice p0.ca p0.C.length p0.cc), (.int .i64 p0.sb), (.int .i64 p0.sm)] : List Value)
theorem Z7E (w : World) (p : PrR) :
  Calls Tryz.prog 45 #[(.agg ⟨([(.int .i64 (p.r)), (.int .i64 (p.e)), (.int .u64 (p.f)), ((.slice p.ca p.C.length p.cc)), (.int .i64 (p.sb)), (.int .i64 (p.sm))] : List Value)⟩)] w fun e w' => e = .returned (.int .i64 p.r) ∧ Upd [] w w' ∧ Gr w w' := by
 have H := Sat.start0 w
 refine Z8 Tryz.func45 rfl 5 rfl kn ?_
 refine zsl <| zy <| Z3P (vs := (Z37 p)) rfl H rfl rfl fun b2 w3 H4 g5 => ?_
 refine kk <| wv 2 (vi 0) <| Z0y <| wv 3 (pt b2 0) <| zw1 4 (vi p.r) (H4.cell 1 rfl rfl) <| wv 2 (vi p.r) <| znt <| Zq <| ze1 (vi p.r) ?_
 exact ⟨rfl, H4.upd 0 rfl [] ne, g5⟩
theorem ZbK (w : World) (x y : PrR) (fb : Nat) (hfb : (Z0 fb 127 [.func (.func 45) #[] #[]]).ok w) :
  Calls Tryz.prog 91 #[(.agg ⟨([(.int .i64 (x.r)), (.int .i64 (x.e)), (.int .u64 (x.f)), ((.slice x.ca x.C.length x.cc)), (.int .i64 (x.sb)), (.int .i64 (x.sm))] : List Value)⟩), (.agg ⟨([(.int .i64 (y.r)), (.int .i64 (y.e)), (.int .u64 (y.f)), ((.slice y.ca y.C.length y.cc)), (.int .i64 (y.sb)), (.int .i64 (y.sm))] : List Value)⟩), (.pointer (some ⟨fb, 0, none⟩))] w fun e w' => e = .returned (.int .i64 (Z2Q x.r y.r)) ∧ Upd [] w w' ∧ Gr w w' := by
 have H := Sat.start0 w
 refine Z8 Tryz.func91 rfl 13 rfl kn ?_
 refine zsl <| zy <| Z3P (vs := (Z37 x)) rfl H rfl rfl fun b2 w3 H4 g5 => ?_
 refine kk <| zy <| Z3P (vs := (Z37 y)) rfl H4 rfl rfl fun b7 w8 H9 g10 => ?_
 have gr11 := g5.trans g10
 refine kk <| wv 5 (vi 0) <| znt <| Z5 <| Z5z H9 [Z3 w (fun _ => False), Z0 b2 71 (Z37 x), Z0 b7 71 (Z37 y)] 8 rfl kr (fun Hx => (Hx.pk [0, 1, 2])) fun w12 H13 S14 g15 => ?_
 have gr16 := gr11.trans g15
 refine hv0 0 S14 6 (.func (.func 45) #[] #[]) ?_ (he := fun _ H' => (zl1 (H'.roCell 0 rfl hfb (fun h => h) rfl)))
 refine hv0 1 S14 7 (.agg ⟨(Z37 x)⟩) ?_ (he := fun _ H' => (zlN (vs := (Z37 x)) (H'.at 1 rfl)))
 refine hv0 3 S14 9 (.func (.func 45) #[] #[]) ?_ (he := fun _ H' => (zl1 (H'.roCell 0 rfl hfb (fun h => h) rfl)))
 refine hv0 4 S14 10 (.agg ⟨(Z37 y)⟩) ?_ (he := fun _ H' => (zlN (vs := (Z37 y)) (H'.at 2 rfl)))
 refine zhy 2 ?_
 refine zdc 8 (Z7E w12 x) ?_
 rintro _ w18 ⟨rfl, u20, g21⟩
 have H19 := H13.keepU u20
 refine ⟨_, rfl, ?_⟩
 have gr22 := gr16.trans g21
 have S23 := H19.pk [0, 1, 2]
 refine kh S23 <| zhy 5 ?_
 refine zdc 11 (Z7E w18 y) ?_
 rintro _ w25 ⟨rfl, u27, g28⟩
 have H26 := H19.keepU u27
 refine ⟨_, rfl, ?_⟩
 have gr29 := gr22.trans g28
 have S30 := H26.pk [0, 1, 2]
 refine kh S30 <| zhy 6 ?_
 refine zdc 12 (Z3V x.r y.r w25) ?_
 rintro _ w32 ⟨rfl, hw32⟩
 obtain rfl := hw32.symm
 refine ⟨_, rfl, ?_⟩
 have S33 := H26.pk [0, 1, 2]
 refine kh S33 <| hv0 7 S33 5 (vi (Z2Q x.r y.r)) <| zhf <| ztn <| Zq <| ze1 (vi (Z2Q x.r y.r)) ?_
 exact ⟨rfl, H26.upd 0 rfl [] ne, gr29⟩
end Go.Proofs.YtenihpghfdcpkaaGreat
namespace Go.Proofs.YtenihpghfdcpkaaGreat
open Go.RowKit Go.Shelf Go.Sort
theorem Zco (p : Option Addr) (cap : Nat) (fv : Value) (w : World) : Calls Tryz.prog 149 #[.slice p 0 cap, .int .i64 0, .int .i64 0, fv] w fun e w' => e = .returned (.tuple #[]) ∧ w' = w := by
 go_enter Tryz.func149, Tryz.ntmps149
 go_wp2
 refine wp_loop_rounds 1 ?_
 rw [rounds_succ]
 go_wp2
 go_end0
 exact ⟨rfl, rfl⟩
theorem ZcW (p : Option Addr) (cap : Nat) (lim : Int) (fv : Value) (w : World) : Calls Tryz.prog 119 #[.slice p 0 cap, .int .i64 0, .int .i64 0, .int .i64 lim, fv] w fun e w' => e = .returned (.tuple #[]) ∧ w' = w := by
 have hi := fun W => Zco p cap fv W
 go_enter Tryz.func119, Tryz.ntmps119
 go_wp2
 refine wp_loop_rounds 1 ?_
 rw [rounds_succ]
 go_wp2_with (go_at_call 149; refine (hi _).mono ?_; rintro e w' ⟨rfl, rfl⟩)
 (try simp only [Exit.inBlock, Exit.then]); refine bodyPost_ret (results_none rfl _ _ _) rfl ?_
 exact ⟨rfl, rfl⟩
theorem Zb3 (p : Option Addr) (cap : Nat) (fv : Value) (w : World) : Calls Tryz.prog 90 #[.slice p 0 cap, fv] w fun e w' => e = .returned (.tuple #[]) ∧ w' = w := by
 have hp := fun lim W => ZcW p cap lim fv W
 have hl : ∀ W, Calls Tryz.prog 102 #[.int .u64 0] W fun e w' => e = .returned (.int .i64 (Lib.bitLen 0 : Nat)) ∧ w' = W := fun W => Any.bits_Len Z7O 0 W (by omega) (by omega)
 go_enter Tryz.func90, Tryz.ntmps90
 go_wp2_with (first | (go_at_call 102; refine (hl _).mono ?_; rintro e w' ⟨rfl, rfl⟩) | (go_at_call 119; refine (hp _ _).mono ?_; rintro e w' ⟨rfl, rfl⟩))
 go_end0
 exact ⟨rfl, rfl⟩
theorem ZcI (p : Option Addr) (cap : Nat) (fv : Value) (w : World) : Calls Tryz.prog 161 #[.slice p 0 cap, .int .i64 0, .int .i64 0, fv] w fun e w' => e = .returned (.tuple #[]) ∧ w' = w := by
 go_enter Tryz.func161, Tryz.ntmps161
 go_wp2
 refine wp_loop_rounds 1 ?_
 rw [rounds_succ]
 go_wp2
 go_end0
 exact ⟨rfl, rfl⟩
theorem Zcj (p : Option Addr) (cap : Nat) (lim : Int) (fv : Value) (w : World) : Calls Tryz.prog 123 #[.slice p 0 cap, .int .i64 0, .int .i64 0, .int .i64 lim, fv] w fun e w' => e = .returned (.tuple #[]) ∧ w' = w := by
 have hi := fun W => ZcI p cap fv W
 go_enter Tryz.func123, Tryz.ntmps123
 go_wp2
 refine wp_loop_rounds 1 ?_
 rw [rounds_succ]
 go_wp2_with (go_at_call 161; refine (hi _).mono ?_; rintro e w' ⟨rfl, rfl⟩)
 (try simp only [Exit.inBlock, Exit.then]); refine bodyPost_ret (results_none rfl _ _ _) rfl ?_
 exact ⟨rfl, rfl⟩
theorem ZbZ (p : Option Addr) (cap : Nat) (fv : Value) (w : World) : Calls Tryz.prog 95 #[.slice p 0 cap, fv] w fun e w' => e = .returned (.tuple #[]) ∧ w' = w := by
 have hp := fun lim W => Zcj p cap lim fv W
 have hl : ∀ W, Calls Tryz.prog 102 #[.int .u64 0] W fun e w' => e = .returned (.int .i64 (Lib.bitLen 0 : Nat)) ∧ w' = W := fun W => Any.bits_Len Z7O 0 W (by omega) (by omega)
 go_enter Tryz.func95, Tryz.ntmps95
 go_wp2_with (first | (go_at_call 102; refine (hl _).mono ?_; rintro e w' ⟨rfl, rfl⟩) | (go_at_call 123; refine (hp _ _).mono ?_; rintro e w' ⟨rfl, rfl⟩))
 go_end0
 exact ⟨rfl, rfl⟩
theorem ZdH (p : Option Addr) (cap : Nat) (fv : Value) (w : World) : Calls Tryz.prog 169 #[.slice p 0 cap, .int .i64 0, .int .i64 0, fv] w fun e w' => e = .returned (.tuple #[]) ∧ w' = w := by
 go_enter Tryz.func169, Tryz.ntmps169
 go_wp2
 refine wp_loop_rounds 1 ?_
 rw [rounds_succ]
 go_wp2
 go_end0
 exact ⟨rfl, rfl⟩
theorem ZcG (p : Option Addr) (cap : Nat) (lim : Int) (fv : Value) (w : World) : Calls Tryz.prog 124 #[.slice p 0 cap, .int .i64 0, .int .i64 0, .int .i64 lim, fv] w fun e w' => e = .returned (.tuple #[]) ∧ w' = w := by
 have hi := fun W => ZdH p cap fv W
 go_enter Tryz.func124, Tryz.ntmps124
 go_wp2
 refine wp_loop_rounds 1 ?_
 rw [rounds_succ]
 go_wp2_with (go_at_call 169; refine (hi _).mono ?_; rintro e w' ⟨rfl, rfl⟩)
 (try simp only [Exit.inBlock, Exit.then]); refine bodyPost_ret (results_none rfl _ _ _) rfl ?_
 exact ⟨rfl, rfl⟩
theorem Zbi (p : Option Addr) (cap : Nat) (fv : Value) (w : World) : Calls Tryz.prog 97 #[.slice p 0 cap, fv] w fun e w' => e = .returned (.tuple #[]) ∧ w' = w := by
 have hp := fun lim W => ZcG p cap lim fv W
 have hl : ∀ W, Calls Tryz.prog 102 #[.int .u64 0] W fun e w' => e = .returned (.int .i64 (Lib.bitLen 0 : Nat)) ∧ w' = W := fun W => Any.bits_Len Z7O 0 W (by omega) (by omega)
 go_enter Tryz.func97, Tryz.ntmps97
 go_wp2_with (first | (go_at_call 102; refine (hl _).mono ?_; rintro e w' ⟨rfl, rfl⟩) | (go_at_call 124; refine (hp _ _).mono ?_; rintro e w' ⟨rfl, rfl⟩))
 go_end0
 exact ⟨rfl, rfl⟩
instance : Inhabited PrR := ⟨pr0⟩
def Zcn (x y : PrR) : Int := Z2Q x.r y.r
def ZdM (x y : PrR) : Prop := x.r < y.r
instance (x y : PrR) : Decidable (ZdM x y) := by unfold ZdM; exact inferInstance
theorem Z4X (x y : PrR) : ltOf Zcn x y = decide (ZdM x y) := by
 unfold ltOf
 refine decide_eq_decide.2 ?_
 unfold Zcn ZdM
 rcases Z3c x.r y.r with ⟨h1, e1⟩ | ⟨h1, e1⟩ | ⟨h1, e1⟩ <;> rw [e1] <;>
  first | exact iff_of_true (by decide) (by omega) | exact iff_of_false (by decide) (by omega)
theorem ZcF : SWO (ltOf Zcn) := by
 refine ⟨fun x => ?_, fun x y z h1 h2 => ?_, fun x y z h1 h2 => ?_⟩
 ·rw [Z4X]; exact decide_eq_false (by unfold ZdM; omega)
 ·rw [Z4X] at *
  have := of_decide_eq_true h1; have := of_decide_eq_true h2
  unfold ZdM at *
  exact decide_eq_true (by omega)
 ·rw [Z4X] at *
  have := of_decide_eq_false h1; have := of_decide_eq_false h2
  unfold ZdM at *
  exact decide_eq_false (by omega)
theorem Zal (blk off size : Nat) (w : World) {fb : Nat} (hne : fb ≠ blk) (hfb : (Z0 fb 127 [.func (.func 45) #[] #[]]).ok w) : CmpLays Tryz.prog 91 #[.pointer (some ⟨fb, 0, none⟩)] Z0p 6 Zcn blk off size w := fun m os dk _ x y =>
 (ZbK (sortWorldK Z0p 6 w blk off m dk os) x y fb ((Z0 fb _ _).stay hfb fun b hb => by
  rw [show b = fb from hb]
  have hlt := (Z0 fb _ _).lt hfb fb rfl
  unfold sortWorldK putRowK putRow mapBlock grow Sort.ahead
  simp only [Array.getElem?_append, Array.size_modify, hlt, if_true, Array.getElem?_modify]
  rw [if_neg (fun e => hne e.symm)])).mono fun _ _ h => ⟨h.1, h.2.2⟩
theorem ZbD (w : World) (g c : Nat) (D : List PrR) (hv : (Zc 71 6 (.slice (some ⟨g, 0, none⟩) D.length c) D.length (D.flatMap Z0p)).ok w) (h12 : D.length ≤ 12) (fb : Nat) (hne : fb ≠ g) (hfb : (Z0 fb 127 [.func (.func 45) #[] #[]]).ok w) :
  Calls Tryz.prog 90 #[.slice (some ⟨g, 0, none⟩) D.length c, .func (.func 91) #[] #[.pointer (some ⟨fb, 0, none⟩)]] w fun e w' => e = .returned (.tuple #[]) ∧ ∃ D' : List PrR, D'.Perm D ∧ (D'.Pairwise fun a b => ¬ ZdM b a) ∧ (Zc 71 6 (.slice (some ⟨g, 0, none⟩) D.length c) D.length (D'.flatMap Z0p)).ok w' ∧ Upd [g] w w' := by
 obtain ⟨A, rfl⟩ : ∃ A : List PrR, A = D := ⟨D, rfl⟩
 have hg : g < w.heap.size := (Zc _ _ _ _ _).lt hv g rfl
 obtain ⟨cur, hb, hnc, hcm, hcs, htk⟩ : ∃ cur, w.heap[g]? = some (.cells cur 71 (0, 0)) ∧ A.length ≤ c ∧ c ≤ maxLen ∧ cur.size = c * 6 ∧ cur.toList.take (A.length * 6) = A.flatMap Z0p := by
  rcases hv.2 with ⟨h, _⟩ | ⟨g', c', cur, h, _, h1, h2, h3, h4, h5⟩
  ·cases h
  ·simp only [Value.slice.injEq, Option.some.injEq, Addr.mk.injEq] at h
   obtain ⟨⟨rfl, _⟩, _, rfl⟩ := h
   exact ⟨cur, h1, h2, h3, h4, h5⟩
 have hH : HoldsK Z0p 6 w g 0 A.toArray := fun j hj => by
  have hj' : j < A.length * 6 := by simpa using hj
  have hq : j / 6 < A.length := (Nat.div_lt_iff_lt_mul (by omega)).2 hj'
  refine ⟨?_, ?_⟩
  ·rw [get_flatK _ _ _ _ (by simpa using hj')]
   have hx : A.toArray[j / 6]! = A[j / 6] := by rw [getElem!_pos A.toArray (j / 6) (by simpa using hq)]; simp
   rw [hx]
   refine Z1x (enc := Z0p) hv rfl Z26 (i := j / 6) (x := A[j / 6]) (List.getElem?_eq_getElem hq) (j % 6) (by have := Nat.mod_lt j (show 0 < 6 by omega); simp [Nat.blt_eq, this]) (by omega) ?_
   have hm : j % 6 < (Z0p A[j / 6]).length := by rw [Z26]; omega
   rw [List.getElem?_eq_getElem hm, getElem!_pos (Z0p A[j / 6]) _ hm]; rfl
  ·unfold World.frozen?
   rw [hb]; simp
 have hbl : ∀ (n : Nat) (W : World), n ≤ 12 → Calls Tryz.prog (sortP_ren.f 15) #[.int .u64 n] W fun e w' => (∃ l : Int, e = .returned (.int .i64 l)) ∧ w' = W := fun n W hn =>
  (Any.bits_Len Z7O n W (by omega) (by omega)).mono fun _ _ ⟨he, hw⟩ => ⟨⟨_, he⟩, hw⟩
 have h := AnyQ.slices_SortFunc_small_sorted (P := Tryz.prog) sortP 6 Tryz.isAgg71 Tryz.sizeOf71 Z0p Z26 (fun x v hv => List.all_eq_true.1 (Z5s x) v hv) Zcn 91 #[.pointer (some ⟨fb, 0, none⟩)] ZcF g 0 c A.toArray w (enters_of Tryz.func91 (by kernel_rfl) rfl) (Zal g 0 _ w hne hfb) hH hg (by simpa using h12) hbl
 rw [show A.toArray.size = A.length from List.size_toArray ..] at h
 refine h.mono fun e w' ⟨he, d', n, os, hp, hs, hw⟩ => ?_
 have hsz : d'.size = A.length := by simpa using hp.1
 have hp2 : d'.toList.Perm A := by
  have := hp.2.2
  have e1 : d'.extract 0 A.length = d' := by rw [← hsz]; exact Array.extract_size
  have e2 : A.toArray.extract 0 A.length = A.toArray := Array.extract_size (xs := A.toArray)
  rw [e1, e2] at this
  exact this
 refine ⟨he, d'.toList, hp2, ?_, ?_, ?_⟩
 ·rw [List.pairwise_iff_getElem]
  intro i j hi hj hij
  have hi' : i < d'.size := by simpa using hi
  have hj' : j < d'.size := by simpa using hj
  have := hs i j (Nat.zero_le _) hij (by omega)
  rw [getElem!_pos d' i hi', getElem!_pos d' j hj'] at this
  rw [Z4X] at this
  have h5 := of_decide_eq_false this
  rwa [Array.getElem_toList, Array.getElem_toList]
 ·obtain ⟨q1, q2⟩ := Z3D Z0p 6 Z26 (by omega) d' cur (by rw [hsz, hcs]; exact Nat.mul_le_mul_right _ hnc)
  refine ⟨by rw [Z0A Z0p 6 Z26]; simp [hsz], .inr ⟨g, c, putCells id 0 (flatK Z0p 6 d') cur, rfl, Nat.zero_le _, ?_, hnc, hcm, by rw [q1, hcs], by rw [← hsz]; exact q2⟩⟩
  rw [hw]
  unfold sortWorldK putRowK putRow mapBlock grow Sort.ahead
  simp only [Array.getElem?_append, Array.size_modify, hg, if_true, Array.getElem?_modify]
  rw [hb]; rfl
 ·subst hw
  refine ⟨rfl, rfl, rfl, size_sortWorldK_c _ _ _ _ _ _ _ _, fun k hk hne => ?_⟩
  have hne : g ≠ k := fun e => hne (by simp [e])
  unfold sortWorldK putRowK putRow mapBlock grow Sort.ahead
  simp only [Array.getElem?_append, Array.size_modify, hk, if_true, Array.getElem?_modify, if_neg hne]
theorem Z8S (w : World) (a : Option Addr) (c : Nat) (D : List PrR) (fb : Nat) (hv : (ZR [Zc 71 6 (.slice a D.length c) D.length (D.flatMap Z0p), Z0 fb 127 [.func (.func 45) #[] #[]]]).ok w) (h12 : D.length ≤ 12) :
  Calls Tryz.prog 90 #[.slice a D.length c, .func (.func 91) #[] #[.pointer (some ⟨fb, 0, none⟩)]] w fun e w' => ∃ D' : List PrR, e = .returned (.tuple #[]) ∧ D'.Perm D ∧ (D'.Pairwise fun a b => ¬ ZdM b a) ∧ Sat w [Zc 71 6 (.slice a D'.length c) D'.length (D'.flatMap Z0p), Z0 fb 127 [.func (.func 45) #[] #[]], Z3 w (ZR [Zc 71 6 (.slice a D.length c) D.length (D.flatMap Z0p), Z0 fb 127 [.func (.func 45) #[] #[]]]).fp] w' := by
 have H := Sat.start _ hv
 cases hD : D with
 | nil =>
  subst hD
  refine (Zb3 a c (.func (.func 91) #[] #[.pointer (some ⟨fb, 0, none⟩)]) w).mono fun e w' ⟨he, hw⟩ => ?_
  subst hw
  exact ⟨[], he, List.Perm.refl _, List.Pairwise.nil, H⟩
 | cons x D0 =>
  rw [← hD]
  have hv0 := hv.1 _ List.mem_cons_self
  have hv1 := hv.1 _ (List.mem_cons_of_mem _ List.mem_cons_self)
  obtain ⟨g, c', hs⟩ := Z0z hv0 (by rw [hD]; simp)
  simp only [Value.slice.injEq] at hs
  obtain ⟨rfl, _, rfl⟩ := hs
  have hne : fb ≠ g := fun e => (List.pairwise_cons.1 hv.2).1 _ List.mem_cons_self g rfl e.symm
  refine (ZbD w g c D hv0 h12 fb hne hv1).mono fun e w' ⟨he, D', hp, hs, hok, hu⟩ => ?_
  have hl := hp.length_eq
  refine ⟨D', he, hp, hs, ?_⟩
  rw [hl]
  exact H.setU hu 0 rfl (by rintro b' hb; rw [List.mem_singleton.1 hb]; rfl) hok (fun b hb => .inl hb)
end Go.Proofs.YtenihpghfdcpkaaGreat
namespace Go.Proofs.YtenihpghfdcpkaaGreat
open Go.RowKit
abbrev ZdF (p0 : PrR) : List Value := ([(.int .i64 p0.r), (.int .i64 p0.e), (.int .u64 p0.f), (.slice p0.ca p0.C.length p0.cc), (.int .i64 p0.sb), (.int .i64 p0.sm)] : List Value)
theorem ZcJ (w : World) (p : PrR) :
  Calls Tryz.prog 45 #[(.agg ⟨([(.int .i64 (p.r)), (.int .i64 (p.e)), (.int .u64 (p.f)), ((.slice p.ca p.C.length p.cc)), (.int .i64 (p.sb)), (.int .i64 (p.sm))] : List Value)⟩)] w fun e w' => e = .returned (.int .i64 p.r) ∧ Upd [] w w' := by
 have H := Sat.start0 w
 refine Z8 Tryz.func45 rfl 5 rfl (Nat.le_of_ble_eq_true rfl) ?_
 refine zsl <| zwd fun Kq kq => zdb (ZdF p) H fun b2 w3 H4 => ?_
 refine kq _ _ <| wv 2 (.int .i64 (0)) <| Z0y <| wv 3 (pt b2 0) <| zw1 4 (.int .i64 (p.r)) (H4.cell 1 rfl rfl) <| wv 2 (.int .i64 (p.r)) <| znt <| Zq <| ze1 (.int .i64 (p.r)) ?_
 exact ⟨rfl, H4.upd 0 rfl [] (fun _ h => h.elim)⟩
theorem ZbI (w : World) (p : PrR) (s tb : Nat) (F c E last T : Int) (hF : 1 ≤ F ∧ F ≤ 1099511627776) (vm vo : Value) (hs : (Z0 s 54 [.int .i64 F, .int .i64 c, .int .i64 E, .int .u64 last, vm, vo]).ok w) (ht : (Z0 tb 25 [.int .u64 T]).ok w) :
  Calls Tryz.prog 42 #[(.agg ⟨([(.int .i64 (p.r)), (.int .i64 (p.e)), (.int .u64 (p.f)), ((.slice p.ca p.C.length p.cc)), (.int .i64 (p.sb)), (.int .i64 (p.sm))] : List Value)⟩), (.pointer (some ⟨s, 0, none⟩)), (.pointer (some ⟨tb, 0, none⟩))] w fun e w' => e = .returned (.bool (inB F p.r && decide (p.e = E) && decide (p.f = T))) ∧ Upd [] w w' := by
 have H := Sat.start0 w
 refine Z8 Tryz.func42 rfl 23 rfl (Nat.le_of_ble_eq_true rfl) ?_
 refine zsl <| zwd fun Kq kq => zdb (ZdF p) H fun b2 w3 H4 => ?_
 refine kq _ _ <| wv 4 (.bool false) <| Z0y <| wv 5 (pt s 0) <| zwN 6 ([(.int .i64 (F)), (.int .i64 (c))] : List Value) (H4.roCells 0 rfl hs (fun h => h)) <| wv 7 (pt b2 0) <| zw1 8 (.int .i64 (p.r)) (H4.cell 1 rfl rfl) <| zwd fun Kq kq => zdq 9 (ZcB w3 F c p.r (by omega)) H4 fun w6 H7 => ?_
 refine kq _ _ <| wv 10 (.bool (inB F p.r)) ?_
 refine (ZJ (inB F p.r)).elim (fun b9 => ?_) (fun b9 => ?_)
 ·refine Z06 10 (.bool true) (congrArg Value.bool b9) ?_
  refine wy 5 10 true 11 (pt b2 1) <| wy 5 10 true 12 (.int .i64 (p.e)) ?_ (hr := zl1 (H7.cell 1 rfl rfl))
  refine wy 5 10 true 13 (pt s 2) <| wy 5 10 true 14 (.int .i64 (E)) ?_ (hr := zl1 (H7.roCell 0 rfl hs (fun h => h) rfl))
  refine wy 5 10 true 15 (.bool (decide (p.e = E))) <| wv 16 (.bool (decide (p.e = E))) <| wv 17 (.bool (decide (p.e = E))) ?_
  refine (ZJ (decide (p.e = E))).elim (fun b10 => ?_) (fun b10 => ?_)
  ·have g11 := of_decide_eq_true b10
   refine Z06 17 (.bool true) (congrArg Value.bool b10) ?_
   refine wy 12 17 true 18 (pt b2 2) <| wy 12 17 true 19 (.int .u64 (p.f)) ?_ (hr := zl1 (H7.cell 1 rfl rfl))
   refine wy 12 17 true 20 (.int .u64 (T)) ?_ (hr := zl1 (H7.roCell 0 rfl ht (fun h => h) rfl))
   refine wy 12 17 true 21 (.bool (decide (p.f = T))) <| wv 22 (.bool (decide (p.f = T))) <| wv 4 (.bool (decide (p.f = T))) <| znt <| Zq <| ze1 (.bool (decide (p.f = T))) ?_
   exact ⟨by simp [b9, b10], H7.upd 0 rfl [] (fun _ h => h.elim)⟩
  have g13 := of_decide_eq_false b10
  refine Z06 17 (.bool false) (congrArg Value.bool b10) ?_
  iterate 4 refine wn 12 17 true ?_
  refine wv 22 (.bool false) <| wv 4 (.bool false) <| znt <| Zq <| ze1 (.bool false) ?_
  exact ⟨by simp [b9, b10], H7.upd 0 rfl [] (fun _ h => h.elim)⟩
 refine Z06 10 (.bool false) (congrArg Value.bool b9) ?_
 iterate 5 refine wn 5 10 true ?_
 refine wv 16 (.bool false) <| wv 17 (.bool false) ?_
 iterate 4 refine wn 12 17 true ?_
 refine wv 22 (.bool false) <| wv 4 (.bool false) <| znt <| Zq <| ze1 (.bool false) ?_
 exact ⟨by simp [b9], H7.upd 0 rfl [] (fun _ h => h.elim)⟩
abbrev ZeG (p0 : Option Addr) (p1 : List PrR) (p2 : Nat) : Ck := Zc 71 6 (.slice p0 p1.length p2) p1.length (p1.flatMap Z0p)
abbrev Z58 (p0 : PrR) (p1 : Nat) : List Value := ([(.int .i64 p0.r), (.int .i64 p0.e), (.int .u64 p0.f), (.slice p0.ca p1 p0.cc), (.int .i64 p0.sb), (.int .i64 p0.sm)] : List Value)
abbrev ZeU : List Value := ([(.int .i64 (0)), (.int .i64 (0)), (.int .u64 (0)), (.slice none 0 0), (.int .i64 (0)), (.int .i64 (0))] : List Value)
def Z7o (F E T : Int) (p : PrR) : Bool := inB F p.r && decide (p.e = E) && decide (p.f = T)
theorem ZbG (w : World) (la : Option Addr) (lc : Nat) (L : List PrR) (hL : ListAt Z0p 6 w (.slice la L.length lc) L) (hlL : L.length ≤ 1000) (m : Nat) (s tb : Nat) (F c E last T : Int) (hF : 1 ≤ F ∧ F ≤ 1099511627776) (vm vo : Value) (hs : (Z0 s 54 [.int .i64 F, .int .i64 c, .int .i64 E, .int .u64 last, vm, vo]).ok w) (ht : (Z0 tb 25 [.int .u64 T]).ok w) (h12 : (Z13 (fun x : PrR => x.r) (Z7o F E T) L).length ≤ 12) :
  Calls Tryz.prog 44 #[(.slice la L.length lc), (.func (.func 45) #[] #[]), (.func (.func 42) #[] #[(.pointer (some ⟨s, 0, none⟩)), (.pointer (some ⟨tb, 0, none⟩))]), (.int .i64 ((m : Int)))] w fun e w' => ∃ (oa : Option Addr) (oc : Nat) (D : List PrR), e = .returned (.slice oa (D.take m).length oc) ∧ SortN (fun x : PrR => x.r) (Z7o F E T) L D ∧ D.length ≤ L.length ∧ (Zc 71 6 (.slice oa (D.take m).length oc) (D.take m).length ((D.take m).flatMap Z0p)).ok w' ∧ Upd [] w w' ∧ ∀ q_, (Zc 71 6 (.slice oa (D.take m).length oc) (D.take m).length ((D.take m).flatMap Z0p)).fp q_ → w.heap.size ≤ q_ := by
 have H := Sat.start0 w
 have hcap := ListAt.cap hL
 refine Z8 Tryz.func44 rfl 49 rfl (Nat.le_of_ble_eq_true rfl) ?_
 refine zsl <| zwd fun Kq kq => zdb ([(.func (.func 45) #[] #[])] : List Value) H fun b2 w3 H4 => ?_
 refine kq _ _ <| wv 8 (.slice none 0 0) <| Z0y <| zwd fun Kq kq => Z2s (Value.int .i64) Value.bool rfl H4 fun b6 w7 H8 => ?_
 refine kq _ _ <| wv 9 (.map (some b6)) <| Z0y <| wv 10 (.slice none 0 0) <| znt <| Z5 <| zsl <| wv 15 (.slice la L.length lc) <| wv 16 (.int .i64 ((L.length : Int))) <| wv 17 (.int .i64 (0)) ?_
 refine znt <| Za ?_
 have H9 := H8.addNil 71 6
 refine Zw ([10, 12, 13] ++ List.range' 17 23) (fun F_ W_ m_ => ∃ (i : Nat) (HV : List (Int × Bool)) (oa : Option Addr) (oc : Nat) (O : List PrR), F_ 17 = (.int .i64 ((i : Int))) ∧ F_ 10 = (.slice oa O.length oc) ∧ (i ≤ L.length) ∧ (O = Z13 (fun x : PrR => x.r) (Z7o F E T) (L.take i)) ∧ (HvOk HV (fun x : PrR => x.r) O) ∧ (O.length ≤ i) ∧ Sat w [Z3 w (fun _ => False), Z0 b2 127 ([(.func (.func 45) #[] #[])] : List Value), Z0B b6 (Value.int .i64) Value.bool HV, (ZeG oa O oc)] W_ ∧ m_ = L.length - i) _ ⟨0, [], none, 0, [], (show ((.int .i64 (0)) : Value) = _ by first | rfl | go_num), (by first | rfl | go_num), (Nat.zero_le _), rfl, HvOk.nil, (Nat.zero_le _), H9, rfl⟩ ?_
 rintro g10 w11 _ ⟨i, HV, oa, oc, O, v13, v14, hi, hO, hhv, hOl, H12, rfl⟩
 refine Zd 17 _ v13 ?_
 refine Zd 10 _ v14 ?_
 refine zsl <| wv 18 (.bool (decide ((i : Int) < (L.length : Int)))) <| znt <| Z5 ?_
 refine (ZJ (decide ((i : Int) < (L.length : Int)))).elim (fun b16 => ?_) (fun b16 => ?_)
 ·have g17 := of_decide_eq_true b16
  refine Z33 _ b16 ?_
  refine Zt <| ztn <| Z5 <| Za <| zsl ?_
  obtain ⟨g19, o20, c21, e22, R23⟩ := SliceOf.atD hL pr0 (show i < L.length by omega)
  refine wv 19 (.pointer (some ⟨g19, o20 + ((i : Int)).toNat * 6, none⟩)) ?_ (hr := Zh (E := 71) (by kernel_rfl) (by kernel_rfl) (Nat.le_of_ble_eq_true rfl) rfl e22 rfl (by omega) (by omega))
  refine wv 20 (.agg ⟨(Z58 (L.getD i pr0) ((L.getD i pr0).C.length))⟩) ?_ (hr := Z05 (vs := (Z58 (L.getD i pr0) ((L.getD i pr0).C.length))) rfl (by kernel_rfl) (by kernel_rfl) (Nat.le_of_ble_eq_true (by kernel_rfl)) (H12.runR 0 rfl (Z0W R23 0 (by kernel_rfl) (show o20 + ((i : Int)).toNat * 6 = o20 + i * 6 + 0 by omega)) (fun h => h)))
  refine zwd fun Kq kq => zda (ZeU) H12 fun b25 w26 H27 => ?_
  refine kq _ _ <| zwd fun Kq kq => Z1z (Z58 (L.getD i pr0) ((L.getD i pr0).C.length)) H27 4 fun w29 H30 => ?_
  refine kq _ _ <| Z0y <| zw1 21 (.func (.func 45) #[] #[]) (H30.cell 1 rfl rfl) <| zwN 22 (Z58 (L.getD i pr0) ((L.getD i pr0).C.length)) (H30.at 4 rfl) <| zwd fun Kq kq => zdq 23 (ZcJ w29 (L.getD i pr0)) H30 fun w33 H34 => ?_
  refine kq _ _ <| wv 13 (.int .i64 ((L.getD i pr0).r)) <| Z0y <| wv 24 (.map (some b6)) <| wv 25 (.int .i64 ((L.getD i pr0).r)) <| wv 26 (.bool ((Zp HV ((L.getD i pr0).r)).getD false)) ?_ (hr := Z35 (kt := 3) (et := 4) (KeyTy.int (by kernel_rfl)) (by kernel_rfl) (fun w => by kernel_rfl) rfl ((L.getD i pr0).r) rfl (H34.at 2 rfl) (ZaW Value.bool _ _))
  refine wv 27 (.bool (!((Zp HV ((L.getD i pr0).r)).getD false))) <| wv 28 (.bool (!((Zp HV ((L.getD i pr0).r)).getD false))) ?_
  refine (ZJ (!((Zp HV ((L.getD i pr0).r)).getD false))).elim (fun b36 => ?_) (fun b36 => ?_)
  ·have g37 := ZS b36
   refine Z06 28 (.bool true) (congrArg Value.bool b36) ?_
   refine wy 4 28 true 29 (.func (.func 42) #[] #[(pt s 0), (pt tb 0)]) <| wy 4 28 true 30 (.agg ⟨(Z58 (L.getD i pr0) ((L.getD i pr0).C.length))⟩) ?_ (hr := zlN (vs := (Z58 (L.getD i pr0) ((L.getD i pr0).C.length))) (H34.at 4 rfl))
   refine Z5I (Z11 4 28 true rfl (by kernel_rfl) rfl (by kernel_rfl)) (fun Kq kq => ?_)
   refine zdq 31 (ZbI w33 (L.getD i pr0) s tb F c E last T hF vm vo (H34.roCk 0 rfl hs (fun _ _ h => h)) (H34.roCk 0 rfl ht (fun _ _ h => h))) H34 ?_
   intro w40 H41
   refine kq _ _ <| wv 32 (.bool (Z7o F E T (L.getD i pr0))) <| znt ?_
   refine (ZJ (Z7o F E T (L.getD i pr0))).elim (fun b43 => ?_) (fun b43 => ?_)
   ·refine Z33 _ b43 ?_
    refine zsl <| wv 33 (.map (some b6)) <| wv 34 (.int .i64 ((L.getD i pr0).r)) <| zwd fun Kq kq => Z0F (kt := 3) (et := 4) rfl H41 2 rfl (KeyTy.int (by kernel_rfl)) (by kernel_rfl) rfl ((L.getD i pr0).r) rfl true rfl fun w45 H46 => ?_
    refine kq _ _ <| znt <| Zl <| wv 35 (.slice oa O.length oc) <| zwN 36 (Z58 (L.getD i pr0) ((L.getD i pr0).C.length)) (H46.at 4 rfl) <| zwd fun Kq kq => Z2w 71 6 64 (.agg ⟨(ZeU)⟩) [(0, (.agg ⟨(Z58 (L.getD i pr0) ((L.getD i pr0).C.length))⟩))] (Z58 (L.getD i pr0) ((L.getD i pr0).C.length)) H46 fun b48 w49 H50 => ?_
    have H51 := H50.ct 5 rfl (Zc 71 6 (.slice (some ⟨b48, 0, none⟩) 1 1) 1 ([(L.getD i pr0)].flatMap Z0p)) (by rw [(show ((Z58 (L.getD i pr0) ((L.getD i pr0).C.length)) : List Value) = [(L.getD i pr0)].flatMap Z0p by kernel_rfl)])
    refine kq _ _ <| zwd fun Kq kq => Z00 (T := 41) (e := 71) (size := 6) (bytes := 64) rfl H51 (by kernel_rfl) 3 5 rfl rfl rfl rfl (ZX Z0p Z5s [(L.getD i pr0)]) (by omega) (by omega) fun v53 w54 H55 => ?_
    have H58 := H55.ct 3 rfl (Zc 71 6 v53 ((O ++ [(L.getD i pr0)]).length) ((O ++ [(L.getD i pr0)]).flatMap Z0p)) ja
    obtain ⟨a56, c57, rfl⟩ := Z2 (H58.at 3 rfl)
    refine kq _ _ <| wv 10 (.slice a56 ((O ++ [(L.getD i pr0)]).length) c57) <| Zu <| Z7 <| ztn <| Zl <| zwi 39 ((i : Int) + 1) <| wv 17 (.int .i64 ((i : Int) + 1)) <| Zu ?_
    have H59 := H58.pk [0, 1, 2, 3]
    refine Z6 ?_ _ ⟨(i + 1), (Z2j HV ((L.getD i pr0).r) true), a56, c57, (O ++ [(L.getD i pr0)]), rfl, (show ((.slice a56 ((O ++ [(L.getD i pr0)]).length) c57) : Value) = _ by first | rfl | go_num), (by omega), (by rw [Z1g (show L[i]? = some (L.getD i pr0) by rw [List.getD_eq_getElem?_getD, List.getElem?_eq_getElem (show i < L.length by omega)]; rfl), ← hO]; exact (Z6t (by rw [← hhv]; exact (by have q := b36; simpa using q)) b43).symm), (HvOk.put (num := (fun x : PrR => x.r)) (x := (L.getD i pr0)) hhv), (by first | omega | (simp only [List.length_append, List.length_cons, List.length_nil]; omega)), H59, rfl⟩ (by omega)
    exact zs
   refine Z2X _ b43 ?_
   refine Zt <| Z7 <| ztn <| Zl <| zwi 39 ((i : Int) + 1) <| wv 17 (.int .i64 ((i : Int) + 1)) <| Zu ?_
   have H60 := H41.pk [0, 1, 2, 3]
   refine Z6 ?_ _ ⟨(i + 1), HV, oa, oc, O, rfl, rfl, (by omega), (by rw [Z1g (show L[i]? = some (L.getD i pr0) by rw [List.getD_eq_getElem?_getD, List.getElem?_eq_getElem (show i < L.length by omega)]; rfl), ← hO]; exact (Z6p b43).symm), hhv, (by first | omega | (simp only [List.length_append, List.length_cons, List.length_nil]; omega)), H60, rfl⟩ (by omega)
   exact zs
  have g61 := Zr b36
  refine Z06 28 (.bool false) (congrArg Value.bool b36) ?_
  iterate 3 refine wn 4 28 true ?_
  refine wv 32 (.bool false) <| znt <| Z2O rfl ?_
  refine Zt <| Z7 <| ztn <| Zl <| zwi 39 ((i : Int) + 1) <| wv 17 (.int .i64 ((i : Int) + 1)) <| Zu ?_
  have H63 := H34.pk [0, 1, 2, 3]
  refine Z6 ?_ _ ⟨(i + 1), HV, oa, oc, O, rfl, rfl, (by omega), (by rw [Z1g (show L[i]? = some (L.getD i pr0) by rw [List.getD_eq_getElem?_getD, List.getElem?_eq_getElem (show i < L.length by omega)]; rfl), ← hO]; exact (Z6C (by rw [← hhv]; exact (by have q := b36; simpa using q))).symm), hhv, (by first | omega | (simp only [List.length_append, List.length_cons, List.length_nil]; omega)), H63, rfl⟩ (by omega)
  exact zs
 have g64 := of_decide_eq_false b16
 refine Z2X _ b16 ?_
 refine zxb <| ztn <| zsl <| wv 40 (.slice oa O.length oc) <| wv 41 (.func (.func 91) #[] #[(pt b2 0)]) <| zwd fun Kq kq => ?_
 have hiL : i = L.length := by omega
 rw [hiL, List.take_length] at hO
 refine zdc 42 (Z8S w11 oa oc O b2 (H12.fn [3, 1]) (by rw [hO]; exact h12)) ?_
 rintro _ w67 ⟨D, rfl, p68, s69, T70⟩
 have hDl : D.length ≤ L.length := by have q := p68.length_eq; omega
 have H71 := H12.tl [(ZeG oa D oc), Z0 b2 127 ([(.func (.func 45) #[] #[])] : List Value)] [3, 1] [0, 2] T70 [2, 1, 3, 0]
 refine ⟨_, rfl, ?_⟩
 refine kq _ _ <| znt <| Z5 <| Zd 10 (.slice oa D.length oc) (show ((.slice oa O.length oc) : Value) = _ by rw [p68.length_eq]) ?_
 have hcD := ListAt.cap (ListAt.row (enc := Z0p) (sz := 6) Z26 (by decide) (H71.at 3 rfl))
 refine Zl <| wv 43 (.slice oa D.length oc) <| wv 44 (.slice oa D.length oc) <| wv 45 (.int .i64 ((D.length : Int))) <| wv 46 (.int .i64 ((m : Int))) <| wv 47 (.int .i64 (((min D.length m : Nat) : Int))) ?_ (hr := Zfy (k := .i64) (a := (D.length : Int)) (b := (m : Int)) (z := ((min D.length m : Nat) : Int)) rfl rfl (by omega))
 refine wv 48 (.slice oa (min D.length m) oc) ?_ (hr := Z6G (E := 71) (q := (min D.length m)) (by kernel_rfl) (by kernel_rfl) rfl rfl (by omega) (by omega))
 refine wv 8 (.slice oa (min D.length m) oc) <| znt <| Zq <| ze1 (.slice oa (min D.length m) oc) ?_
 exact ⟨oa, oc, D, by rw [show min D.length m = (D.take m).length by rw [List.length_take, Nat.min_comm]], SortN.of (lt := ZdM) (by rw [← hO]; exact p68) (s69.imp fun h => h), hDl, Z5V Z26 (H71.at 3 rfl), H71.upd 0 rfl [] (fun _ h => h.elim), (fun q_ hq_ => H71.fresh 0 rfl (fun _ h => h) 3 rfl rfl q_ (by cases oa with | none => exact hq_ | some _ => exact hq_))⟩
end Go.Proofs.YtenihpghfdcpkaaGreat
