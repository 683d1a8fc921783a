/- WHAT IS PROVED: contracts and plain laws of UniM, LaidP, Fst12, Sort0P, SortP12, Mk12. Conditions: stated with each. -/
import Derived.Test.YtenihpghfdcpkaaGreatPO02
import Derived.Test.YtenihpghfdcpkaaGreatPO05
import Derived.Test.YtenihpghfdcpkaaGreatPO08
import Derived.Test.YtenihpghfdcpkaaGreatPO17
import Derived.Test.YtenihpghfdcpkaaGreatPO20
import Derived.Test.YtenihpghfdcpkaaGreatPO23
import Derived.Test.YtenihpghfdcpkaaGreatPO24
set_option maxHeartbeats 4000000
set_option maxRecDepth 100000
namespace Go.Proofs.YtenihpghfdcpkaaGreat
open Go.RowKit
section
variable {last tm : Int} {lg : NmD → Bool} {M : Zbh} {Z : List CeR} {c : CeR} {n : NmD} {e : Z1q}
theorem Zdg (h : (n, e) ∈ Z4i last tm lg M (Z1o c)) : (n, e) ∈ M ∨ (Z3L last tm lg (Z1o c) = false ∧ n = Z5G (Z1o c) ∧ e = Z1o c) := by
 unfold Z4i at h
 by_cases hs : Z3L last tm lg (Z1o c) = true
 ·rw [if_pos hs] at h; exact .inl h
 ·have hs' : Z3L last tm lg (Z1o c) = false := by simpa using hs
  rw [if_neg hs] at h
  split at h
  ·rcases Z5y h with q | q
   ·simp only [Prod.mk.injEq] at q; exact .inr ⟨hs', q.1, q.2⟩
   ·exact .inl q
  ·split at h
   ·rcases Z5y h with q | q
    ·simp only [Prod.mk.injEq] at q; exact .inr ⟨hs', q.1, q.2⟩
    ·exact .inl q
   ·exact .inl h
theorem Zfu (h : (n, e) ∈ Z7n last tm lg Z) : ∃ c ∈ Z, Z3L last tm lg (Z1o c) = false ∧ n = Z5G (Z1o c) ∧ e = Z1o c := by
 have key : ∀ (L : List CeR) (M : Zbh), (n, e) ∈ L.foldl (fun M c => Z4i last tm lg M (Z1o c)) M → (n, e) ∈ M ∨ ∃ c ∈ L, Z3L last tm lg (Z1o c) = false ∧ n = Z5G (Z1o c) ∧ e = Z1o c := by
  intro L
  induction L with
  | nil => intro M h; exact .inl h
  | cons c L ih =>
   intro M h
   rw [List.foldl_cons] at h
   rcases ih _ h with q | ⟨d, hd, r⟩
   ·rcases Zdg q with q | q
    ·exact .inl q
    ·exact .inr ⟨c, by simp, q⟩
   ·exact .inr ⟨d, by simp [hd], r⟩
 rcases key Z [] h with q | q
 ·simp at q
 ·exact q
end
end Go.Proofs.YtenihpghfdcpkaaGreat
namespace Go.Proofs.YtenihpghfdcpkaaGreat
open Go.RowKit Go.Shelf
def sortP_ren : Go.Shelf.Ren := ⟨fun | 6 => 90 | 15 => 102 | 14 => 119 | 28 => 136 | 29 => 137 | 20 => 149 | 21 => 150 | 22 => 151 | 23 => 152 | 24 => 153 | 25 => 154 | 26 => 155 | 27 => 156 | 46 => 193 | 47 => 182 | 48 => 183 | 49 => 194 | 50 => 195 | 57 => 214 | n => n, fun | 22 => 41 | 24 => 71 | 25 => 183 | 3 => 3 | 39 => 108 | 0 => 0 | 53 => 198 | 55 => 25 | 4 => 4 | 46 => 222 | 45 => 221 | 50 => 226 | 5 => 5 | 9 => 9 | 66 => 257 | 70 => 261 | 76 => 281 | 77 => 282 | n => n, fun | n => n⟩
theorem sortP : Go.Proofs.SlLaysF0.n6 Tryz.prog sortP_ren := {
 mixed := by kernel_rfl,
 f6 := ⟨Tryz.f90.name, by decide, Tryz.func90.trans (congrArg some (by kernel_rfl))⟩,
 f14 := ⟨Tryz.f119.name, by decide, Tryz.func119.trans (congrArg some (by kernel_rfl))⟩,
 f15 := Tryz.func102.trans (congrArg some (by kernel_rfl)),
 f20 := ⟨Tryz.f149.name, by decide, Tryz.func149.trans (congrArg some (by kernel_rfl))⟩,
 f21 := ⟨Tryz.f150.name, by decide, Tryz.func150.trans (congrArg some (by kernel_rfl))⟩,
 f22 := ⟨Tryz.f151.name, by decide, Tryz.func151.trans (congrArg some (by kernel_rfl))⟩,
 f23 := ⟨Tryz.f152.name, by decide, Tryz.func152.trans (congrArg some (by kernel_rfl))⟩,
 f24 := ⟨Tryz.f153.name, by decide, Tryz.func153.trans (congrArg some (by kernel_rfl))⟩,
 f25 := ⟨Tryz.f154.name, by decide, Tryz.func154.trans (congrArg some (by kernel_rfl))⟩,
 f26 := ⟨Tryz.f155.name, by decide, Tryz.func155.trans (congrArg some (by kernel_rfl))⟩,
 f27 := ⟨Tryz.f156.name, by decide, Tryz.func156.trans (congrArg some (by kernel_rfl))⟩,
 f28 := Tryz.func136.trans (congrArg some (by kernel_rfl)),
 f29 := Tryz.func137.trans (congrArg some (by kernel_rfl)),
 f46 := ⟨Tryz.f193.name, by decide, Tryz.func193.trans (congrArg some (by kernel_rfl))⟩,
 f47 := Tryz.func182.trans (congrArg some (by kernel_rfl)),
 f48 := Tryz.func183.trans (congrArg some (by kernel_rfl)),
 f49 := ⟨Tryz.f194.name, by decide, Tryz.func194.trans (congrArg some (by kernel_rfl))⟩,
 f50 := ⟨Tryz.f195.name, by decide, Tryz.func195.trans (congrArg some (by kernel_rfl))⟩,
 f57 := ⟨Tryz.f214.name, by decide, Tryz.func214.trans (congrArg some (by kernel_rfl))⟩,
 t0 := Tryz.underlying0,
 a0 := Tryz.isAgg0,
 z0 := Tryz.sizeOf0,
 v0 := Tryz.zeroValue0,
 t3 := Tryz.underlying3,
 a3 := Tryz.isAgg3,
 z3 := Tryz.sizeOf3,
 v3 := Tryz.zeroValue3,
 t4 := Tryz.underlying4,
 a4 := Tryz.isAgg4,
 z4 := Tryz.sizeOf4,
 v4 := Tryz.zeroValue4,
 t5 := Tryz.underlying5,
 a5 := Tryz.isAgg5,
 z5 := Tryz.sizeOf5,
 v5 := Tryz.zeroValue5,
 t9 := Tryz.underlying9,
 a9 := Tryz.isAgg9,
 z9 := Tryz.sizeOf9,
 v9 := Tryz.zeroValue9,
 t22 := Tryz.underlying41,
 a22 := Tryz.isAgg41,
 z22 := Tryz.sizeOf41,
 v22 := Tryz.zeroValue41,
 t25 := Tryz.underlying183,
 a25 := Tryz.isAgg183,
 z25 := Tryz.sizeOf183,
 v25 := Tryz.zeroValue183,
 t39 := Tryz.underlying108,
 a39 := Tryz.isAgg108,
 z39 := Tryz.sizeOf108,
 v39 := Tryz.zeroValue108,
 t45 := Tryz.underlying221,
 a45 := Tryz.isAgg221,
 z45 := Tryz.sizeOf221,
 v45 := Tryz.zeroValue221,
 t46 := Tryz.underlying222,
 a46 := Tryz.isAgg222,
 z46 := Tryz.sizeOf222,
 v46 := Tryz.zeroValue222,
 t50 := Tryz.underlying226,
 a50 := Tryz.isAgg226,
 z50 := Tryz.sizeOf226,
 v50 := Tryz.zeroValue226,
 t53 := Tryz.underlying198,
 a53 := Tryz.isAgg198,
 z53 := Tryz.sizeOf198,
 v53 := Tryz.zeroValue198,
 t55 := Tryz.underlying25,
 a55 := Tryz.isAgg25,
 z55 := Tryz.sizeOf25,
 v55 := Tryz.zeroValue25,
 t66 := Tryz.underlying257,
 a66 := Tryz.isAgg257,
 z66 := Tryz.sizeOf257,
 v66 := Tryz.zeroValue257,
 t70 := Tryz.underlying261,
 a70 := Tryz.isAgg261,
 z70 := Tryz.sizeOf261,
 v70 := Tryz.zeroValue261,
 t76 := Tryz.underlying281,
 a76 := Tryz.isAgg281,
 z76 := Tryz.sizeOf281,
 v76 := Tryz.zeroValue281,
 t77 := Tryz.underlying282,
 a77 := Tryz.isAgg282,
 z77 := Tryz.sizeOf282,
 v77 := Tryz.zeroValue282 }
end Go.Proofs.YtenihpghfdcpkaaGreat
namespace Go.Proofs.YtenihpghfdcpkaaGreat
open Go.RowKit
abbrev Z8D (p0 : PrR) : List Value := ([i6 p0.r, i6 p0.e, u6 p0.f, (.slice p0.ca p0.C.length p0.cc), i6 p0.sb, i6 p0.sm] : LV)
theorem Z7W (w : World) (p : PrR) :
  Calls Tryz.prog 45 #[(.agg ⟨([i6 p.r, i6 p.e, u6 p.f, ((.slice p.ca p.C.length p.cc)), i6 p.sb, i6 p.sm] : LV)⟩)] w fun e w' => e = .returned (i6 p.r) ∧ Upd [] w w' ∧ Gr w w' := by
 have H := Sat.start0 w
 refine Za Tryz.func45 rfl 5 rfl kn ?_
 refine zsl <| zy <| Z3P (vs := (Z8D p)) rfl H rfl rfl fun b2 w3 H4 g5 => ?_
 refine kk <| wv 2 (vi 0) <| Z0G <| wv 3 (pt b2 0) <| zw1 4 (vi p.r) (H4.cell 1 rfl rfl) <| wv 2 (vi p.r) <| znt <| Zk <| ze1 (vi p.r) ?_
 exact ⟨rfl, H4.upd 0 rfl [] ne, g5⟩
theorem Zc0 (w : World) (x y : PrR) (fb : Nat) (hfb : (Z0 fb 127 [.func (.func 45) #[] #[]]).ok w) :
  Calls Tryz.prog 91 #[(.agg ⟨([i6 x.r, i6 x.e, u6 x.f, ((.slice x.ca x.C.length x.cc)), i6 x.sb, i6 x.sm] : LV)⟩), (.agg ⟨([i6 y.r, i6 y.e, u6 y.f, ((.slice y.ca y.C.length y.cc)), i6 y.sb, i6 y.sm] : LV)⟩), zp fb] w fun e w' => e = .returned (i6 (Z2S x.r y.r)) ∧ Upd [] w w' ∧ Gr w w' := by
 have H := Sat.start0 w
 refine Za Tryz.func91 rfl 13 rfl kn ?_
 let A0 := Z8D x
 refine zsl <| zy <| Z3P (vs := A0) rfl H rfl rfl fun b2 w3 H4 g5 => ?_
 let A1 := Z8D y
 refine kk <| zy <| Z3P (vs := A1) rfl H4 rfl rfl fun b7 w8 H9 g10 => ?_
 have gr11 := g5.trans g10
 refine kk <| wv 5 (vi 0) <| znt <| Z7 <| Z5u H9 [zR w, Z0 b2 71 A0, Z0 b7 71 A1] 8 rfl kr (fun Hx => (Hx.pk [0, 1, 2])) fun w12 H13 S14 g15 => ?_
 have gr16 := gr11.trans g15
 refine hv0 0 S14 6 (.func (.func 45) #[] #[]) ?_ (he := fun _ H' => (zl1 (H'.roCell 0 rfl hfb (fun h => h) rfl)))
 refine hv0 1 S14 7 (.agg ⟨A0⟩) ?_ (he := fun _ H' => (zlN (vs := A0) (H'.at 1 rfl)))
 refine hv0 3 S14 9 (.func (.func 45) #[] #[]) ?_ (he := fun _ H' => (zl1 (H'.roCell 0 rfl hfb (fun h => h) rfl)))
 refine hv0 4 S14 10 (.agg ⟨A1⟩) ?_ (he := fun _ H' => (zlN (vs := A1) (H'.at 2 rfl)))
 refine zhy 2 ?_
 refine zdc 8 (Z7W w12 x) ?_
 rintro _ w18 ⟨rfl, u20, g21⟩
 have H19 := H13.keepU u20
 refine ⟨_, rfl, ?_⟩
 have gr22 := gr16.trans g21
 have S23 := H19.pk [0, 1, 2]
 refine kh S23 <| zhy 5 ?_
 refine zdc 11 (Z7W w18 y) ?_
 rintro _ w25 ⟨rfl, u27, g28⟩
 have H26 := H19.keepU u27
 refine ⟨_, rfl, ?_⟩
 have gr29 := gr22.trans g28
 have S30 := H26.pk [0, 1, 2]
 refine kh S30 <| zhy 6 ?_
 refine zdc 12 (Z3S x.r y.r w25) ?_
 rintro _ w32 ⟨rfl, hw32⟩
 obtain rfl := hw32.symm
 refine ⟨_, rfl, ?_⟩
 have S33 := H26.pk [0, 1, 2]
 refine kh S33 <| hv0 7 S33 5 (vi (Z2S x.r y.r)) <| zhf <| ztn <| Zk <| ze1 (vi (Z2S x.r y.r)) ?_
 exact ⟨rfl, H26.upd 0 rfl [] ne, gr29⟩
end Go.Proofs.YtenihpghfdcpkaaGreat
namespace Go.Proofs.YtenihpghfdcpkaaGreat
open Go.RowKit Go.Shelf Go.Sort
theorem Zdu (p : Option Addr) (cap : Nat) (fv : Value) (w : World) : Calls Tryz.prog 149 #[.slice p 0 cap, i6 0, i6 0, fv] w fun e w' => e = .returned (.tuple #[]) ∧ w' = w := by
 go_enter Tryz.func149, Tryz.ntmps149
 go_wp2
 refine wp_loop_rounds 1 ?_
 rw [rounds_succ]
 go_wp2
 go_end0
 exact ⟨rfl, rfl⟩
theorem ZdH (p : Option Addr) (cap : Nat) (lim : Int) (fv : Value) (w : World) : Calls Tryz.prog 119 #[.slice p 0 cap, i6 0, i6 0, i6 lim, fv] w fun e w' => e = .returned (.tuple #[]) ∧ w' = w := by
 have hi := fun W => Zdu p cap fv W
 go_enter Tryz.func119, Tryz.ntmps119
 go_wp2
 refine wp_loop_rounds 1 ?_
 rw [rounds_succ]
 go_wp2_with (go_at_call 149; refine (hi _).mono ?_; rintro e w' ⟨rfl, rfl⟩)
 (try simp only [Exit.inBlock, Exit.then]); refine bodyPost_ret (results_none rfl _ _ _) rfl ?_
 exact ⟨rfl, rfl⟩
theorem Zci (p : Option Addr) (cap : Nat) (fv : Value) (w : World) : Calls Tryz.prog 90 #[.slice p 0 cap, fv] w fun e w' => e = .returned (.tuple #[]) ∧ w' = w := by
 have hp := fun lim W => ZdH p cap lim fv W
 have hl : ∀ W, Calls Tryz.prog 102 #[u6 0] W fun e w' => e = .returned (i6 (Lib.bitLen 0 : Nat)) ∧ w' = W := fun W => Any.bits_Len Z8v 0 W (by omega) (by omega)
 go_enter Tryz.func90, Tryz.ntmps90
 go_wp2_with (first | (go_at_call 102; refine (hl _).mono ?_; rintro e w' ⟨rfl, rfl⟩) | (go_at_call 119; refine (hp _ _).mono ?_; rintro e w' ⟨rfl, rfl⟩))
 go_end0
 exact ⟨rfl, rfl⟩
theorem ZcY (p : Option Addr) (cap : Nat) (fv : Value) (w : World) : Calls Tryz.prog 161 #[.slice p 0 cap, i6 0, i6 0, fv] w fun e w' => e = .returned (.tuple #[]) ∧ w' = w := by
 go_enter Tryz.func161, Tryz.ntmps161
 go_wp2
 refine wp_loop_rounds 1 ?_
 rw [rounds_succ]
 go_wp2
 go_end0
 exact ⟨rfl, rfl⟩
theorem ZdK (p : Option Addr) (cap : Nat) (lim : Int) (fv : Value) (w : World) : Calls Tryz.prog 123 #[.slice p 0 cap, i6 0, i6 0, i6 lim, fv] w fun e w' => e = .returned (.tuple #[]) ∧ w' = w := by
 have hi := fun W => ZcY p cap fv W
 go_enter Tryz.func123, Tryz.ntmps123
 go_wp2
 refine wp_loop_rounds 1 ?_
 rw [rounds_succ]
 go_wp2_with (go_at_call 161; refine (hi _).mono ?_; rintro e w' ⟨rfl, rfl⟩)
 (try simp only [Exit.inBlock, Exit.then]); refine bodyPost_ret (results_none rfl _ _ _) rfl ?_
 exact ⟨rfl, rfl⟩
theorem Zcj (p : Option Addr) (cap : Nat) (fv : Value) (w : World) : Calls Tryz.prog 95 #[.slice p 0 cap, fv] w fun e w' => e = .returned (.tuple #[]) ∧ w' = w := by
 have hp := fun lim W => ZdK p cap lim fv W
 have hl : ∀ W, Calls Tryz.prog 102 #[u6 0] W fun e w' => e = .returned (i6 (Lib.bitLen 0 : Nat)) ∧ w' = W := fun W => Any.bits_Len Z8v 0 W (by omega) (by omega)
 go_enter Tryz.func95, Tryz.ntmps95
 go_wp2_with (first | (go_at_call 102; refine (hl _).mono ?_; rintro e w' ⟨rfl, rfl⟩) | (go_at_call 123; refine (hp _ _).mono ?_; rintro e w' ⟨rfl, rfl⟩))
 go_end0
 exact ⟨rfl, rfl⟩
theorem ZdX (p : Option Addr) (cap : Nat) (fv : Value) (w : World) : Calls Tryz.prog 169 #[.slice p 0 cap, i6 0, i6 0, fv] w fun e w' => e = .returned (.tuple #[]) ∧ w' = w := by
 go_enter Tryz.func169, Tryz.ntmps169
 go_wp2
 refine wp_loop_rounds 1 ?_
 rw [rounds_succ]
 go_wp2
 go_end0
 exact ⟨rfl, rfl⟩
theorem ZdO (p : Option Addr) (cap : Nat) (lim : Int) (fv : Value) (w : World) : Calls Tryz.prog 124 #[.slice p 0 cap, i6 0, i6 0, i6 lim, fv] w fun e w' => e = .returned (.tuple #[]) ∧ w' = w := by
 have hi := fun W => ZdX p cap fv W
 go_enter Tryz.func124, Tryz.ntmps124
 go_wp2
 refine wp_loop_rounds 1 ?_
 rw [rounds_succ]
 go_wp2_with (go_at_call 169; refine (hi _).mono ?_; rintro e w' ⟨rfl, rfl⟩)
 (try simp only [Exit.inBlock, Exit.then]); refine bodyPost_ret (results_none rfl _ _ _) rfl ?_
 exact ⟨rfl, rfl⟩
theorem Zce (p : Option Addr) (cap : Nat) (fv : Value) (w : World) : Calls Tryz.prog 97 #[.slice p 0 cap, fv] w fun e w' => e = .returned (.tuple #[]) ∧ w' = w := by
 have hp := fun lim W => ZdO p cap lim fv W
 have hl : ∀ W, Calls Tryz.prog 102 #[u6 0] W fun e w' => e = .returned (i6 (Lib.bitLen 0 : Nat)) ∧ w' = W := fun W => Any.bits_Len Z8v 0 W (by omega) (by omega)
 go_enter Tryz.func97, Tryz.ntmps97
 go_wp2_with (first | (go_at_call 102; refine (hl _).mono ?_; rintro e w' ⟨rfl, rfl⟩) | (go_at_call 124; refine (hp _ _).mono ?_; rintro e w' ⟨rfl, rfl⟩))
 go_end0
 exact ⟨rfl, rfl⟩
instance : Inhabited PrR := ⟨pr0⟩
def Zdv (x y : PrR) : Int := Z2S x.r y.r
def Zex (x y : PrR) : Prop := x.r < y.r
instance (x y : PrR) : Decidable (Zex x y) := by unfold Zex; exact inferInstance
theorem Z4Z (x y : PrR) : ltOf Zdv x y = decide (Zex x y) := by
 unfold ltOf
 refine decide_eq_decide.2 ?_
 unfold Zdv Zex
 rcases Z3e x.r y.r with ⟨h1, e1⟩ | ⟨h1, e1⟩ | ⟨h1, e1⟩ <;> rw [e1] <;>
  first | exact iff_of_true (by decide) (by omega) | exact iff_of_false (by decide) (by omega)
theorem ZcJ : SWO (ltOf Zdv) := by
 refine ⟨fun x => ?_, fun x y z h1 h2 => ?_, fun x y z h1 h2 => ?_⟩
 ·rw [Z4Z]; exact decide_eq_false (by unfold Zex; omega)
 ·rw [Z4Z] at *
  have := of_decide_eq_true h1; have := of_decide_eq_true h2
  unfold Zex at *
  exact decide_eq_true (by omega)
 ·rw [Z4Z] at *
  have := of_decide_eq_false h1; have := of_decide_eq_false h2
  unfold Zex at *
  exact decide_eq_false (by omega)
theorem ZaI (blk off size : Nat) (w : World) {fb : Nat} (hne : fb ≠ blk) (hfb : (Z0 fb 127 [.func (.func 45) #[] #[]]).ok w) : CmpLays Tryz.prog 91 #[zp fb] Z0C 6 Zdv blk off size w := fun m os dk _ x y =>
 (Zc0 (sortWorldK Z0C 6 w blk off m dk os) x y fb ((Z0 fb _ _).stay hfb fun b hb => by
  rw [show b = fb from hb]
  have hlt := (Z0 fb _ _).lt hfb fb rfl
  unfold sortWorldK putRowK putRow mapBlock grow Sort.ahead
  simp only [Array.getElem?_append, Array.size_modify, hlt, if_true, Array.getElem?_modify]
  rw [if_neg (fun e => hne e.symm)])).mono fun _ _ h => ⟨h.1, h.2.2⟩
theorem Zc5 (w : World) (g c : Nat) (D : List PrR) (hv : (Zh 71 6 (.slice (some ⟨g, 0, none⟩) D.length c) D.length (D.flatMap Z0C)).ok w) (h12 : D.length ≤ 12) (fb : Nat) (hne : fb ≠ g) (hfb : (Z0 fb 127 [.func (.func 45) #[] #[]]).ok w) :
  Calls Tryz.prog 90 #[.slice (some ⟨g, 0, none⟩) D.length c, .func (.func 91) #[] #[zp fb]] w fun e w' => e = .returned (.tuple #[]) ∧ ∃ D' : List PrR, D'.Perm D ∧ (D'.Pairwise fun a b => ¬ Zex b a) ∧ (Zh 71 6 (.slice (some ⟨g, 0, none⟩) D.length c) D.length (D'.flatMap Z0C)).ok w' ∧ Upd [g] w w' := by
 obtain ⟨A, rfl⟩ : ∃ A : List PrR, A = D := ⟨D, rfl⟩
 have hg : g < w.heap.size := (Zh _ _ _ _ _).lt hv g rfl
 obtain ⟨cur, hb, hnc, hcm, hcs, htk⟩ : ∃ cur, w.heap[g]? = some (.cells cur 71 (0, 0)) ∧ A.length ≤ c ∧ c ≤ maxLen ∧ cur.size = c * 6 ∧ cur.toList.take (A.length * 6) = A.flatMap Z0C := by
  rcases hv.2 with ⟨h, _⟩ | ⟨g', c', cur, h, _, h1, h2, h3, h4, h5⟩
  ·cases h
  ·simp only [Value.slice.injEq, Option.some.injEq, Addr.mk.injEq] at h
   obtain ⟨⟨rfl, _⟩, _, rfl⟩ := h
   exact ⟨cur, h1, h2, h3, h4, h5⟩
 have hH : HoldsK Z0C 6 w g 0 A.toArray := fun j hj => by
  have hj' : j < A.length * 6 := by simpa using hj
  have hq : j / 6 < A.length := (Nat.div_lt_iff_lt_mul (by omega)).2 hj'
  refine ⟨?_, ?_⟩
  ·rw [get_flatK _ _ _ _ (by simpa using hj')]
   have hx : A.toArray[j / 6]! = A[j / 6] := by rw [getElem!_pos A.toArray (j / 6) (by simpa using hq)]; simp
   rw [hx]
   refine Z0L (enc := Z0C) hv rfl Z2i (i := j / 6) (x := A[j / 6]) (List.getElem?_eq_getElem hq) (j % 6) (by have := Nat.mod_lt j (show 0 < 6 by omega); simp [Nat.blt_eq, this]) (by omega) ?_
   have hm : j % 6 < (Z0C A[j / 6]).length := by rw [Z2i]; omega
   rw [List.getElem?_eq_getElem hm, getElem!_pos (Z0C A[j / 6]) _ hm]; rfl
  ·unfold World.frozen?
   rw [hb]; simp
 have hbl : ∀ (n : Nat) (W : World), n ≤ 12 → Calls Tryz.prog (sortP_ren.f 15) #[u6 n] W fun e w' => (∃ l : Int, e = .returned (i6 l)) ∧ w' = W := fun n W hn =>
  (Any.bits_Len Z8v n W (by omega) (by omega)).mono fun _ _ ⟨he, hw⟩ => ⟨⟨_, he⟩, hw⟩
 have h := AnyQ.slices_SortFunc_small_sorted (P := Tryz.prog) sortP 6 Tryz.isAgg71 Tryz.sizeOf71 Z0C Z2i (fun x v hv => List.all_eq_true.1 (Z5l x) v hv) Zdv 91 #[zp fb] ZcJ g 0 c A.toArray w (enters_of Tryz.func91 (by kernel_rfl) rfl) (ZaI g 0 _ w hne hfb) hH hg (by simpa using h12) hbl
 rw [show A.toArray.size = A.length from List.size_toArray ..] at h
 refine h.mono fun e w' ⟨he, d', n, os, hp, hs, hw⟩ => ?_
 have hsz : d'.size = A.length := by simpa using hp.1
 have hp2 : d'.toList.Perm A := by
  have := hp.2.2
  have e1 : d'.extract 0 A.length = d' := by rw [← hsz]; exact Array.extract_size
  have e2 : A.toArray.extract 0 A.length = A.toArray := Array.extract_size (xs := A.toArray)
  rw [e1, e2] at this
  exact this
 refine ⟨he, d'.toList, hp2, ?_, ?_, ?_⟩
 ·rw [List.pairwise_iff_getElem]
  intro i j hi hj hij
  have hi' : i < d'.size := by simpa using hi
  have hj' : j < d'.size := by simpa using hj
  have := hs i j (Nat.zero_le _) hij (by omega)
  rw [getElem!_pos d' i hi', getElem!_pos d' j hj'] at this
  rw [Z4Z] at this
  have h5 := of_decide_eq_false this
  rwa [Array.getElem_toList, Array.getElem_toList]
 ·obtain ⟨q1, q2⟩ := Z3y Z0C 6 Z2i (by omega) d' cur (by rw [hsz, hcs]; exact Nat.mul_le_mul_right _ hnc)
  refine ⟨by rw [Z0T Z0C 6 Z2i]; simp [hsz], .inr ⟨g, c, putCells id 0 (flatK Z0C 6 d') cur, rfl, Nat.zero_le _, ?_, hnc, hcm, by rw [q1, hcs], by rw [← hsz]; exact q2⟩⟩
  rw [hw]
  unfold sortWorldK putRowK putRow mapBlock grow Sort.ahead
  simp only [Array.getElem?_append, Array.size_modify, hg, if_true, Array.getElem?_modify]
  rw [hb]; rfl
 ·subst hw
  refine ⟨rfl, rfl, rfl, size_sortWorldK_c _ _ _ _ _ _ _ _, fun k hk hne => ?_⟩
  have hne : g ≠ k := fun e => hne (by simp [e])
  unfold sortWorldK putRowK putRow mapBlock grow Sort.ahead
  simp only [Array.getElem?_append, Array.size_modify, hk, if_true, Array.getElem?_modify, if_neg hne]
theorem Z9C (w : World) (a : Option Addr) (c : Nat) (D : List PrR) (fb : Nat) (hv : (Z04 [Zh 71 6 (.slice a D.length c) D.length (D.flatMap Z0C), Z0 fb 127 [.func (.func 45) #[] #[]]]).ok w) (h12 : D.length ≤ 12) :
  Calls Tryz.prog 90 #[.slice a D.length c, .func (.func 91) #[] #[zp fb]] w fun e w' => ∃ D' : List PrR, e = .returned (.tuple #[]) ∧ D'.Perm D ∧ (D'.Pairwise fun a b => ¬ Zex b a) ∧ Sat w [Zh 71 6 (.slice a D'.length c) D'.length (D'.flatMap Z0C), Z0 fb 127 [.func (.func 45) #[] #[]], ZF w (Z04 [Zh 71 6 (.slice a D.length c) D.length (D.flatMap Z0C), Z0 fb 127 [.func (.func 45) #[] #[]]]).fp] w' := by
 have H := Sat.start _ hv
 cases hD : D with
 | nil =>
  subst hD
  refine (Zci a c (.func (.func 91) #[] #[zp fb]) w).mono fun e w' ⟨he, hw⟩ => ?_
  subst hw
  exact ⟨[], he, List.Perm.refl _, List.Pairwise.nil, H⟩
 | cons x D0 =>
  rw [← hD]
  have hv0 := hv.1 _ List.mem_cons_self
  have hv1 := hv.1 _ (List.mem_cons_of_mem _ List.mem_cons_self)
  obtain ⟨g, c', hs⟩ := Z0w hv0 (by rw [hD]; simp)
  simp only [Value.slice.injEq] at hs
  obtain ⟨rfl, _, rfl⟩ := hs
  have hne : fb ≠ g := fun e => (List.pairwise_cons.1 hv.2).1 _ List.mem_cons_self g rfl e.symm
  refine (Zc5 w g c D hv0 h12 fb hne hv1).mono fun e w' ⟨he, D', hp, hs, hok, hu⟩ => ?_
  have hl := hp.length_eq
  refine ⟨D', he, hp, hs, ?_⟩
  rw [hl]
  exact H.setU hu 0 rfl (by rintro b' hb; rw [List.mem_singleton.1 hb]; rfl) hok (fun b hb => .inl hb)
end Go.Proofs.YtenihpghfdcpkaaGreat
namespace Go.Proofs.YtenihpghfdcpkaaGreat
open Go.RowKit
abbrev ZcP (p0 : PrR) : List Value := ([i6 p0.r, i6 p0.e, u6 p0.f, (.slice p0.ca p0.C.length p0.cc), i6 p0.sb, i6 p0.sm] : LV)
theorem ZdF (w : World) (p : PrR) :
  Calls Tryz.prog 45 #[(.agg ⟨([i6 p.r, i6 p.e, u6 p.f, ((.slice p.ca p.C.length p.cc)), i6 p.sb, i6 p.sm] : LV)⟩)] w fun e w' => e = .returned (i6 p.r) ∧ Upd [] w w' := by
 have H := Sat.start0 w
 refine Za Tryz.func45 rfl 5 rfl kn ?_
 refine zsl <| zy <| zdb (ZcP p) H fun b2 w3 H4 => ?_
 refine kk <| wv 2 (vi 0) <| Z0G <| wv 3 (pt b2 0) <| zw1 4 (vi p.r) (H4.cell 1 rfl rfl) <| wv 2 (vi p.r) <| znt <| Zk <| ze1 (vi p.r) ?_
 exact ⟨rfl, H4.upd 0 rfl [] ne⟩
theorem Zcx (w : World) (p : PrR) (s tb : Nat) (F c E last T : Int) (hF : 1 ≤ F ∧ F ≤ 1099511627776) (vm vo : Value) (hs : (Z0 s 54 [i6 F, i6 c, i6 E, u6 last, vm, vo]).ok w) (ht : (Z0 tb 25 [u6 T]).ok w) :
  Calls Tryz.prog 42 #[(.agg ⟨([i6 p.r, i6 p.e, u6 p.f, ((.slice p.ca p.C.length p.cc)), i6 p.sb, i6 p.sm] : LV)⟩), zp s, zp tb] w fun e w' => e = .returned (.bool (inB F p.r && decide (p.e = E) && decide (p.f = T))) ∧ Upd [] w w' := by
 have H := Sat.start0 w
 refine Za Tryz.func42 rfl 23 rfl kn ?_
 refine zsl <| zy <| zdb (ZcP p) H fun b2 w3 H4 => ?_
 refine kk <| wv 4 (.bool false) <| Z0G <| wv 5 (pt s 0) <| zwN 6 ([(vi F), (vi c)] : LV) (H4.roCells 0 rfl hs (fun h => h)) <| wv 7 (pt b2 0) <| zw1 8 (vi p.r) (H4.cell 1 rfl rfl) <| zy <| zdq 9 (Z8E w3 F c p.r om) H4 fun w6 H7 => ?_
 refine kk <| wv 10 (.bool (inB F p.r)) ?_
 refine (ZS (inB F p.r)).elim (fun b9 => ?_) (fun b9 => ?_)
 ·refine Z0z 10 (.bool true) (congrArg Value.bool b9) ?_
  refine wy 5 10 true 11 (pt b2 1) <| wy 5 10 true 12 (vi p.e) ?_ (hr := zl1 (H7.cell 1 rfl rfl))
  refine wy 5 10 true 13 (pt s 2) <| wy 5 10 true 14 (vi E) ?_ (hr := zl1 (H7.roCell 0 rfl hs (fun h => h) rfl))
  refine wy 5 10 true 15 (.bool (decide (p.e = E))) <| wv 16 (.bool (decide (p.e = E))) <| wv 17 (.bool (decide (p.e = E))) ?_
  refine zil 17 (fun b10 g11 => ?_) fun b10 g13 => ?_
  ·refine wy 12 17 true 18 (pt b2 2) <| wy 12 17 true 19 (vu p.f) ?_ (hr := zl1 (H7.cell 1 rfl rfl))
   refine wy 12 17 true 20 (vu T) ?_ (hr := zl1 (H7.roCell 0 rfl ht (fun h => h) rfl))
   refine wy 12 17 true 21 (.bool (decide (p.f = T))) <| wv 22 (.bool (decide (p.f = T))) <| wv 4 (.bool (decide (p.f = T))) <| znt <| Zk <| ze1 (.bool (decide (p.f = T))) ?_
   exact ⟨by simp [b9, b10], H7.upd 0 rfl [] ne⟩
  iterate 4 refine wn 12 17 true ?_
  refine wv 22 (.bool false) <| wv 4 (.bool false) <| znt <| Zk <| ze1 (.bool false) ?_
  exact ⟨by simp [b9, b10], H7.upd 0 rfl [] ne⟩
 refine Z0z 10 (.bool false) (congrArg Value.bool b9) ?_
 iterate 5 refine wn 5 10 true ?_
 refine wv 16 (.bool false) <| wv 17 (.bool false) ?_
 iterate 4 refine wn 12 17 true ?_
 refine wv 22 (.bool false) <| wv 4 (.bool false) <| znt <| Zk <| ze1 (.bool false) ?_
 exact ⟨by simp [b9], H7.upd 0 rfl [] ne⟩
end Go.Proofs.YtenihpghfdcpkaaGreat
