/- WHAT IS PROVED: contracts and plain laws of Ord12M, LaidO, FstO, SortO12. Conditions: stated with each. -/
import Derived.Test.YtenihpghfdcpkaaGreatPO02
import Derived.Test.YtenihpghfdcpkaaGreatPO05
import Derived.Test.YtenihpghfdcpkaaGreatPO17
import Derived.Test.YtenihpghfdcpkaaGreatPO23
import Derived.Test.YtenihpghfdcpkaaGreatPO26
import Derived.Test.YtenihpghfdcpkaaGreatPO31
import Derived.Test.YtenihpghfdcpkaaGreatPO32
import Derived.Test.YtenihpghfdcpkaaGreatPO33
set_option maxHeartbeats 4000000
set_option maxRecDepth 100000
namespace Go.Proofs.YtenihpghfdcpkaaGreat
open Go.RowKit
section
variable {α β : Type} {num : α → Int} {key : α → β} {A B : List α}
theorem Zdq (h : B.map num = A.map num) (hA : A.Pairwise fun a b => num a < num b) : B.Pairwise fun a b => num a < num b := by
 have h1 : (A.map num).Pairwise (· < ·) := List.pairwise_map.2 hA
 rw [← h] at h1
 exact List.pairwise_map.1 h1
theorem Zgv {d : α} (h : A.Pairwise fun a b => num a < num b) {i : Nat} (hi : i < A.length) : (!decide ((i : Int) > 0) || !decide (num (A.getD i d) ≤ num (A.getD (i - 1) d))) = true := by
 by_cases h0 : (i : Int) > 0
 ·have q := List.pairwise_iff_getElem.1 h (i - 1) i (by omega) hi (by omega)
  have e1 : A.getD i d = A[i] := by rw [List.getD_eq_getElem?_getD, List.getElem?_eq_getElem hi]; rfl
  have e2 : A.getD (i - 1) d = A[i - 1] := by rw [List.getD_eq_getElem?_getD, List.getElem?_eq_getElem (by omega)]; rfl
  rw [e1, e2, decide_eq_false (show ¬ num A[i] ≤ num A[i - 1] by omega)]; simp
 ·rw [decide_eq_false h0]; rfl
end
section
variable {F la tm : Int} {LB : List Signed} {B : List Ck} {PS DP PD P : List PrR} {OS DO OD : List OpR} {TS DT TD : List TbR} {Q : Nat} {X : List (Int × Bool)} {M : List (Int × Z1q)} {p : PrR}
theorem PrV.right (h : PrV F la tm LB p) (htm : tm < 18446744073709551615) : Z1R F 3 LB p = true := by
 unfold Z1R
 have hC : (List.range p.C.length).all (Z8K F 3 LB p.f p.C) = true := Z1B fun i hi => by
  have hm : p.C.getD i ce0 ∈ p.C := Z1d hi
  have hc := h.ce _ hm
  unfold Z8K
  rw [hc.rt, decide_eq_false (show ¬ Zz (p.C.getD i ce0).S > p.f by rw [h.f]; have := hc.time; omega)]
  by_cases h0 : (i : Int) > 0
  ·have q := List.pairwise_iff_getElem.1 h.up (i - 1) i (by omega) hi (by omega)
   have e1 : p.C.getD i ce0 = p.C[i] := by rw [List.getD_eq_getElem?_getD, List.getElem?_eq_getElem hi]; rfl
   have e2 : p.C.getD (i - 1) ce0 = p.C[i - 1] := by rw [List.getD_eq_getElem?_getD, List.getElem?_eq_getElem (by omega)]; rfl
   rw [e1, e2, q]; simp
  ·rw [decide_eq_false h0]; rfl
 have hb : inB F p.r = true := by unfold inB; have := h.r; simp; omega
 rw [hC, hb, h.sm, decide_eq_true h.sb, decide_eq_false (show ¬ p.e < 0 by rw [h.e]; decide), decide_eq_false (show ¬ p.e > 1048576 by rw [h.e]; decide), decide_eq_false (show ¬ (p.C.length : Int) > 64 by have := h.len; omega), decide_eq_false (show ¬ p.f = 18446744073709551615 by rw [h.f]; omega)]
 rfl
theorem Zbz (hps : PsF F la tm LB B PS) (htm : tm < 18446744073709551615) (hDP : SortN (fun x : PrR => x.r) (Z6n F 4 tm) PS DP) (hQ : (Q : Int) = 2 * F + 1) (hQl : Q ≤ DP.length) (hcP : ZgN (DP.take Q) PD) : Z3h F 3 LB 4 tm PD = true := by
 have hdp := hps.dp hDP
 subst hdp
 have hl : PD.length = Q := by have q := Z49 hcP; rw [List.length_take] at q; omega
 have hnum : PD.map (·.r) = (DP.take Q).map (·.r) := by
  have q := congrArg (List.map fun k => k.1) hcP
  simpa [List.map_map, Function.comp_def, Zba] using q
 have hup := Zdq hnum (hps.up.sublist (List.take_sublist Q DP))
 unfold Z3h
 rw [Bool.and_eq_true]
 refine ⟨Z1B fun i hi => ?_, decide_eq_true (by omega)⟩
 have hm : PD.getD i pr0 ∈ PD := Z2Y hi
 obtain ⟨x, hx, e⟩ := Z6J hcP hm
 have hv := ((hps.all x (List.mem_of_mem_take hx)).val).key e
 unfold Z7x
 rw [Zgv (num := fun x : PrR => x.r) hup hi, hv.right htm, decide_eq_true hv.e, decide_eq_true hv.f]
 rfl
theorem Zcu {o o' : OpR} (e : Zfm o = Zfm o') : Z2B M o = Z2B M o' := by
 unfold Zfm at e
 simp only [Prod.mk.injEq] at e
 unfold Z2B
 rw [e.1, e.2.1, e.2.2]
theorem Z61 {L : List OpR} {i : Nat} (h : i < L.length) : L.getD i op0 ∈ L := by
 rw [List.getD_eq_getElem?_getD, List.getElem?_eq_getElem h]; exact List.getElem_mem h
theorem Z5Z {L : List TbR} {i : Nat} (h : i < L.length) : L.getD i tb0 ∈ L := by
 rw [List.getD_eq_getElem?_getD, List.getElem?_eq_getElem h]; exact List.getElem_mem h
theorem SortN.in {α : Type} {num : α → Int} {may : α → Bool} {L D : List α} {x : α} (h : SortN num may L D) (hx : x ∈ D) : x ∈ L ∧ may x = true := by
 have q := h.mem.1 hx
 have h2 := List.find?_some q
 simp only [Bool.and_eq_true] at h2
 exact ⟨List.mem_of_find?_eq_some q, h2.2⟩
theorem ZcC (hSO : SortN (fun x : OpR => x.i) (Z7z M) OS DO) (hcO : CoOs DO OD) : (List.range OD.length).all (Zbc M OD) = true := by
 have hnum : OD.map (·.i) = DO.map (·.i) := by
  have q := congrArg (List.map fun k => k.1) hcO
  simpa [List.map_map, Function.comp_def, Zfm] using q
 have hup := Zdq hnum hSO.up
 refine Z1B fun i hi => ?_
 obtain ⟨x, hx, e⟩ := Z6J hcO (Z61 hi)
 unfold Zbc
 rw [Zgv (num := fun x : OpR => x.i) hup hi, Zcu e]
 exact (hSO.in hx).2
theorem Zgd (hcO : CoOs DO OD) (n : Int) : Z9R (fun x : OpR => x.i) OD n = Z9R (fun x : OpR => x.i) DO n := by
 have hnum : OD.map (·.i) = DO.map (·.i) := by
  have q := congrArg (List.map fun k => k.1) hcO
  simpa [List.map_map, Function.comp_def, Zfm] using q
 have key : ∀ L : List OpR, Z9R (fun x : OpR => x.i) L n = (L.map (·.i)).any fun k => decide (k = n) := fun L => by unfold Z9R; rw [List.any_map]; rfl
 rw [key, key, hnum]
theorem ZbV (hts : ∀ t ∈ TS, TbG F LB B t) (hcO : CoOs DO OD) (hHv : HvOk X (fun x : OpR => x.i) DO) (hST : SortN (fun x : TbR => x.i) (Z5Y M X) TS DT) (hcT : CoTs (DT.take 64) TD) : (List.range TD.length).all (Z7t F LB M OD TD) = true := by
 have hnum : TD.map (·.i) = (DT.take 64).map (·.i) := by
  have q := congrArg (List.map fun k => k.1) hcT
  simpa [List.map_map, Function.comp_def, ZgO] using q
 have hup := Zdq hnum (hST.up.sublist (List.take_sublist 64 DT))
 refine Z1B fun i hi => ?_
 obtain ⟨x, hx, e⟩ := Z6J hcT (Z5Z hi)
 unfold ZgO at e
 simp only [Prod.mk.injEq] at e
 obtain ⟨hxT, hmay⟩ := hST.in (List.mem_of_mem_take hx)
 unfold Z5Y at hmay
 rw [hHv x.i, Bool.and_eq_true] at hmay
 unfold Z7t
 rw [Zgv (num := fun x : TbR => x.i) hup hi, e.1, e.2, hmay.1, Zgd hcO, hmay.2, (hts x hxT).rt]
 rfl
theorem Zck (hF : 1 ≤ F ∧ F ≤ 2) (htm : la < tm ∧ tm ≤ la + 60) (hla : 0 ≤ la ∧ la < 20) (hps : PsF F la tm LB B PS) (hts : ∀ t ∈ TS, TbG F LB B t) (hOSl : OS.length ≤ 4) (hTSl : TS.length ≤ 3) (hDP : SortN (fun x : PrR => x.r) (Z6n F 4 tm) PS DP) (hQ : (Q : Int) = 2 * F + 1) (hSO : SortN (fun x : OpR => x.i) (Z7z M) OS DO) (hHv : HvOk X (fun x : OpR => x.i) DO) (hST : SortN (fun x : TbR => x.i) (Z5Y M X) TS DT) (hQl : Q ≤ DP.length) (hcP : ZgN (DP.take Q) PD) (hcO : CoOs DO OD) (hcT : CoTs (DT.take 64) TD) : Z1S F 3 4 la LB M 4 tm PD OD TD = true := by
 have h1 : OD.length ≤ 4 := by have q := Z49 hcO; have := hSO.len; omega
 have h2 : TD.length ≤ 3 := by have q := Z49 hcT; have := hST.len; rw [List.length_take] at q; omega
 unfold Z1S
 rw [Zbz hps (by omega) hDP hQ hQl hcP, ZcC hSO hcO, ZbV hts hcO hHv hST hcT, decide_eq_true (show (4 : Int) = 4 from rfl), decide_eq_false (show ¬ tm ≤ la by omega), decide_eq_false (show ¬ tm = 18446744073709551615 by omega), decide_eq_false (show ¬ (OD.length : Int) > 64 by omega), decide_eq_false (show ¬ (TD.length : Int) > 64 by omega)]
 rfl
theorem ZcZ {lg : NmD → Bool} {Z : List CeR} {O : List Z1q} {x : Z1q} {i : Nat} (hO : O.Perm ((Z7n la tm lg Z).map (·.2))) (hx : O[i]? = some x) : ∃ c ∈ Z, Z3L la tm lg (Z1o c) = false ∧ x = Z1o c := by
 have hm := (hO.mem_iff).1 (List.mem_of_getElem? hx)
 obtain ⟨⟨n, e⟩, h1, h2⟩ := List.mem_map.1 hm
 obtain ⟨c, hc, hs, _, he⟩ := Zfu h1
 exact ⟨c, hc, hs, by rw [← h2, ← he]⟩
theorem Z8x {lg : NmD → Bool} {Z : List CeR} {O : List Z1q} {x : Z1q} {i : Nat} (hO : O.Perm ((Z7n la tm lg Z).map (·.2))) (hx : O[i]? = some x) : decide (x.t ≤ la) = false ∧ decide (x.t > tm) = false ∧ lg ⟨x.cl, x.sq⟩ = false := by
 obtain ⟨c, _, hs, rfl⟩ := ZcZ hO hx
 unfold Z3L at hs
 simp only [Bool.or_eq_false_iff] at hs
 exact ⟨hs.1.1, hs.1.2, hs.2⟩
theorem Zfc {O : List Z1q} {x y : Z1q} {i q : Nat} (hs : O.Pairwise fun a b => ¬ Zbd b a) (hn : (O.map Z5G).Nodup) (hx : O[i]? = some x) (hy : O[q]? = some y) (hq : q < i) (ht : x.t = y.t) : (decide (y.cl < x.cl) || decide (y.cl = x.cl) && decide (y.sq < x.sq)) = true := by
 obtain ⟨h1, rfl⟩ := List.getElem?_eq_some_iff.1 hx
 obtain ⟨h2, rfl⟩ := List.getElem?_eq_some_iff.1 hy
 have h3 := List.pairwise_iff_getElem.1 hs q i h2 h1 hq
 have h4 := Z8B hn hx hy hq
 have h5 := of_decide_eq_false h4
 unfold Zbd at h3
 simp only [Bool.or_eq_true, Bool.and_eq_true, decide_eq_true_eq]
 omega
noncomputable def inC (x : Z1q) (c : CeR) : Bool := decide (c.x.cl = x.cl ∧ c.x.seq = x.sq) && decide (c.x.h = x.h) && decide (Zz c.S = x.t)
theorem ZdY {lg : NmD → Bool} {Z : List CeR} {O : List Z1q} {x : Z1q} {i : Nat} (hO : O.Perm ((Z7n la tm lg Z).map (·.2))) (hx : O[i]? = some x) : Z.any (inC x) = true := by
 obtain ⟨c, hc, _, rfl⟩ := ZcZ hO hx
 exact List.any_eq_true.2 ⟨c, hc, by unfold inC Z1o; simp⟩
end
end Go.Proofs.YtenihpghfdcpkaaGreat
namespace Go.Proofs.YtenihpghfdcpkaaGreat
open Go.RowKit Go.Shelf
def sortO_ren : Go.Shelf.Ren := ⟨fun | 6 => 95 | 15 => 102 | 14 => 123 | 28 => 136 | 29 => 137 | 20 => 161 | 21 => 162 | 22 => 163 | 23 => 164 | 24 => 165 | 25 => 166 | 26 => 167 | 27 => 168 | 46 => 198 | 47 => 182 | 48 => 183 | 49 => 199 | 50 => 200 | 57 => 217 | n => n, fun | 22 => 42 | 24 => 86 | 25 => 186 | 3 => 3 | 39 => 108 | 0 => 0 | 53 => 198 | 55 => 25 | 4 => 4 | 46 => 222 | 45 => 221 | 50 => 226 | 5 => 5 | 9 => 9 | 66 => 257 | 70 => 261 | 76 => 281 | 77 => 282 | n => n, fun | n => n⟩
theorem sortO : Go.Proofs.SlLaysF0.n6 Tryz.prog sortO_ren := {
 mixed := by kernel_rfl,
 f6 := ⟨Tryz.f95.name, by decide, Tryz.func95.trans (congrArg some (by kernel_rfl))⟩,
 f14 := ⟨Tryz.f123.name, by decide, Tryz.func123.trans (congrArg some (by kernel_rfl))⟩,
 f15 := Tryz.func102.trans (congrArg some (by kernel_rfl)),
 f20 := ⟨Tryz.f161.name, by decide, Tryz.func161.trans (congrArg some (by kernel_rfl))⟩,
 f21 := ⟨Tryz.f162.name, by decide, Tryz.func162.trans (congrArg some (by kernel_rfl))⟩,
 f22 := ⟨Tryz.f163.name, by decide, Tryz.func163.trans (congrArg some (by kernel_rfl))⟩,
 f23 := ⟨Tryz.f164.name, by decide, Tryz.func164.trans (congrArg some (by kernel_rfl))⟩,
 f24 := ⟨Tryz.f165.name, by decide, Tryz.func165.trans (congrArg some (by kernel_rfl))⟩,
 f25 := ⟨Tryz.f166.name, by decide, Tryz.func166.trans (congrArg some (by kernel_rfl))⟩,
 f26 := ⟨Tryz.f167.name, by decide, Tryz.func167.trans (congrArg some (by kernel_rfl))⟩,
 f27 := ⟨Tryz.f168.name, by decide, Tryz.func168.trans (congrArg some (by kernel_rfl))⟩,
 f28 := Tryz.func136.trans (congrArg some (by kernel_rfl)),
 f29 := Tryz.func137.trans (congrArg some (by kernel_rfl)),
 f46 := ⟨Tryz.f198.name, by decide, Tryz.func198.trans (congrArg some (by kernel_rfl))⟩,
 f47 := Tryz.func182.trans (congrArg some (by kernel_rfl)),
 f48 := Tryz.func183.trans (congrArg some (by kernel_rfl)),
 f49 := ⟨Tryz.f199.name, by decide, Tryz.func199.trans (congrArg some (by kernel_rfl))⟩,
 f50 := ⟨Tryz.f200.name, by decide, Tryz.func200.trans (congrArg some (by kernel_rfl))⟩,
 f57 := ⟨Tryz.f217.name, by decide, Tryz.func217.trans (congrArg some (by kernel_rfl))⟩,
 t0 := Tryz.underlying0,
 a0 := Tryz.isAgg0,
 z0 := Tryz.sizeOf0,
 v0 := Tryz.zeroValue0,
 t3 := Tryz.underlying3,
 a3 := Tryz.isAgg3,
 z3 := Tryz.sizeOf3,
 v3 := Tryz.zeroValue3,
 t4 := Tryz.underlying4,
 a4 := Tryz.isAgg4,
 z4 := Tryz.sizeOf4,
 v4 := Tryz.zeroValue4,
 t5 := Tryz.underlying5,
 a5 := Tryz.isAgg5,
 z5 := Tryz.sizeOf5,
 v5 := Tryz.zeroValue5,
 t9 := Tryz.underlying9,
 a9 := Tryz.isAgg9,
 z9 := Tryz.sizeOf9,
 v9 := Tryz.zeroValue9,
 t22 := Tryz.underlying42,
 a22 := Tryz.isAgg42,
 z22 := Tryz.sizeOf42,
 v22 := Tryz.zeroValue42,
 t25 := Tryz.underlying186,
 a25 := Tryz.isAgg186,
 z25 := Tryz.sizeOf186,
 v25 := Tryz.zeroValue186,
 t39 := Tryz.underlying108,
 a39 := Tryz.isAgg108,
 z39 := Tryz.sizeOf108,
 v39 := Tryz.zeroValue108,
 t45 := Tryz.underlying221,
 a45 := Tryz.isAgg221,
 z45 := Tryz.sizeOf221,
 v45 := Tryz.zeroValue221,
 t46 := Tryz.underlying222,
 a46 := Tryz.isAgg222,
 z46 := Tryz.sizeOf222,
 v46 := Tryz.zeroValue222,
 t50 := Tryz.underlying226,
 a50 := Tryz.isAgg226,
 z50 := Tryz.sizeOf226,
 v50 := Tryz.zeroValue226,
 t53 := Tryz.underlying198,
 a53 := Tryz.isAgg198,
 z53 := Tryz.sizeOf198,
 v53 := Tryz.zeroValue198,
 t55 := Tryz.underlying25,
 a55 := Tryz.isAgg25,
 z55 := Tryz.sizeOf25,
 v55 := Tryz.zeroValue25,
 t66 := Tryz.underlying257,
 a66 := Tryz.isAgg257,
 z66 := Tryz.sizeOf257,
 v66 := Tryz.zeroValue257,
 t70 := Tryz.underlying261,
 a70 := Tryz.isAgg261,
 z70 := Tryz.sizeOf261,
 v70 := Tryz.zeroValue261,
 t76 := Tryz.underlying281,
 a76 := Tryz.isAgg281,
 z76 := Tryz.sizeOf281,
 v76 := Tryz.zeroValue281,
 t77 := Tryz.underlying282,
 a77 := Tryz.isAgg282,
 z77 := Tryz.sizeOf282,
 v77 := Tryz.zeroValue282 }
end Go.Proofs.YtenihpghfdcpkaaGreat
namespace Go.Proofs.YtenihpghfdcpkaaGreat
open Go.RowKit
abbrev Z47 (p0 : OpR) : List Value := ([i6 p0.i, (.slice p0.pa p0.P.length p0.pc)] : LV) ++ hc p0.h
theorem Z7V (w : World) (p : OpR) :
  Calls Tryz.prog 51 #[(.agg ⟨(([i6 p.i, ((.slice p.pa p.P.length p.pc))] : LV) ++ hc p.h)⟩)] w fun e w' => e = .returned (i6 p.i) ∧ Upd [] w w' ∧ Gr w w' := by
 have H := Sat.start0 w
 refine Za Tryz.func51 rfl 5 rfl kn ?_
 refine zsl <| zy <| Z3P (vs := (Z47 p)) rfl H rfl rfl fun b2 w3 H4 g5 => ?_
 refine kk <| wv 2 (vi 0) <| Z0G <| wv 3 (pt b2 0) <| zw1 4 (vi p.i) (H4.cell 1 rfl kr) <| wv 2 (vi p.i) <| znt <| Zk <| ze1 (vi p.i) ?_
 exact ⟨rfl, H4.upd 0 rfl [] ne, g5⟩
theorem Zau (w : World) (x y : OpR) (fb : Nat) (hfb : (Z0 fb 133 [.func (.func 51) #[] #[]]).ok w) :
  Calls Tryz.prog 96 #[(.agg ⟨(([i6 x.i, ((.slice x.pa x.P.length x.pc))] : LV) ++ hc x.h)⟩), (.agg ⟨(([i6 y.i, ((.slice y.pa y.P.length y.pc))] : LV) ++ hc y.h)⟩), zp fb] w fun e w' => e = .returned (i6 (Z2S x.i y.i)) ∧ Upd [] w w' ∧ Gr w w' := by
 have H := Sat.start0 w
 refine Za Tryz.func96 rfl 13 rfl kn ?_
 refine zsl <| zy <| Z3P (vs := (Z47 x)) rfl H rfl rfl fun b2 w3 H4 g5 => ?_
 refine kk <| zy <| Z3P (vs := (Z47 y)) rfl H4 rfl rfl fun b7 w8 H9 g10 => ?_
 have gr11 := g5.trans g10
 refine kk <| wv 5 (vi 0) <| znt <| Z7 <| Z5u H9 [zR w, Z0 b2 86 (Z47 x), Z0 b7 86 (Z47 y)] 8 rfl kr (fun Hx => (Hx.pk [0, 1, 2])) fun w12 H13 S14 g15 => ?_
 have gr16 := gr11.trans g15
 refine hv0 0 S14 6 (.func (.func 51) #[] #[]) ?_ (he := fun _ H' => (zl1 (H'.roCell 0 rfl hfb (fun h => h) rfl)))
 refine hv0 1 S14 7 (.agg ⟨(Z47 x)⟩) ?_ (he := fun _ H' => (zlN (vs := (Z47 x)) (H'.at 1 rfl)))
 refine hv0 3 S14 9 (.func (.func 51) #[] #[]) ?_ (he := fun _ H' => (zl1 (H'.roCell 0 rfl hfb (fun h => h) rfl)))
 refine hv0 4 S14 10 (.agg ⟨(Z47 y)⟩) ?_ (he := fun _ H' => (zlN (vs := (Z47 y)) (H'.at 2 rfl)))
 refine zhy 2 ?_
 refine zdc 8 (Z7V w12 x) ?_
 rintro _ w18 ⟨rfl, u20, g21⟩
 have H19 := H13.keepU u20
 refine ⟨_, rfl, ?_⟩
 have gr22 := gr16.trans g21
 have S23 := H19.pk [0, 1, 2]
 refine kh S23 <| zhy 5 ?_
 refine zdc 11 (Z7V w18 y) ?_
 rintro _ w25 ⟨rfl, u27, g28⟩
 have H26 := H19.keepU u27
 refine ⟨_, rfl, ?_⟩
 have gr29 := gr22.trans g28
 have S30 := H26.pk [0, 1, 2]
 refine kh S30 <| zhy 6 ?_
 refine zdc 12 (Z3S x.i y.i w25) ?_
 rintro _ w32 ⟨rfl, hw32⟩
 obtain rfl := hw32.symm
 refine ⟨_, rfl, ?_⟩
 have S33 := H26.pk [0, 1, 2]
 refine kh S33 <| hv0 7 S33 5 (vi (Z2S x.i y.i)) <| zhf <| ztn <| Zk <| ze1 (vi (Z2S x.i y.i)) ?_
 exact ⟨rfl, H26.upd 0 rfl [] ne, gr29⟩
end Go.Proofs.YtenihpghfdcpkaaGreat
namespace Go.Proofs.YtenihpghfdcpkaaGreat
open Go.RowKit Go.Shelf Go.Sort
instance : Inhabited OpR := ⟨op0⟩
def ZcN (x y : OpR) : Int := Z2S x.i y.i
def Zet (x y : OpR) : Prop := x.i < y.i
instance (x y : OpR) : Decidable (Zet x y) := by unfold Zet; exact inferInstance
theorem Z4V (x y : OpR) : ltOf ZcN x y = decide (Zet x y) := by
 unfold ltOf
 refine decide_eq_decide.2 ?_
 unfold ZcN Zet
 rcases Z3e x.i y.i with ⟨h1, e1⟩ | ⟨h1, e1⟩ | ⟨h1, e1⟩ <;> rw [e1] <;>
  first | exact iff_of_true (by decide) (by omega) | exact iff_of_false (by decide) (by omega)
theorem ZcH : SWO (ltOf ZcN) := by
 refine ⟨fun x => ?_, fun x y z h1 h2 => ?_, fun x y z h1 h2 => ?_⟩
 ·rw [Z4V]; exact decide_eq_false (by unfold Zet; omega)
 ·rw [Z4V] at *
  have := of_decide_eq_true h1; have := of_decide_eq_true h2
  unfold Zet at *
  exact decide_eq_true (by omega)
 ·rw [Z4V] at *
  have := of_decide_eq_false h1; have := of_decide_eq_false h2
  unfold Zet at *
  exact decide_eq_false (by omega)
theorem Z90 (blk off size : Nat) (w : World) {fb : Nat} (hne : fb ≠ blk) (hfb : (Z0 fb 133 [.func (.func 51) #[] #[]]).ok w) : CmpLays Tryz.prog 96 #[zp fb] Z0Y 34 ZcN blk off size w := fun m os dk _ x y =>
 (Zau (sortWorldK Z0Y 34 w blk off m dk os) x y fb ((Z0 fb _ _).stay hfb fun b hb => by
  rw [show b = fb from hb]
  have hlt := (Z0 fb _ _).lt hfb fb rfl
  unfold sortWorldK putRowK putRow mapBlock grow Sort.ahead
  simp only [Array.getElem?_append, Array.size_modify, hlt, if_true, Array.getElem?_modify]
  rw [if_neg (fun e => hne e.symm)])).mono fun _ _ h => ⟨h.1, h.2.2⟩
theorem Zc6 (w : World) (g c : Nat) (D : List OpR) (hv : (Zh 86 34 (.slice (some ⟨g, 0, none⟩) D.length c) D.length (D.flatMap Z0Y)).ok w) (h12 : D.length ≤ 12) (fb : Nat) (hne : fb ≠ g) (hfb : (Z0 fb 133 [.func (.func 51) #[] #[]]).ok w) :
  Calls Tryz.prog 95 #[.slice (some ⟨g, 0, none⟩) D.length c, .func (.func 96) #[] #[zp fb]] w fun e w' => e = .returned (.tuple #[]) ∧ ∃ D' : List OpR, D'.Perm D ∧ (D'.Pairwise fun a b => ¬ Zet b a) ∧ (Zh 86 34 (.slice (some ⟨g, 0, none⟩) D.length c) D.length (D'.flatMap Z0Y)).ok w' ∧ Upd [g] w w' := by
 obtain ⟨A, rfl⟩ : ∃ A : List OpR, A = D := ⟨D, rfl⟩
 have hg : g < w.heap.size := (Zh _ _ _ _ _).lt hv g rfl
 obtain ⟨cur, hb, hnc, hcm, hcs, htk⟩ : ∃ cur, w.heap[g]? = some (.cells cur 86 (0, 0)) ∧ A.length ≤ c ∧ c ≤ maxLen ∧ cur.size = c * 34 ∧ cur.toList.take (A.length * 34) = A.flatMap Z0Y := by
  rcases hv.2 with ⟨h, _⟩ | ⟨g', c', cur, h, _, h1, h2, h3, h4, h5⟩
  ·cases h
  ·simp only [Value.slice.injEq, Option.some.injEq, Addr.mk.injEq] at h
   obtain ⟨⟨rfl, _⟩, _, rfl⟩ := h
   exact ⟨cur, h1, h2, h3, h4, h5⟩
 have hH : HoldsK Z0Y 34 w g 0 A.toArray := fun j hj => by
  have hj' : j < A.length * 34 := by simpa using hj
  have hq : j / 34 < A.length := (Nat.div_lt_iff_lt_mul (by omega)).2 hj'
  refine ⟨?_, ?_⟩
  ·rw [get_flatK _ _ _ _ (by simpa using hj')]
   have hx : A.toArray[j / 34]! = A[j / 34] := by rw [getElem!_pos A.toArray (j / 34) (by simpa using hq)]; simp
   rw [hx]
   refine Z0L (enc := Z0Y) hv rfl Z2h (i := j / 34) (x := A[j / 34]) (List.getElem?_eq_getElem hq) (j % 34) (by have := Nat.mod_lt j (show 0 < 34 by omega); simp [Nat.blt_eq, this]) (by omega) ?_
   have hm : j % 34 < (Z0Y A[j / 34]).length := by rw [Z2h]; omega
   rw [List.getElem?_eq_getElem hm, getElem!_pos (Z0Y A[j / 34]) _ hm]; rfl
  ·unfold World.frozen?
   rw [hb]; simp
 have hbl : ∀ (n : Nat) (W : World), n ≤ 12 → Calls Tryz.prog (sortO_ren.f 15) #[u6 n] W fun e w' => (∃ l : Int, e = .returned (i6 l)) ∧ w' = W := fun n W hn =>
  (Any.bits_Len Z8v n W (by omega) (by omega)).mono fun _ _ ⟨he, hw⟩ => ⟨⟨_, he⟩, hw⟩
 have h := AnyQ.slices_SortFunc_small_sorted (P := Tryz.prog) sortO 34 Tryz.isAgg86 Tryz.sizeOf86 Z0Y Z2h (fun x v hv => List.all_eq_true.1 (Z5K x) v hv) ZcN 96 #[zp fb] ZcH g 0 c A.toArray w (enters_of Tryz.func96 (by kernel_rfl) rfl) (Z90 g 0 _ w hne hfb) hH hg (by simpa using h12) hbl
 rw [show A.toArray.size = A.length from List.size_toArray ..] at h
 refine h.mono fun e w' ⟨he, d', n, os, hp, hs, hw⟩ => ?_
 have hsz : d'.size = A.length := by simpa using hp.1
 have hp2 : d'.toList.Perm A := by
  have := hp.2.2
  have e1 : d'.extract 0 A.length = d' := by rw [← hsz]; exact Array.extract_size
  have e2 : A.toArray.extract 0 A.length = A.toArray := Array.extract_size (xs := A.toArray)
  rw [e1, e2] at this
  exact this
 refine ⟨he, d'.toList, hp2, ?_, ?_, ?_⟩
 ·rw [List.pairwise_iff_getElem]
  intro i j hi hj hij
  have hi' : i < d'.size := by simpa using hi
  have hj' : j < d'.size := by simpa using hj
  have := hs i j (Nat.zero_le _) hij (by omega)
  rw [getElem!_pos d' i hi', getElem!_pos d' j hj'] at this
  rw [Z4V] at this
  have h5 := of_decide_eq_false this
  rwa [Array.getElem_toList, Array.getElem_toList]
 ·obtain ⟨q1, q2⟩ := Z3y Z0Y 34 Z2h (by omega) d' cur (by rw [hsz, hcs]; exact Nat.mul_le_mul_right _ hnc)
  refine ⟨by rw [Z0T Z0Y 34 Z2h]; simp [hsz], .inr ⟨g, c, putCells id 0 (flatK Z0Y 34 d') cur, rfl, Nat.zero_le _, ?_, hnc, hcm, by rw [q1, hcs], by rw [← hsz]; exact q2⟩⟩
  rw [hw]
  unfold sortWorldK putRowK putRow mapBlock grow Sort.ahead
  simp only [Array.getElem?_append, Array.size_modify, hg, if_true, Array.getElem?_modify]
  rw [hb]; rfl
 ·subst hw
  refine ⟨rfl, rfl, rfl, size_sortWorldK_c _ _ _ _ _ _ _ _, fun k hk hne => ?_⟩
  have hne : g ≠ k := fun e => hne (by simp [e])
  unfold sortWorldK putRowK putRow mapBlock grow Sort.ahead
  simp only [Array.getElem?_append, Array.size_modify, hk, if_true, Array.getElem?_modify, if_neg hne]
theorem Z9b (w : World) (a : Option Addr) (c : Nat) (D : List OpR) (fb : Nat) (hv : (Z04 [Zh 86 34 (.slice a D.length c) D.length (D.flatMap Z0Y), Z0 fb 133 [.func (.func 51) #[] #[]]]).ok w) (h12 : D.length ≤ 12) :
  Calls Tryz.prog 95 #[.slice a D.length c, .func (.func 96) #[] #[zp fb]] w fun e w' => ∃ D' : List OpR, e = .returned (.tuple #[]) ∧ D'.Perm D ∧ (D'.Pairwise fun a b => ¬ Zet b a) ∧ Sat w [Zh 86 34 (.slice a D'.length c) D'.length (D'.flatMap Z0Y), Z0 fb 133 [.func (.func 51) #[] #[]], ZF w (Z04 [Zh 86 34 (.slice a D.length c) D.length (D.flatMap Z0Y), Z0 fb 133 [.func (.func 51) #[] #[]]]).fp] w' := by
 have H := Sat.start _ hv
 cases hD : D with
 | nil =>
  subst hD
  refine (Zcj a c (.func (.func 96) #[] #[zp fb]) w).mono fun e w' ⟨he, hw⟩ => ?_
  subst hw
  exact ⟨[], he, List.Perm.refl _, List.Pairwise.nil, H⟩
 | cons x D0 =>
  rw [← hD]
  have hv0 := hv.1 _ List.mem_cons_self
  have hv1 := hv.1 _ (List.mem_cons_of_mem _ List.mem_cons_self)
  obtain ⟨g, c', hs⟩ := Z0w hv0 (by rw [hD]; simp)
  simp only [Value.slice.injEq] at hs
  obtain ⟨rfl, _, rfl⟩ := hs
  have hne : fb ≠ g := fun e => (List.pairwise_cons.1 hv.2).1 _ List.mem_cons_self g rfl e.symm
  refine (Zc6 w g c D hv0 h12 fb hne hv1).mono fun e w' ⟨he, D', hp, hs, hok, hu⟩ => ?_
  have hl := hp.length_eq
  refine ⟨D', he, hp, hs, ?_⟩
  rw [hl]
  exact H.setU hu 0 rfl (by rintro b' hb; rw [List.mem_singleton.1 hb]; rfl) hok (fun b hb => .inl hb)
end Go.Proofs.YtenihpghfdcpkaaGreat
