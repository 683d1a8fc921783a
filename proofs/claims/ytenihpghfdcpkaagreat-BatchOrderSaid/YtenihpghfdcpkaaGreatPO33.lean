/- WHAT IS PROVED: contracts and plain laws of FiP, Law12M, TurnM12, FrameU, OpenC10, OpenP12, EntL, LogM12. Conditions: stated with each. -/
import Derived.Test.YtenihpghfdcpkaaGreatPO02
import Derived.Test.YtenihpghfdcpkaaGreatPO05
import Derived.Test.YtenihpghfdcpkaaGreatPO06
import Derived.Test.YtenihpghfdcpkaaGreatPO08
import Derived.Test.YtenihpghfdcpkaaGreatPO13
import Derived.Test.YtenihpghfdcpkaaGreatPO16
import Derived.Test.YtenihpghfdcpkaaGreatPO24
import Derived.Test.YtenihpghfdcpkaaGreatPO29
import Derived.Test.YtenihpghfdcpkaaGreatPO30
import Derived.Test.YtenihpghfdcpkaaGreatPO32
set_option maxHeartbeats 4000000
set_option maxRecDepth 100000
namespace Go.Proofs.YtenihpghfdcpkaaGreat
open Go.RowKit
abbrev ZfK (p0 : Option Addr) (p1 : List PrR) (p2 : Nat) : Ck := Zh 71 6 (.slice p0 p1.length p2) p1.length (p1.flatMap Z0C)
abbrev kFiP_1 (p0 : PrR) (p1 : Nat) : List Value := ([i6 p0.r, i6 p0.e, u6 p0.f, (.slice p0.ca p1 p0.cc), i6 p0.sb, i6 p0.sm] : LV)
abbrev ZfE : List Value := ([i6 0, i6 0, u6 0, (.slice none 0 0), i6 0, i6 0] : LV)
def Z6n (F E T : Int) (p : PrR) : Bool := inB F p.r && decide (p.e = E) && decide (p.f = T)
theorem ZbG (w : World) (la : Option Addr) (lc : Nat) (L : List PrR) (hL : ListAt Z0C 6 w (.slice la L.length lc) L) (hlL : L.length ≤ 1000) (m : Nat) (s tb : Nat) (F c E last T : Int) (hF : 1 ≤ F ∧ F ≤ 1099511627776) (vm vo : Value) (hs : (Z0 s 54 [i6 F, i6 c, i6 E, u6 last, vm, vo]).ok w) (ht : (Z0 tb 25 [u6 T]).ok w) (h12 : (Z14 (fun x : PrR => x.r) (Z6n F E T) L).length ≤ 12) :
  Calls Tryz.prog 44 #[(.slice la L.length lc), (.func (.func 45) #[] #[]), (.func (.func 42) #[] #[zp s, zp tb]), (i6 ((m : Int)))] w fun e w' => ∃ (oa : Option Addr) (oc : Nat) (D : List PrR), e = .returned (.slice oa (D.take m).length oc) ∧ SortN (fun x : PrR => x.r) (Z6n F E T) L D ∧ D.length ≤ L.length ∧ (Zh 71 6 (.slice oa (D.take m).length oc) (D.take m).length ((D.take m).flatMap Z0C)).ok w' ∧ Upd [] w w' ∧ ∀ q_, (Zh 71 6 (.slice oa (D.take m).length oc) (D.take m).length ((D.take m).flatMap Z0C)).fp q_ → w.heap.size ≤ q_ := by
 have H := Sat.start0 w
 have hcap := ListAt.cap hL
 refine Za Tryz.func44 rfl 49 rfl kn ?_
 let A1 := ([(.func (.func 45) #[] #[])] : LV)
 refine zsl <| zy <| zdb A1 H fun b2 w3 H4 => ?_
 refine kk <| wv 8 (.slice none 0 0) <| Z0G <| zy <| Z2l (Value.int .i64) Value.bool rfl H4 fun b6 w7 H8 => ?_
 refine kk <| wv 9 (.map (some b6)) <| Z0G <| wv 10 (.slice none 0 0) <| znt <| Z7 <| zsl <| wv 15 (.slice la L.length lc) <| wv 16 (vi L.length) <| wv 17 (vi 0) ?_
 refine znt <| Zc ?_
 have H9 := H8.addNil 71 6
 refine Zq ([10, 12, 13] ++ List.range' 17 23) (fun F_ W_ m_ => ∃ (i : Nat) (HV : List (Int × Bool)) (oa : Option Addr) (oc : Nat) (O : List PrR), F_ 17 = (vi i) ∧ F_ 10 = (.slice oa O.length oc) ∧ (i ≤ L.length) ∧ (O = Z14 (fun x : PrR => x.r) (Z6n F E T) (L.take i)) ∧ (HvOk HV (fun x : PrR => x.r) O) ∧ (O.length ≤ i) ∧ Sat w [zR w, Z0 b2 127 A1, Z0u b6 (Value.int .i64) Value.bool HV, (ZfK oa O oc)] W_ ∧ m_ = L.length - i) _ ⟨0, [], none, 0, [], (show ((vi 0) : Value) = _ by first | rfl | go_num), (by first | rfl | go_num), (Nat.zero_le _), rfl, HvOk.nil, (Nat.zero_le _), H9, rfl⟩ ?_
 rintro g10 w11 _ ⟨i, HV, oa, oc, O, v13, v14, hi, hO, hhv, hOl, H12, rfl⟩
 refine Ze 17 _ v13 ?_
 refine Ze 10 _ v14 ?_
 refine zsl <| wv 18 (.bool (decide ((i : Int) < L.length))) <| znt <| Z7 ?_
 refine zid (fun b16 g17 => ?_) fun b16 g64 => ?_
 ·refine Zm <| ztn <| Z7 <| Zc <| zsl ?_
  obtain ⟨g19, o20, c21, e22, R23⟩ := SliceOf.atD hL pr0 (show i < L.length by omega)
  refine wv 19 (.pointer (some ⟨g19, o20 + ((i : Int)).toNat * 6, none⟩)) ?_ (hr := Zd (E := 71) kr kr kn rfl e22 rfl om om)
  let A0 := kFiP_1 (L.getD i pr0) ((L.getD i pr0).C.length)
  refine wv 20 (.agg ⟨A0⟩) ?_ (hr := ZE (vs := A0) rfl kr kr kn (H12.runR 0 rfl (Z0k R23 0 kr (show o20 + ((i : Int)).toNat * 6 = o20 + i * 6 + 0 by omega)) (fun h => h)))
  refine zy <| zda (ZfE) H12 fun b25 w26 H27 => ?_
  refine kk <| zy <| Z1p A0 H27 4 fun w29 H30 => ?_
  refine kk <| Z0G <| zw1 21 (.func (.func 45) #[] #[]) (H30.cell 1 rfl rfl) <| zwN 22 A0 (H30.at 4 rfl) <| zy <| zdq 23 (ZdF w29 (L.getD i pr0)) H30 fun w33 H34 => ?_
  let A4 : Value := vi ((L.getD i pr0).r)
  refine kk <| wv 13 A4 <| Z0G <| wv 24 (.map (some b6)) <| wv 25 A4 <| wv 26 (.bool ((ZB HV ((L.getD i pr0).r)).getD false)) ?_ (hr := Z25 (kt := 3) (et := 4) (KeyTy.int kr) kr (fun w => by kernel_rfl) rfl ((L.getD i pr0).r) rfl (H34.at 2 rfl) (Z87 Value.bool _ _))
  let A2 : Value := .bool (!((ZB HV ((L.getD i pr0).r)).getD false))
  refine wv 27 A2 <| wv 28 A2 ?_
  let A5 : Value := vi ((i : Int) + 1)
  refine (ZS (!((ZB HV ((L.getD i pr0).r)).getD false))).elim (fun b36 => ?_) (fun b36 => ?_)
  ·have g37 := Zf b36
   refine Z0z 28 (.bool true) (congrArg Value.bool b36) ?_
   refine wy 4 28 true 29 (.func (.func 42) #[] #[(pt s 0), (pt tb 0)]) <| wy 4 28 true 30 (.agg ⟨A0⟩) ?_ (hr := zlN (vs := A0) (H34.at 4 rfl))
   refine Z48 (Z0a 4 28 true rfl kr rfl kr) (fun Kq kq => ?_)
   refine zdq 31 (Zcx w33 (L.getD i pr0) s tb F c E last T hF vm vo (H34.roCk 0 rfl hs (fun _ _ h => h)) (H34.roCk 0 rfl ht (fun _ _ h => h))) H34 ?_
   intro w40 H41
   refine kq _ _ <| wv 32 (.bool (Z6n F E T (L.getD i pr0))) <| znt ?_
   refine (ZS (Z6n F E T (L.getD i pr0))).elim (fun b43 => ?_) (fun b43 => ?_)
   ·refine Z4z _ b43 ?_
    refine zsl <| wv 33 (.map (some b6)) <| wv 34 A4 <| zy <| Z0P (kt := 3) (et := 4) rfl H41 2 rfl (KeyTy.int kr) kr rfl ((L.getD i pr0).r) rfl true rfl fun w45 H46 => ?_
    refine kk <| znt <| Zl <| wv 35 (.slice oa O.length oc) <| zwN 36 A0 (H46.at 4 rfl) <| zy <| Z2J 71 6 64 (.agg ⟨(ZfE)⟩) [(0, (.agg ⟨A0⟩))] A0 H46 fun b48 w49 H50 => ?_
    have H51 := H50.ct 5 rfl (Zh 71 6 (.slice (some ⟨b48, 0, none⟩) 1 1) 1 ([(L.getD i pr0)].flatMap Z0C)) (by rw [(show (A0 : LV) = [(L.getD i pr0)].flatMap Z0C by kernel_rfl)])
    refine kk <| zy <| Z0g (T := 41) (e := 71) (size := 6) (bytes := 64) rfl H51 kr 3 5 rfl rfl rfl rfl (Z07 Z0C Z5l [(L.getD i pr0)]) om om fun v53 w54 H55 => ?_
    have H58 := H55.ct 3 rfl (Zh 71 6 v53 ((O ++ [(L.getD i pr0)]).length) ((O ++ [(L.getD i pr0)]).flatMap Z0C)) ja
    obtain ⟨a56, c57, rfl⟩ := Z1 (H58.at 3 rfl)
    let A3 : Value := .slice a56 ((O ++ [(L.getD i pr0)]).length) c57
    refine kk <| wv 10 A3 <| Zn <| Z6 <| ztn <| Zl <| zwi 39 ((i : Int) + 1) <| wv 17 A5 <| Zn ?_
    have H59 := H58.pk [0, 1, 2, 3]
    refine Z5 ?_ _ ⟨(i + 1), (Z2p HV ((L.getD i pr0).r) true), a56, c57, (O ++ [(L.getD i pr0)]), rfl, (show (A3 : Value) = _ by first | rfl | go_num), om, (by rw [Z1b (show L[i]? = some (L.getD i pr0) by rw [List.getD_eq_getElem?_getD, List.getElem?_eq_getElem (show i < L.length by omega)]; rfl), ← hO]; exact (Z6O (by rw [← hhv]; exact (by have q := b36; simpa using q)) b43).symm), (HvOk.put (num := (fun x : PrR => x.r)) (x := (L.getD i pr0)) hhv), (by first | omega | (simp only [List.length_append, List.length_cons, List.length_nil]; omega)), H59, rfl⟩ om
    exact zs
   refine Z46 _ b43 ?_
   refine Zm <| Z6 <| ztn <| Zl <| zwi 39 ((i : Int) + 1) <| wv 17 A5 <| Zn ?_
   have H60 := H41.pk [0, 1, 2, 3]
   refine Z5 ?_ _ ⟨(i + 1), HV, oa, oc, O, rfl, rfl, om, (by rw [Z1b (show L[i]? = some (L.getD i pr0) by rw [List.getD_eq_getElem?_getD, List.getElem?_eq_getElem (show i < L.length by omega)]; rfl), ← hO]; exact (Z78 b43).symm), hhv, (by first | omega | (simp only [List.length_append, List.length_cons, List.length_nil]; omega)), H60, rfl⟩ om
   exact zs
  have g61 := Z3 b36
  refine Z0z 28 (.bool false) (congrArg Value.bool b36) ?_
  iterate 3 refine wn 4 28 true ?_
  refine wv 32 (.bool false) <| znt <| Z1W rfl ?_
  refine Zm <| Z6 <| ztn <| Zl <| zwi 39 ((i : Int) + 1) <| wv 17 A5 <| Zn ?_
  have H63 := H34.pk [0, 1, 2, 3]
  refine Z5 ?_ _ ⟨(i + 1), HV, oa, oc, O, rfl, rfl, om, (by rw [Z1b (show L[i]? = some (L.getD i pr0) by rw [List.getD_eq_getElem?_getD, List.getElem?_eq_getElem (show i < L.length by omega)]; rfl), ← hO]; exact (Z6T (by rw [← hhv]; exact (by have q := b36; simpa using q))).symm), hhv, (by first | omega | (simp only [List.length_append, List.length_cons, List.length_nil]; omega)), H63, rfl⟩ om
  exact zs
 refine zxb <| ztn <| zsl <| wv 40 (.slice oa O.length oc) <| wv 41 (.func (.func 91) #[] #[(pt b2 0)]) <| zy ?_
 have hiL : i = L.length := by omega
 rw [hiL, List.take_length] at hO
 refine zdc 42 (Z9C w11 oa oc O b2 (H12.fn [3, 1]) (by rw [hO]; exact h12)) ?_
 rintro _ w67 ⟨D, rfl, p68, s69, T70⟩
 have hDl : D.length ≤ L.length := by have q := p68.length_eq; omega
 have H71 := H12.tl [(ZfK oa D oc), Z0 b2 127 A1] [3, 1] [0, 2] T70 [2, 1, 3, 0]
 refine ⟨_, rfl, ?_⟩
 refine kk <| znt <| Z7 <| Ze 10 (.slice oa D.length oc) (show ((.slice oa O.length oc) : Value) = _ by rw [p68.length_eq]) ?_
 have hcD := ListAt.cap (ListAt.row (enc := Z0C) (sz := 6) Z2i (by decide) (H71.at 3 rfl))
 refine Zl <| wv 43 (.slice oa D.length oc) <| wv 44 (.slice oa D.length oc) <| wv 45 (vi D.length) <| wv 46 (vi m) <| wv 47 (vi (min D.length m : Nat)) ?_ (hr := Zg5 (k := .i64) (a := (D.length : Int)) (b := (m : Int)) (z := ((min D.length m : Nat) : Int)) rfl rfl om)
 refine wv 48 (.slice oa (min D.length m) oc) ?_ (hr := Z7f (E := 71) (q := (min D.length m)) kr kr rfl rfl om om)
 refine wv 8 (.slice oa (min D.length m) oc) <| znt <| Zk <| ze1 (.slice oa (min D.length m) oc) ?_
 exact ⟨oa, oc, D, by rw [show min D.length m = (D.take m).length by rw [List.length_take, Nat.min_comm]], SortN.of (lt := Zex) (by rw [← hO]; exact p68) (s69.imp fun h => h), hDl, Z60 Z2i (H71.at 3 rfl), H71.upd 0 rfl [] ne, (fun q_ hq_ => H71.fresh 0 rfl (fun _ h => h) 3 rfl rfl q_ (by cases oa with | none => exact hq_ | some _ => exact hq_))⟩
section
variable {M : List (Int × Z1q)}
theorem OpenOk.nil : OpenOk [] := fun i => by simp [ZB, Z1K]
theorem OpenOk.put {a : Int} {v : Z1q} (h : OpenOk M) (hv : v.cl ≤ 1000000 ∧ v.sq ≤ 1000000) : OpenOk (Z2p M a v) := fun i => by
 by_cases e : i = a
 ·subst e; rw [Z5s]; exact hv
 ·rw [Z55 _ _ _ _ e]; exact h i
theorem open3 : OpenOk (Z17 (ZO 3)) := by
 have e : Z17 (ZO 3) = Z2p (Z2p (Z2p [] (Z31 0).i ⟨(Z31 0).cl, (Z31 0).sq, (Z31 0).h, (Z31 0).t⟩) (Z31 1).i ⟨(Z31 1).cl, (Z31 1).sq, (Z31 1).h, (Z31 1).t⟩) (Z31 2).i ⟨(Z31 2).cl, (Z31 2).sq, (Z31 2).h, (Z31 2).t⟩ := rfl
 rw [e]
 exact ((OpenOk.nil.put ⟨by show ((0 : Nat) : Int) ≤ 1000000; decide, by show (50 : Int) ≤ 1000000; decide⟩).put ⟨by show ((1 : Nat) : Int) ≤ 1000000; decide, by show (50 : Int) ≤ 1000000; decide⟩).put ⟨by show ((2 : Nat) : Int) ≤ 1000000; decide, by show (50 : Int) ≤ 1000000; decide⟩
end
section
variable {α : Type} {num : α → Int} {may : α → Bool} {L D : List α}
theorem Zch {n : Nat} (h : ∀ x ∈ L, 0 ≤ num x ∧ num x < n) : (Z14 num may L).length ≤ n := by
 have hd := Z65 (num := num) (may := may) (L := L)
 have hm : ∀ x ∈ Z14 num may L, 0 ≤ num x ∧ num x < n := fun x hx => h x (Z7O hx).1
 have := Z5e n ((Z14 num may L).map fun x => (num x).toNat) ?_ fun y hy => ?_
 ·simpa using this
 ·rw [List.Nodup, List.pairwise_map]
  refine (List.pairwise_iff_forall_sublist.2 fun {a b} hs => ?_)
  have ha : a ∈ Z14 num may L := hs.subset (by simp)
  have hb : b ∈ Z14 num may L := hs.subset (by simp)
  have hne := List.pairwise_iff_forall_sublist.1 hd hs
  have h1 := hm a ha; have h2 := hm b hb
  intro e; exact hne (by omega)
 ·obtain ⟨x, hx, rfl⟩ := List.mem_map.1 hy
  have := hm x hx; omega
theorem SortN.id (hs : SortN num may L D) (hup : L.Pairwise fun a b => num a < num b) (hm : ∀ x ∈ L, may x = true) : D = L := by
 refine Z5c hs.up hup fun x => ?_
 rw [hs.mem]
 constructor
 ·exact fun h => List.mem_of_find?_eq_some h
 ·intro hx
  obtain ⟨z, hz⟩ := Option.isSome_iff_exists.1 (List.find?_isSome (p := fun y => decide (num y = num x) && may y) (xs := L) |>.2 ⟨x, hx, by simp [hm x hx]⟩)
  rw [hz]
  have h1 := List.mem_of_find?_eq_some hz
  have h2 := List.find?_some hz
  simp only [Bool.and_eq_true, decide_eq_true_eq] at h2
  obtain ⟨i, hi, ei⟩ := List.mem_iff_getElem.1 h1
  obtain ⟨j, hj, ej⟩ := List.mem_iff_getElem.1 hx
  rcases Nat.lt_trichotomy i j with q | q | q
  ·have := List.pairwise_iff_getElem.1 hup i j hi hj q
   rw [ei, ej] at this; omega
  ·subst q; rw [ei] at ej; rw [ej]
  ·have := List.pairwise_iff_getElem.1 hup j i hj hi q
   rw [ei, ej] at this; omega
end
structure CeV (F last tm : Int) (Lb : List Signed) (c : CeR) : Prop where
 x : CoB c.x
 S : ∀ i, i < c.S.length → StB (c.S.getD i Zi)
 len : c.S.length ≤ 12
 sm : Z3x ⟨c.x.cl, c.x.seq⟩
 rt : Z0r F 3 Lb c.x c.S = true
 time : last < Zz c.S ∧ Zz c.S ≤ tm
structure PrV (F last tm : Int) (Lb : List Signed) (p : PrR) : Prop where
 r : 0 ≤ p.r ∧ p.r < 3 * F + 1
 e : p.e = 4
 f : p.f = tm
 sb : p.sb = p.r
 sm : Z0x Lb p.sb p.sm (Z1a p) = true
 len : p.C.length ≤ 5
 ce : ∀ c ∈ p.C, CeV F last tm Lb c
 up : p.C.Pairwise fun a b => Z6p a b = true
section
variable {F last tm : Int} {Lb Lb' : List Signed} {B : List Ck} {p q : PrR} {PS PD DP : List PrR} {w : World}
theorem PrG.val (h : PrG F last tm Lb B p) : PrV F last tm Lb p :=
 ⟨h.r, h.e, h.f, h.sb, h.sm, h.len, fun c hc => ⟨(h.tab.ct c hc).x, (h.tab.ct c hc).S, (h.tab.ct c hc).len, h.tab.sm c hc, h.tab.rt c hc, h.time c hc⟩, h.tab.up⟩
theorem PrG.prk (h : PrG F last tm Lb B p) (hb : (Z0s B).ok w) : PrK w p :=
 ⟨bag_ce hb h.inn, Nat.le_trans h.len (by decide), fun i hi => hb _ (h.tab.ct _ (Z1d hi)).bag, fun i hi => Nat.le_trans (h.tab.ct _ (Z1d hi)).len (by decide)⟩
theorem PrG.may (h : PrG F last tm Lb B p) : Z6n F 4 tm p = true := by
 unfold Z6n inB
 rw [decide_eq_true h.r.1, decide_eq_true h.r.2, decide_eq_true h.e, decide_eq_true h.f]; rfl
theorem PsF.up (h : PsF F last tm Lb B PS) : PS.Pairwise fun a b => a.r < b.r := by
 have h1 : (PS.map (·.r)).Pairwise (· < ·) := by
  rw [h.nums, List.pairwise_map]
  exact List.pairwise_lt_range.imp fun h => by omega
 exact List.pairwise_map.1 h1
theorem PsF.dp (h : PsF F last tm Lb B PS) (hs : SortN (fun x : PrR => x.r) (Z6n F 4 tm) PS DP) : DP = PS := hs.id h.up fun x hx => (h.all x hx).may
theorem PsF.lim (h : PsF F last tm Lb B PS) (hF : 1 ≤ F ∧ F ≤ 2) {m : PrR → Bool} : (Z14 (fun x : PrR => x.r) m PS).length ≤ 12 :=
 Nat.le_trans (Zch (n := 7) fun x hx => by have := (h.all x hx).r; omega) (by decide)
theorem PsF.len (h : PsF F last tm Lb B PS) (hF : 1 ≤ F) : (PS.length : Int) = 3 * F + 1 := by
 have := h.length; omega
theorem Z6J {β γ : Type} {key : β → γ} {X Y : List β} {y : β} (h : Y.map key = X.map key) (hy : y ∈ Y) : ∃ x ∈ X, key y = key x := by
 have : key y ∈ Y.map key := List.mem_map_of_mem hy
 rw [h] at this
 obtain ⟨x, hx, e⟩ := List.mem_map.1 this
 exact ⟨x, hx, e.symm⟩
theorem ce_key {c d : CeR} (e : (c.x, c.S) = (d.x, d.S)) : c.x = d.x ∧ c.S = d.S := by simpa using e
theorem ZcW (e : Zba p = Zba q) : Z1a p = Z1a q := by
 unfold Zba at e
 simp only [Prod.mk.injEq] at e
 obtain ⟨e1, e2, e3, _, _, e6⟩ := e
 have hl : p.C.length = q.C.length := by simpa using congrArg List.length e6
 have hc : Z6h p.C = Z6h q.C := by
  have hpc : ∀ C : List CeR, Z6h C = (C.map fun c => (c.x, c.S)).flatMap fun y => [ZV y.1, Z4 (y.2.length : Int)].flatten ++ Z76 y.2 := fun C => by
   unfold Z6h
   rw [List.flatMap_map]; rfl
  rw [hpc, hpc, e6]
 unfold Z1a Z1O
 rw [e1, e2, e3, hl, hc]
theorem Z9w {C D : List CeR} (e : C.map (fun c => (c.x, c.S)) = D.map fun c => (c.x, c.S)) (h : D.Pairwise fun a b => Z6p a b = true) : C.Pairwise fun a b => Z6p a b = true := by
 have f : ∀ (a b : Zg × List Z9), Bool := fun a b => decide (a.1.cl < b.1.cl) || (decide (a.1.cl = b.1.cl) && decide (a.1.seq < b.1.seq))
 have hd : (D.map fun c => (c.x, c.S)).Pairwise fun a b => (decide (a.1.cl < b.1.cl) || (decide (a.1.cl = b.1.cl) && decide (a.1.seq < b.1.seq))) = true := List.pairwise_map.2 h
 rw [← e] at hd
 exact List.pairwise_map.1 hd
theorem PrV.key (h : PrV F last tm Lb q) (e : Zba p = Zba q) : PrV F last tm Lb p := by
 have hb := ZcW e
 unfold Zba at e
 simp only [Prod.mk.injEq] at e
 obtain ⟨e1, e2, e3, e4, e5, e6⟩ := e
 have hl : p.C.length = q.C.length := by simpa using congrArg List.length e6
 refine ⟨by rw [e1]; exact h.r, by rw [e2]; exact h.e, by rw [e3]; exact h.f, by rw [e4, e1]; exact h.sb, by rw [e4, e5, hb]; exact h.sm, by rw [hl]; exact h.len, fun c hc => ?_, Z9w e6 h.up⟩
 obtain ⟨d, hd, ed⟩ := Z6J e6 hc
 obtain ⟨ex, eS⟩ := ce_key ed
 have hv := h.ce d hd
 exact ⟨by rw [ex]; exact hv.x, by rw [eS]; exact hv.S, by rw [eS]; exact hv.len, by rw [ex]; exact hv.sm, by rw [ex, eS]; exact hv.rt, by rw [eS]; exact hv.time⟩
theorem ZeJ (h : PsF F last tm Lb B PS) {Q : Nat} (hc : ZgN (PS.take Q) PD) : ∀ p ∈ PD, PrV F last tm Lb p := fun p hp => by
 obtain ⟨q, hq, e⟩ := Z6J hc hp
 exact (h.all q (List.mem_of_mem_take hq)).val.key e
theorem PrV.sms (h : ∀ p ∈ PD, PrV F last tm Lb p) : PSm PD := fun p hp c hc => by
 have hv := (h p hp).ce c hc
 exact ⟨hv.sm, hv.len, fun i hi => (hv.S i hi).1⟩
theorem PrV.more (h : PrV F last tm Lb p) (hp : Lb <+: Lb') : PrV F last tm Lb' p :=
 ⟨h.r, h.e, h.f, h.sb, Z3O hp h.sm, h.len, fun c hc => ⟨(h.ce c hc).x, (h.ce c hc).S, (h.ce c hc).len, (h.ce c hc).sm, Z7M hp (h.ce c hc).rt, (h.ce c hc).time⟩, h.up⟩
end
section
variable {last tm : Int} {lg : NmD → Bool} {Z : List CeR} {O : List Z1q} {c : CeR}
end
section
variable {α : Type} {num : α → Int} {may : α → Bool} {L L' D D' : List α} {x : α}
theorem Z97 : (Z14 num may L).length ≤ L.length := by
 have key : ∀ n, (Z14 num may (L.take n)).length ≤ (L.take n).length := fun n => by
  induction n with
  | zero => simp [Z14]
  | succ n ih =>
   rcases Nat.lt_or_ge n L.length with q | q
   ·rw [Z1b (List.getElem?_eq_getElem q), List.take_add_one, List.getElem?_eq_getElem q]
    have := Z9D (num := num) (may := may) (D := Z14 num may (L.take n)) (x := L[n])
    simp only [Option.toList_some, List.length_append, List.length_cons, List.length_nil]
    omega
   ·rw [List.take_of_length_le (by omega)]; rw [List.take_of_length_le q] at ih; exact ih
 have := key L.length
 rwa [List.take_length] at this
theorem SortN.two (h : SortN num may (L ++ L) D) (h' : SortN num may L D') : D = D' := h.same h' fun n => by
 rw [List.find?_append]
 cases L.find? fun y => decide (num y = n) && may y <;> rfl
end
section
variable {F last tm : Int} {Lb : List Signed} {B : List Ck} {PS L DP : List PrR} {OS : List OpR} {TS : List TbR} {w : World} {o : OpR} {t : TbR}
theorem OpG.opk (h : OpG B o) (hb : (Z0s B).ok w) : OpK w o := ⟨hb _ h.inn, by rw [h.len]; decide⟩
theorem TbG.tbk {F : Int} (h : TbG F Lb B t) (hb : (Z0s B).ok w) : TbK w t := ⟨hb _ h.inn, Nat.le_trans h.len (by decide)⟩
end
end Go.Proofs.YtenihpghfdcpkaaGreat
namespace Go.Proofs.YtenihpghfdcpkaaGreat
open Go.ChangeShapes Go.WideShapes Go.ChangeAt Go.RowKit Go.Deep
section
variable {H : Type} {enc : TypeId × Value → H} {P : Program} {W : World}
theorem ZdP {z : Int} (h : (Lit.int .u64 z).wf = true) : 0 ≤ z ∧ z ≤ 18446744073709551615 := by
 simpa [Lit.wf, IntKind.min, IntKind.max, IntKind.signed, IntKind.bits] using h
def ZdD (w : World) (a : Addr) (x : Int) : Prop := w.cell? a = some (u6 x)
theorem Zec {t e : TypeId} (ht : P.underlying t = some (.slice e)) (he : P.underlying e = some (.int .u64)) (hc : P.cellsOf e = 1) {v : Value} {d : DataW H} {ps : List MemPlace} (hv : ∃ a len cap, v = .slice a len cap)
  (h : DataW.Trod enc P W 0 (fun _ => true) true t v d ps) : ∃ xs, (∀ x ∈ xs, 0 ≤ x ∧ x ≤ 18446744073709551615) ∧ ListAt Z4j 1 W v xs := by
 obtain ⟨xs, hx⟩ := Z3u (R := fun w a x => ZdD w a x ∧ 0 ≤ x ∧ x ≤ 18446744073709551615) ht hc (by omega) hv h (fun cs n y b off hl hcs hy => by
  obtain ⟨z, rfl, hz⟩ := Z1E he hy
  exact ⟨z, hcs 0 (by simp), ZdP hz⟩)
 refine ⟨xs, fun n hn => ?_, SliceOf.imp hx fun a x h j u hj => ?_⟩
 ·obtain ⟨i, hi, rfl⟩ := List.mem_iff_getElem.1 hn
  obtain ⟨b, off, cap, _, _, hall⟩ := hx.some (by omega)
  exact (hall i hi).2
 ·match j, hj with
  | 0, hj =>
   simp only [Z4j, List.getElem?_cons_zero, Option.some.injEq] at hj
   subst hj
   have := h.1
   obtain ⟨b, o, s⟩ := a
   unfold ZdD at this
   have e : (⟨b, o, s⟩ : Addr).add 0 = ⟨b, o, s⟩ := by cases s <;> simp [Addr.add]
   rw [e]; exact this
  | _ + 1, hj => simp [Z4j] at hj
end
section
variable {H : Type} {enc : TypeId × Value → H} {W : World}
theorem Z7q {P : Program} {t : TypeId} {fs : Array Field} {n : Nat} {cs : List Value} {y : DataW H × List MemPlace} (ht : P.underlying t = some (.struct fs)) (h : DataW.trod enc P W 0 (fun _ => true) true n t cs = some y) :
  cs.length = P.cellsOf t ∧ ∃ m, ∀ (i : Nat) (g : Field), fs[i]? = some g → ∃ z, DataW.trod enc P W 0 (fun _ => true) true m g.type ((cs.drop g.offset).take (P.cellsOf g.type)) = some z := by
 obtain ⟨xs, m, _, _, hl, hx, hf⟩ := DataW.trod_struct ht h
 refine ⟨hl, m, fun i g hg => ?_⟩
 have h1 := hf i g hg
 have hi : i < xs.length := by
  rw [hx]
  obtain ⟨h, _⟩ := Array.getElem?_eq_some_iff.1 hg
  exact h
 rw [List.getElem?_eq_getElem hi] at h1
 exact ⟨_, h1⟩
theorem Z1X {cs A rest : List Value} {o n : Nat} (h : (cs.drop o).take n = A) (hr : cs.drop (o + n) = rest) : cs.drop o = A ++ rest := by
 rw [← h, ← hr, ← List.drop_drop, List.take_append_drop]
theorem ZaX {cs : List Value} {n : Nat} (h : cs.length = n) : cs.drop n = [] := by rw [← h, List.drop_length]
theorem Zcq {t i : TypeId} {f g : Field} {n : Nat} {cs : List Value} {y : DataW H × List MemPlace} (ht : Tryz.prog.underlying t = some (.struct #[f, g])) (hi : Tryz.prog.underlying i = some (.int .i64)) (hf : f.type = i) (hg : g.type = i) (of : f.offset = 0) (og : g.offset = 1) (hc : Tryz.prog.cellsOf i = 1) (hn : Tryz.prog.cellsOf t = 2)
  (h : DataW.trod enc Tryz.prog W 0 (fun _ => true) true n t cs = some y) : ∃ a b : Int, cs = [i6 a, i6 b] ∧ (-9223372036854775808 ≤ a ∧ a ≤ 9223372036854775807) ∧ (-9223372036854775808 ≤ b ∧ b ≤ 9223372036854775807) := by
 obtain ⟨hl, m, hq⟩ := Z7q ht h
 obtain ⟨z0, h0⟩ := hq 0 _ rfl
 obtain ⟨z1, h1⟩ := hq 1 _ rfl
 simp only [List.getElem_toArray, List.getElem_cons_zero, List.getElem_cons_succ, hf, hg, of, og, hc] at h0 h1
 obtain ⟨a, e0, w0⟩ := Z1E (k := .i64) hi h0
 obtain ⟨b, e1, w1⟩ := Z1E (k := .i64) hi h1
 refine ⟨a, b, ?_, Zbs w0, Zbs w1⟩
 have := Z1X e0 (Z1X e1 (ZaX (hl.trans hn)))
 simpa using this
theorem Zcb {n : Nat} {cs : List Value} {y : DataW H × List MemPlace} (h : DataW.trod enc Tryz.prog W 0 (fun _ => true) true n 59 cs = some y) : ∃ a b : Int, cs = [i6 a, i6 b] ∧ (-9223372036854775808 ≤ a ∧ a ≤ 9223372036854775807) ∧ (-9223372036854775808 ≤ b ∧ b ≤ 9223372036854775807) :=
 Zcq Tryz.underlying59 Tryz.underlying3 rfl rfl rfl rfl (by kernel_rfl) (by kernel_rfl) h
theorem agg_of {v : Value} {cs : List Value} (hv : ∃ ws, v = .agg ws) (h : v.cells.toList = cs) : v = .agg ⟨cs⟩ := by
 obtain ⟨⟨l⟩, rfl⟩ := hv
 simp only [Value.cells] at h; rw [h]
end
section
variable {H : Type} {enc : TypeId × Value → H} {W : World}
end
end Go.Proofs.YtenihpghfdcpkaaGreat
namespace Go.Proofs.YtenihpghfdcpkaaGreat
open Go.RowKit
section
variable {L : List Ck} {A : Ck} {p : PrR} {x : CeR} {C : List CeR} {D : List PrR} {w : World} {a b : Int} {S : List Z9}
theorem Zgo {last tm : Int} {lg : NmD → Bool} {Z : List CeR} {O : List Z1q} (hz : ∀ c ∈ Z, Zfb c) (h : O.Perm ((Z7n last tm lg Z).map (·.2))) : O.length ≤ 12 := by
 rw [h.length_eq, List.length_map]; exact (Z8H hz).len
end
def nmC (c : CeR) : NmD := ⟨c.x.cl, c.x.seq⟩
def nmM (Z : List CeR) : List (NmD × Bool) := Z.foldl (fun M c => Z2p M (nmC c) true) []
section
variable {last tm : Int} {lg : NmD → Bool} {Z A C : List CeR} {O : List Z1q} {c : CeR} {M M' X : List (NmD × Bool)} {k j : Nat} {a : NmD} {e : Z1q}
theorem Z9t (h : ∀ c ∈ Z, Z3L last tm lg (Z1o c) = false) : (Z7n last tm lg Z).map (·.1) = (nmM Z).map (·.1) := by
 have key : ∀ (L : List CeR) (M : Zbh) (N : List (NmD × Bool)), M.map (·.1) = N.map (·.1) → (∀ c ∈ L, Z3L last tm lg (Z1o c) = false) → (L.foldl (fun M c => Z4i last tm lg M (Z1o c)) M).map (·.1) = (L.foldl (fun M c => Z2p M (nmC c) true) N).map (·.1) := by
  intro L
  induction L with
  | nil => intro M N h _; exact h
  | cons c L ih =>
   intro M N h hs
   rw [List.foldl_cons, List.foldl_cons]
   refine ih _ _ ?_ fun d hd => hs d (by simp [hd])
   have hsc := hs c (by simp)
   have hn : Z5G (Z1o c) = nmC c := rfl
   cases hq : ZB M (Z5G (Z1o c)) with
   | none => rw [Z6L hsc hq, Z4G, Z4G, hn, h]
   | some v =>
    have hm : nmC c ∈ M.map (·.1) := by
     have := Zd9 hq
     rw [← hn]; exact List.mem_map.2 ⟨_, this, rfl⟩
    rw [Z6Q hsc hq, Z4G, ← h, if_pos hm]
    split
    ·rw [Z4G, hn, if_pos hm]
    ·rfl
 exact key Z [] [] rfl h
theorem Zft : ∀ y ∈ nmM Z, y.2 = true := by
 have key : ∀ (L : List CeR) (M : List (NmD × Bool)), (∀ y ∈ M, y.2 = true) → ∀ y ∈ L.foldl (fun M c => Z2p M (nmC c) true) M, y.2 = true := by
  intro L
  induction L with
  | nil => intro M h; exact h
  | cons d L ih =>
   intro M h
   refine ih _ fun y hy => ?_
   rcases Z5y hy with rfl | hy
   ·rfl
   ·exact h y hy
 exact key Z [] (by simp)
structure DueI (O : List Z1q) (j : Nat) (X : List (NmD × Bool)) : Prop where
 keys : (X.map (·.1)).Perm ((O.drop j).map Z5G)
 nd : (X.map (·.1)).Nodup
 tr : ∀ y ∈ X, y.2 = true
theorem DueI.start (hsm : ∀ c ∈ Z, Zfb c) (hO : O.Perm ((Z7n last tm lg Z).map (·.2))) (h : ∀ c ∈ Z, Z3L last tm lg (Z1o c) = false) : DueI O 0 (nmM Z) := by
 have hok := Z8H (last := last) (tm := tm) (lg := lg) hsm
 have hk := Z9t h
 have he : (Z7n last tm lg Z).map (·.1) = ((Z7n last tm lg Z).map (·.2)).map Z5G := by
  rw [List.map_map]
  exact List.map_congr_left fun x hx => hok.nm x hx
 refine ⟨?_, by rw [← hk]; exact hok.nd, Zft⟩
 rw [← hk, he, List.drop_zero]
 exact (hO.map Z5G).symm
theorem DueI.len (hsm : ∀ c ∈ Z, Zfb c) (hO : O.Perm ((Z7n last tm lg Z).map (·.2))) (h : ∀ c ∈ Z, Z3L last tm lg (Z1o c) = false) : O.length = (nmM Z).length := by
 have hk := congrArg List.length (Z9t h)
 simp only [List.length_map] at hk
 rw [hO.length_eq, List.length_map, hk]
theorem ZeD (hsm : ∀ c ∈ Z, Zfb c) (hO : O.Perm ((Z7n last tm lg Z).map (·.2))) : (O.map Z5G).Nodup := by
 have hok := Z8H (last := last) (tm := tm) (lg := lg) hsm
 have he : (Z7n last tm lg Z).map (·.1) = ((Z7n last tm lg Z).map (·.2)).map Z5G := by
  rw [List.map_map]
  exact List.map_congr_left fun x hx => hok.nm x hx
 refine ((hO.map Z5G).nodup_iff).2 ?_
 rw [← he]; exact hok.nd
theorem Zg7 {x y : Z1q} {i q : Nat} (hs : O.Pairwise fun a b => ¬ Zbd b a) (hx : O[i]? = some x) (hy : O[q]? = some y) (hq : q < i) : decide (x.t < y.t) = false := by
 obtain ⟨h1, e1⟩ := List.getElem?_eq_some_iff.1 hx
 obtain ⟨h2, e2⟩ := List.getElem?_eq_some_iff.1 hy
 have := List.pairwise_iff_getElem.1 hs q i h2 h1 hq
 rw [e1, e2] at this
 unfold Zbd at this
 exact decide_eq_false fun h => this (.inl h)
theorem Z8B {x y : Z1q} {i q : Nat} (hn : (O.map Z5G).Nodup) (hx : O[i]? = some x) (hy : O[q]? = some y) (hq : q < i) : decide (x.cl = y.cl ∧ x.sq = y.sq) = false := by
 obtain ⟨h1, e1⟩ := List.getElem?_eq_some_iff.1 hx
 obtain ⟨h2, e2⟩ := List.getElem?_eq_some_iff.1 hy
 refine decide_eq_false fun h => ?_
 have := List.pairwise_iff_getElem.1 hn q i (by simpa using h2) (by simpa using h1) hq
 simp only [List.getElem_map, e1, e2] at this
 apply this
 show (⟨y.cl, y.sq⟩ : NmD) = ⟨x.cl, x.sq⟩
 rw [h.1, h.2]
end
end Go.Proofs.YtenihpghfdcpkaaGreat
