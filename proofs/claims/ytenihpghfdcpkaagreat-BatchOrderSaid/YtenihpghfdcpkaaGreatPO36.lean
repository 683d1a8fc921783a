/- WHAT IS PROVED: contracts and plain laws of FiT. Conditions: stated with each. -/
import Derived.Test.YtenihpghfdcpkaaGreatPO02
import Derived.Test.YtenihpghfdcpkaaGreatPO05
import Derived.Test.YtenihpghfdcpkaaGreatPO29
import Derived.Test.YtenihpghfdcpkaaGreatPO30
import Derived.Test.YtenihpghfdcpkaaGreatPO35
set_option maxHeartbeats 4000000
set_option maxRecDepth 100000
namespace Go.Proofs.YtenihpghfdcpkaaGreat
open Go.RowKit
abbrev ZfU (p0 : Option Addr) (p1 : List TbR) (p2 : Nat) : Ck := Zh 89 2 (.slice p0 p1.length p2) p1.length (p1.flatMap Z0U)
abbrev Z53 (p0 : TbR) (p1 : Nat) : List Value := ([i6 p0.i, (.slice p0.da p1 p0.dc)] : LV)
theorem Zct (w : World) (la : Option Addr) (lc : Nat) (L : List TbR) (hL : ListAt Z0U 2 w (.slice la L.length lc) L) (hlL : L.length ≤ 1000) (m : Nat) (F c E last : Int) (vm : Value) (mo : Nat) (M : List (Int × Z1q)) (hmo : MapAt w mo (Value.int .i64) Z2y M) (s : Nat) (hs : (Z0 s 54 ([i6 F, i6 c, i6 E, u6 last, (vm), (.map (some mo))] : LV)).ok w) (ob hm : Nat) (X : List (Int × Bool)) (hob : (Z0 ob 129 [.map (some hm)]).ok w) (hhm : MapAt w hm (Value.int .i64) Value.bool X) (h12 : (Z14 (fun x : TbR => x.i) (Z5Y M X) L).length ≤ 12) :
  Calls Tryz.prog 54 #[(.slice la L.length lc), (.func (.func 55) #[] #[]), (.func (.func 53) #[] #[zp s, zp ob]), (i6 ((m : Int)))] w fun e w' => ∃ (oa : Option Addr) (oc : Nat) (D : List TbR), e = .returned (.slice oa (D.take m).length oc) ∧ SortN (fun x : TbR => x.i) (Z5Y M X) L D ∧ D.length ≤ L.length ∧ (Zh 89 2 (.slice oa (D.take m).length oc) (D.take m).length ((D.take m).flatMap Z0U)).ok w' ∧ Upd [] w w' ∧ ∀ q_, (Zh 89 2 (.slice oa (D.take m).length oc) (D.take m).length ((D.take m).flatMap Z0U)).fp q_ → w.heap.size ≤ q_ := by
 have H := Sat.start0 w
 have hcap := ListAt.cap hL
 refine Za Tryz.func54 rfl 49 rfl kn ?_
 refine zsl <| zy <| zdb ([(.func (.func 55) #[] #[])] : LV) H fun b2 w3 H4 => ?_
 refine kk <| wv 8 (.slice none 0 0) <| Z0G <| zy <| Z2l (Value.int .i64) Value.bool rfl H4 fun b6 w7 H8 => ?_
 refine kk <| wv 9 (.map (some b6)) <| Z0G <| wv 10 (.slice none 0 0) <| znt <| Z7 <| zsl <| wv 15 (.slice la L.length lc) <| wv 16 (vi L.length) <| wv 17 (vi 0) ?_
 refine znt <| Zc ?_
 have H9 := H8.addNil 89 2
 refine Zq ([10, 12, 13] ++ List.range' 17 23) (fun F_ W_ m_ => ∃ (i : Nat) (HV : List (Int × Bool)) (oa : Option Addr) (oc : Nat) (O : List TbR), F_ 17 = (vi i) ∧ F_ 10 = (.slice oa O.length oc) ∧ (i ≤ L.length) ∧ (O = Z14 (fun x : TbR => x.i) (Z5Y M X) (L.take i)) ∧ (HvOk HV (fun x : TbR => x.i) O) ∧ (O.length ≤ i) ∧ Sat w [zR w, Z0 b2 138 ([(.func (.func 55) #[] #[])] : LV), Z0u b6 (Value.int .i64) Value.bool HV, (ZfU oa O oc)] W_ ∧ m_ = L.length - i) _ ⟨0, [], none, 0, [], (show ((vi 0) : Value) = _ by first | rfl | go_num), (by first | rfl | go_num), (Nat.zero_le _), rfl, HvOk.nil, (Nat.zero_le _), H9, rfl⟩ ?_
 rintro g10 w11 _ ⟨i, HV, oa, oc, O, v13, v14, hi, hO, hhv, hOl, H12, rfl⟩
 refine Ze 17 _ v13 ?_
 refine Ze 10 _ v14 ?_
 refine zsl <| wv 18 (.bool (decide ((i : Int) < L.length))) <| znt <| Z7 ?_
 refine zid (fun b16 g17 => ?_) fun b16 g64 => ?_
 ·refine Zm <| ztn <| Z7 <| Zc <| zsl ?_
  obtain ⟨g19, o20, c21, e22, R23⟩ := SliceOf.atD hL tb0 (show i < L.length by omega)
  refine wv 19 (.pointer (some ⟨g19, o20 + ((i : Int)).toNat * 2, none⟩)) ?_ (hr := Zd (E := 89) kr kr kn rfl e22 rfl om om)
  refine wv 20 (.agg ⟨(Z53 (L.getD i tb0) ((L.getD i tb0).D.length))⟩) ?_ (hr := ZE (vs := (Z53 (L.getD i tb0) ((L.getD i tb0).D.length))) rfl kr kr kn (H12.runR 0 rfl (Z0k R23 0 kr (show o20 + ((i : Int)).toNat * 2 = o20 + i * 2 + 0 by omega)) (fun h => h)))
  refine zy <| zda ([(vi 0), (.slice none 0 0)] : LV) H12 fun b25 w26 H27 => ?_
  refine kk <| zy <| Z1p (Z53 (L.getD i tb0) ((L.getD i tb0).D.length)) H27 4 fun w29 H30 => ?_
  refine kk <| Z0G <| zw1 21 (.func (.func 55) #[] #[]) (H30.cell 1 rfl rfl) <| zwN 22 (Z53 (L.getD i tb0) ((L.getD i tb0).D.length)) (H30.at 4 rfl) <| zy <| zdq 23 (Zao w29 (L.getD i tb0)) H30 fun w33 H34 => ?_
  refine kk <| wv 13 (vi ((L.getD i tb0).i)) <| Z0G <| wv 24 (.map (some b6)) <| wv 25 (vi ((L.getD i tb0).i)) <| wv 26 (.bool ((ZB HV ((L.getD i tb0).i)).getD false)) ?_ (hr := Z25 (kt := 3) (et := 4) (KeyTy.int kr) kr (fun w => by kernel_rfl) rfl ((L.getD i tb0).i) rfl (H34.at 2 rfl) (Z87 Value.bool _ _))
  refine wv 27 (.bool (!((ZB HV ((L.getD i tb0).i)).getD false))) <| wv 28 (.bool (!((ZB HV ((L.getD i tb0).i)).getD false))) ?_
  refine (ZS (!((ZB HV ((L.getD i tb0).i)).getD false))).elim (fun b36 => ?_) (fun b36 => ?_)
  ·have g37 := Zf b36
   refine Z0z 28 (.bool true) (congrArg Value.bool b36) ?_
   refine wy 4 28 true 29 (.func (.func 53) #[] #[(pt s 0), (pt ob 0)]) <| wy 4 28 true 30 (.agg ⟨(Z53 (L.getD i tb0) ((L.getD i tb0).D.length))⟩) ?_ (hr := zlN (vs := (Z53 (L.getD i tb0) ((L.getD i tb0).D.length))) (H34.at 4 rfl))
   refine Z48 (Z0a 4 28 true rfl kr rfl kr) (fun Kq kq => ?_)
   refine zdq 31 (Zc8 w33 F c E last vm mo M (H34.roMap 0 rfl hmo (fun h => h)) s (H34.roCk 0 rfl hs (fun _ _ h => h)) ob hm X (H34.roCk 0 rfl hob (fun _ _ h => h)) (H34.roMap 0 rfl hhm (fun h => h)) (L.getD i tb0)) H34 ?_
   intro w40 H41
   refine kq _ _ <| wv 32 (.bool (Z5Y M X (L.getD i tb0))) <| znt ?_
   refine (ZS (Z5Y M X (L.getD i tb0))).elim (fun b43 => ?_) (fun b43 => ?_)
   ·refine Z4z _ b43 ?_
    refine zsl <| wv 33 (.map (some b6)) <| wv 34 (vi ((L.getD i tb0).i)) <| zy <| Z0P (kt := 3) (et := 4) rfl H41 2 rfl (KeyTy.int kr) kr rfl ((L.getD i tb0).i) rfl true rfl fun w45 H46 => ?_
    refine kk <| znt <| Zl <| wv 35 (.slice oa O.length oc) <| zwN 36 (Z53 (L.getD i tb0) ((L.getD i tb0).D.length)) (H46.at 4 rfl) <| zy <| Z2J 89 2 32 (.agg ⟨([(vi 0), (.slice none 0 0)] : LV)⟩) [(0, (.agg ⟨(Z53 (L.getD i tb0) ((L.getD i tb0).D.length))⟩))] (Z53 (L.getD i tb0) ((L.getD i tb0).D.length)) H46 fun b48 w49 H50 => ?_
    have H51 := H50.ct 5 rfl (Zh 89 2 (.slice (some ⟨b48, 0, none⟩) 1 1) 1 ([(L.getD i tb0)].flatMap Z0U)) (by rw [(show ((Z53 (L.getD i tb0) ((L.getD i tb0).D.length)) : LV) = [(L.getD i tb0)].flatMap Z0U by kernel_rfl)])
    refine kk <| zy <| Z0g (T := 43) (e := 89) (size := 2) (bytes := 32) rfl H51 kr 3 5 rfl rfl rfl rfl (Z07 Z0U Z5o [(L.getD i tb0)]) om om fun v53 w54 H55 => ?_
    have H58 := H55.ct 3 rfl (Zh 89 2 v53 ((O ++ [(L.getD i tb0)]).length) ((O ++ [(L.getD i tb0)]).flatMap Z0U)) ja
    obtain ⟨a56, c57, rfl⟩ := Z1 (H58.at 3 rfl)
    refine kk <| wv 10 (.slice a56 ((O ++ [(L.getD i tb0)]).length) c57) <| Zn <| Z6 <| ztn <| Zl <| zwi 39 ((i : Int) + 1) <| wv 17 (vi ((i : Int) + 1)) <| Zn ?_
    have H59 := H58.pk [0, 1, 2, 3]
    refine Z5 ?_ _ ⟨(i + 1), (Z2p HV ((L.getD i tb0).i) true), a56, c57, (O ++ [(L.getD i tb0)]), rfl, (show ((.slice a56 ((O ++ [(L.getD i tb0)]).length) c57) : Value) = _ by first | rfl | go_num), om, (by rw [Z1b (show L[i]? = some (L.getD i tb0) by rw [List.getD_eq_getElem?_getD, List.getElem?_eq_getElem (show i < L.length by omega)]; rfl), ← hO]; exact (Z6O (by rw [← hhv]; exact (by have q := b36; simpa using q)) b43).symm), (HvOk.put (num := (fun x : TbR => x.i)) (x := (L.getD i tb0)) hhv), (by first | omega | (simp only [List.length_append, List.length_cons, List.length_nil]; omega)), H59, rfl⟩ om
    exact zs
   refine Z46 _ b43 ?_
   refine Zm <| Z6 <| ztn <| Zl <| zwi 39 ((i : Int) + 1) <| wv 17 (vi ((i : Int) + 1)) <| Zn ?_
   have H60 := H41.pk [0, 1, 2, 3]
   refine Z5 ?_ _ ⟨(i + 1), HV, oa, oc, O, rfl, rfl, om, (by rw [Z1b (show L[i]? = some (L.getD i tb0) by rw [List.getD_eq_getElem?_getD, List.getElem?_eq_getElem (show i < L.length by omega)]; rfl), ← hO]; exact (Z78 b43).symm), hhv, (by first | omega | (simp only [List.length_append, List.length_cons, List.length_nil]; omega)), H60, rfl⟩ om
   exact zs
  have g61 := Z3 b36
  refine Z0z 28 (.bool false) (congrArg Value.bool b36) ?_
  iterate 3 refine wn 4 28 true ?_
  refine wv 32 (.bool false) <| znt <| Z1W rfl ?_
  refine Zm <| Z6 <| ztn <| Zl <| zwi 39 ((i : Int) + 1) <| wv 17 (vi ((i : Int) + 1)) <| Zn ?_
  have H63 := H34.pk [0, 1, 2, 3]
  refine Z5 ?_ _ ⟨(i + 1), HV, oa, oc, O, rfl, rfl, om, (by rw [Z1b (show L[i]? = some (L.getD i tb0) by rw [List.getD_eq_getElem?_getD, List.getElem?_eq_getElem (show i < L.length by omega)]; rfl), ← hO]; exact (Z6T (by rw [← hhv]; exact (by have q := b36; simpa using q))).symm), hhv, (by first | omega | (simp only [List.length_append, List.length_cons, List.length_nil]; omega)), H63, rfl⟩ om
  exact zs
 refine zxb <| ztn <| zsl <| wv 40 (.slice oa O.length oc) <| wv 41 (.func (.func 98) #[] #[(pt b2 0)]) <| zy ?_
 have hiL : i = L.length := by omega
 rw [hiL, List.take_length] at hO
 refine zdc 42 (Z9K w11 oa oc O b2 (H12.fn [3, 1]) (by rw [hO]; exact h12)) ?_
 rintro _ w67 ⟨D, rfl, p68, s69, T70⟩
 have hDl : D.length ≤ L.length := by have q := p68.length_eq; omega
 have H71 := H12.tl [(ZfU oa D oc), Z0 b2 138 ([(.func (.func 55) #[] #[])] : LV)] [3, 1] [0, 2] T70 [2, 1, 3, 0]
 refine ⟨_, rfl, ?_⟩
 refine kk <| znt <| Z7 <| Ze 10 (.slice oa D.length oc) (show ((.slice oa O.length oc) : Value) = _ by rw [p68.length_eq]) ?_
 have hcD := ListAt.cap (ListAt.row (enc := Z0U) (sz := 2) Z2n (by decide) (H71.at 3 rfl))
 refine Zl <| wv 43 (.slice oa D.length oc) <| wv 44 (.slice oa D.length oc) <| wv 45 (vi D.length) <| wv 46 (vi m) <| wv 47 (vi (min D.length m : Nat)) ?_ (hr := Zg5 (k := .i64) (a := (D.length : Int)) (b := (m : Int)) (z := ((min D.length m : Nat) : Int)) rfl rfl om)
 refine wv 48 (.slice oa (min D.length m) oc) ?_ (hr := Z7f (E := 89) (q := (min D.length m)) kr kr rfl rfl om om)
 refine wv 8 (.slice oa (min D.length m) oc) <| znt <| Zk <| ze1 (.slice oa (min D.length m) oc) ?_
 exact ⟨oa, oc, D, by rw [show min D.length m = (D.take m).length by rw [List.length_take, Nat.min_comm]], SortN.of (lt := Zev) (by rw [← hO]; exact p68) (s69.imp fun h => h), hDl, Z60 Z2n (H71.at 3 rfl), H71.upd 0 rfl [] ne, (fun q_ hq_ => H71.fresh 0 rfl (fun _ h => h) 3 rfl rfl q_ (by cases oa with | none => exact hq_ | some _ => exact hq_))⟩
end Go.Proofs.YtenihpghfdcpkaaGreat
