/- WHAT IS PROVED: contracts and plain laws of FiT. Conditions: stated with each. -/
import Derived.Test.YtenihpghfdcpkaaGreatPA05
import Derived.Test.YtenihpghfdcpkaaGreatPA21
import Derived.Test.YtenihpghfdcpkaaGreatPA26
import Derived.Test.YtenihpghfdcpkaaGreatPA28
set_option maxHeartbeats 4000000
set_option maxRecDepth 100000
namespace Go.Proofs.YtenihpghfdcpkaaGreat
open Go.RowKit
abbrev Zf1 (p0 : Option Addr) (p1 : List TbR) (p2 : Nat) : Ck := Zc 89 2 (.slice p0 p1.length p2) p1.length (p1.flatMap Z0I)
abbrev Z5a (p0 : TbR) (p1 : Nat) : List Value := ([(.int .i64 p0.i), (.slice p0.da p1 p0.dc)] : List Value)
theorem ZbM (w : World) (la : Option Addr) (lc : Nat) (L : List TbR) (hL : ListAt Z0I 2 w (.slice la L.length lc) L) (hlL : L.length ≤ 1000) (m : Nat) (F c E last : Int) (vm : Value) (mo : Nat) (M : List (Int × Z1H)) (hmo : MapAt w mo (Value.int .i64) Z3N M) (s : Nat) (hs : (Z0 s 54 ([(.int .i64 (F)), (.int .i64 (c)), (.int .i64 (E)), (.int .u64 (last)), (vm), (.map (some mo))] : List Value)).ok w) (ob hm : Nat) (X : List (Int × Bool)) (hob : (Z0 ob 129 [.map (some hm)]).ok w) (hhm : MapAt w hm (Value.int .i64) Value.bool X) (h12 : (Z13 (fun x : TbR => x.i) (Z7m M X) L).length ≤ 12) :
  Calls Tryz.prog 54 #[(.slice la L.length lc), (.func (.func 55) #[] #[]), (.func (.func 53) #[] #[(.pointer (some ⟨s, 0, none⟩)), (.pointer (some ⟨ob, 0, none⟩))]), (.int .i64 ((m : Int)))] w fun e w' => ∃ (oa : Option Addr) (oc : Nat) (D : List TbR), e = .returned (.slice oa (D.take m).length oc) ∧ SortN (fun x : TbR => x.i) (Z7m M X) L D ∧ D.length ≤ L.length ∧ (Zc 89 2 (.slice oa (D.take m).length oc) (D.take m).length ((D.take m).flatMap Z0I)).ok w' ∧ Upd [] w w' ∧ ∀ q_, (Zc 89 2 (.slice oa (D.take m).length oc) (D.take m).length ((D.take m).flatMap Z0I)).fp q_ → w.heap.size ≤ q_ := by
 have H := Sat.start0 w
 have hcap := ListAt.cap hL
 refine Z8 Tryz.func54 rfl 49 rfl (Nat.le_of_ble_eq_true rfl) ?_
 refine zsl <| zwd fun Kq kq => zdb ([(.func (.func 55) #[] #[])] : List Value) H fun b2 w3 H4 => ?_
 refine kq _ _ <| wv 8 (.slice none 0 0) <| Z0y <| zwd fun Kq kq => Z2s (Value.int .i64) Value.bool rfl H4 fun b6 w7 H8 => ?_
 refine kq _ _ <| wv 9 (.map (some b6)) <| Z0y <| wv 10 (.slice none 0 0) <| znt <| Z5 <| zsl <| wv 15 (.slice la L.length lc) <| wv 16 (.int .i64 ((L.length : Int))) <| wv 17 (.int .i64 (0)) ?_
 refine znt <| Za ?_
 have H9 := H8.addNil 89 2
 refine Zw ([10, 12, 13] ++ List.range' 17 23) (fun F_ W_ m_ => ∃ (i : Nat) (HV : List (Int × Bool)) (oa : Option Addr) (oc : Nat) (O : List TbR), F_ 17 = (.int .i64 ((i : Int))) ∧ F_ 10 = (.slice oa O.length oc) ∧ (i ≤ L.length) ∧ (O = Z13 (fun x : TbR => x.i) (Z7m M X) (L.take i)) ∧ (HvOk HV (fun x : TbR => x.i) O) ∧ (O.length ≤ i) ∧ Sat w [Z3 w (fun _ => False), Z0 b2 138 ([(.func (.func 55) #[] #[])] : List Value), Z0B b6 (Value.int .i64) Value.bool HV, (Zf1 oa O oc)] W_ ∧ m_ = L.length - i) _ ⟨0, [], none, 0, [], (show ((.int .i64 (0)) : Value) = _ by first | rfl | go_num), (by first | rfl | go_num), (Nat.zero_le _), rfl, HvOk.nil, (Nat.zero_le _), H9, rfl⟩ ?_
 rintro g10 w11 _ ⟨i, HV, oa, oc, O, v13, v14, hi, hO, hhv, hOl, H12, rfl⟩
 refine Zd 17 _ v13 ?_
 refine Zd 10 _ v14 ?_
 refine zsl <| wv 18 (.bool (decide ((i : Int) < (L.length : Int)))) <| znt <| Z5 ?_
 refine (ZJ (decide ((i : Int) < (L.length : Int)))).elim (fun b16 => ?_) (fun b16 => ?_)
 ·have g17 := of_decide_eq_true b16
  refine Z33 _ b16 ?_
  refine Zt <| ztn <| Z5 <| Za <| zsl ?_
  obtain ⟨g19, o20, c21, e22, R23⟩ := SliceOf.atD hL tb0 (show i < L.length by omega)
  refine wv 19 (.pointer (some ⟨g19, o20 + ((i : Int)).toNat * 2, none⟩)) ?_ (hr := Zh (E := 89) (by kernel_rfl) (by kernel_rfl) (Nat.le_of_ble_eq_true rfl) rfl e22 rfl (by omega) (by omega))
  refine wv 20 (.agg ⟨(Z5a (L.getD i tb0) ((L.getD i tb0).D.length))⟩) ?_ (hr := Z05 (vs := (Z5a (L.getD i tb0) ((L.getD i tb0).D.length))) rfl (by kernel_rfl) (by kernel_rfl) (Nat.le_of_ble_eq_true (by kernel_rfl)) (H12.runR 0 rfl (Z0W R23 0 (by kernel_rfl) (show o20 + ((i : Int)).toNat * 2 = o20 + i * 2 + 0 by omega)) (fun h => h)))
  refine zwd fun Kq kq => zda ([(.int .i64 (0)), (.slice none 0 0)] : List Value) H12 fun b25 w26 H27 => ?_
  refine kq _ _ <| zwd fun Kq kq => Z1z (Z5a (L.getD i tb0) ((L.getD i tb0).D.length)) H27 4 fun w29 H30 => ?_
  refine kq _ _ <| Z0y <| zw1 21 (.func (.func 55) #[] #[]) (H30.cell 1 rfl rfl) <| zwN 22 (Z5a (L.getD i tb0) ((L.getD i tb0).D.length)) (H30.at 4 rfl) <| zwd fun Kq kq => zdq 23 (Z9I w29 (L.getD i tb0)) H30 fun w33 H34 => ?_
  refine kq _ _ <| wv 13 (.int .i64 ((L.getD i tb0).i)) <| Z0y <| wv 24 (.map (some b6)) <| wv 25 (.int .i64 ((L.getD i tb0).i)) <| wv 26 (.bool ((Zp HV ((L.getD i tb0).i)).getD false)) ?_ (hr := Z35 (kt := 3) (et := 4) (KeyTy.int (by kernel_rfl)) (by kernel_rfl) (fun w => by kernel_rfl) rfl ((L.getD i tb0).i) rfl (H34.at 2 rfl) (ZaW Value.bool _ _))
  refine wv 27 (.bool (!((Zp HV ((L.getD i tb0).i)).getD false))) <| wv 28 (.bool (!((Zp HV ((L.getD i tb0).i)).getD false))) ?_
  refine (ZJ (!((Zp HV ((L.getD i tb0).i)).getD false))).elim (fun b36 => ?_) (fun b36 => ?_)
  ·have g37 := ZS b36
   refine Z06 28 (.bool true) (congrArg Value.bool b36) ?_
   refine wy 4 28 true 29 (.func (.func 53) #[] #[(pt s 0), (pt ob 0)]) <| wy 4 28 true 30 (.agg ⟨(Z5a (L.getD i tb0) ((L.getD i tb0).D.length))⟩) ?_ (hr := zlN (vs := (Z5a (L.getD i tb0) ((L.getD i tb0).D.length))) (H34.at 4 rfl))
   refine Z5I (Z11 4 28 true rfl (by kernel_rfl) rfl (by kernel_rfl)) (fun Kq kq => ?_)
   refine zdq 31 (Zbq w33 F c E last vm mo M (H34.roMap 0 rfl hmo (fun h => h)) s (H34.roCk 0 rfl hs (fun _ _ h => h)) ob hm X (H34.roCk 0 rfl hob (fun _ _ h => h)) (H34.roMap 0 rfl hhm (fun h => h)) (L.getD i tb0)) H34 ?_
   intro w40 H41
   refine kq _ _ <| wv 32 (.bool (Z7m M X (L.getD i tb0))) <| znt ?_
   refine (ZJ (Z7m M X (L.getD i tb0))).elim (fun b43 => ?_) (fun b43 => ?_)
   ·refine Z33 _ b43 ?_
    refine zsl <| wv 33 (.map (some b6)) <| wv 34 (.int .i64 ((L.getD i tb0).i)) <| zwd fun Kq kq => Z0F (kt := 3) (et := 4) rfl H41 2 rfl (KeyTy.int (by kernel_rfl)) (by kernel_rfl) rfl ((L.getD i tb0).i) rfl true rfl fun w45 H46 => ?_
    refine kq _ _ <| znt <| Zl <| wv 35 (.slice oa O.length oc) <| zwN 36 (Z5a (L.getD i tb0) ((L.getD i tb0).D.length)) (H46.at 4 rfl) <| zwd fun Kq kq => Z2w 89 2 32 (.agg ⟨([(.int .i64 (0)), (.slice none 0 0)] : List Value)⟩) [(0, (.agg ⟨(Z5a (L.getD i tb0) ((L.getD i tb0).D.length))⟩))] (Z5a (L.getD i tb0) ((L.getD i tb0).D.length)) H46 fun b48 w49 H50 => ?_
    have H51 := H50.ct 5 rfl (Zc 89 2 (.slice (some ⟨b48, 0, none⟩) 1 1) 1 ([(L.getD i tb0)].flatMap Z0I)) (by rw [(show ((Z5a (L.getD i tb0) ((L.getD i tb0).D.length)) : List Value) = [(L.getD i tb0)].flatMap Z0I by kernel_rfl)])
    refine kq _ _ <| zwd fun Kq kq => Z00 (T := 43) (e := 89) (size := 2) (bytes := 32) rfl H51 (by kernel_rfl) 3 5 rfl rfl rfl rfl (ZX Z0I Z5F [(L.getD i tb0)]) (by omega) (by omega) fun v53 w54 H55 => ?_
    have H58 := H55.ct 3 rfl (Zc 89 2 v53 ((O ++ [(L.getD i tb0)]).length) ((O ++ [(L.getD i tb0)]).flatMap Z0I)) ja
    obtain ⟨a56, c57, rfl⟩ := Z2 (H58.at 3 rfl)
    refine kq _ _ <| wv 10 (.slice a56 ((O ++ [(L.getD i tb0)]).length) c57) <| Zu <| Z7 <| ztn <| Zl <| zwi 39 ((i : Int) + 1) <| wv 17 (.int .i64 ((i : Int) + 1)) <| Zu ?_
    have H59 := H58.pk [0, 1, 2, 3]
    refine Z6 ?_ _ ⟨(i + 1), (Z2j HV ((L.getD i tb0).i) true), a56, c57, (O ++ [(L.getD i tb0)]), rfl, (show ((.slice a56 ((O ++ [(L.getD i tb0)]).length) c57) : Value) = _ by first | rfl | go_num), (by omega), (by rw [Z1g (show L[i]? = some (L.getD i tb0) by rw [List.getD_eq_getElem?_getD, List.getElem?_eq_getElem (show i < L.length by omega)]; rfl), ← hO]; exact (Z6t (by rw [← hhv]; exact (by have q := b36; simpa using q)) b43).symm), (HvOk.put (num := (fun x : TbR => x.i)) (x := (L.getD i tb0)) hhv), (by first | omega | (simp only [List.length_append, List.length_cons, List.length_nil]; omega)), H59, rfl⟩ (by omega)
    exact zs
   refine Z2X _ b43 ?_
   refine Zt <| Z7 <| ztn <| Zl <| zwi 39 ((i : Int) + 1) <| wv 17 (.int .i64 ((i : Int) + 1)) <| Zu ?_
   have H60 := H41.pk [0, 1, 2, 3]
   refine Z6 ?_ _ ⟨(i + 1), HV, oa, oc, O, rfl, rfl, (by omega), (by rw [Z1g (show L[i]? = some (L.getD i tb0) by rw [List.getD_eq_getElem?_getD, List.getElem?_eq_getElem (show i < L.length by omega)]; rfl), ← hO]; exact (Z6p b43).symm), hhv, (by first | omega | (simp only [List.length_append, List.length_cons, List.length_nil]; omega)), H60, rfl⟩ (by omega)
   exact zs
  have g61 := Zr b36
  refine Z06 28 (.bool false) (congrArg Value.bool b36) ?_
  iterate 3 refine wn 4 28 true ?_
  refine wv 32 (.bool false) <| znt <| Z2O rfl ?_
  refine Zt <| Z7 <| ztn <| Zl <| zwi 39 ((i : Int) + 1) <| wv 17 (.int .i64 ((i : Int) + 1)) <| Zu ?_
  have H63 := H34.pk [0, 1, 2, 3]
  refine Z6 ?_ _ ⟨(i + 1), HV, oa, oc, O, rfl, rfl, (by omega), (by rw [Z1g (show L[i]? = some (L.getD i tb0) by rw [List.getD_eq_getElem?_getD, List.getElem?_eq_getElem (show i < L.length by omega)]; rfl), ← hO]; exact (Z6C (by rw [← hhv]; exact (by have q := b36; simpa using q))).symm), hhv, (by first | omega | (simp only [List.length_append, List.length_cons, List.length_nil]; omega)), H63, rfl⟩ (by omega)
  exact zs
 have g64 := of_decide_eq_false b16
 refine Z2X _ b16 ?_
 refine zxb <| ztn <| zsl <| wv 40 (.slice oa O.length oc) <| wv 41 (.func (.func 98) #[] #[(pt b2 0)]) <| zwd fun Kq kq => ?_
 have hiL : i = L.length := by omega
 rw [hiL, List.take_length] at hO
 refine zdc 42 (Z9g w11 oa oc O b2 (H12.fn [3, 1]) (by rw [hO]; exact h12)) ?_
 rintro _ w67 ⟨D, rfl, p68, s69, T70⟩
 have hDl : D.length ≤ L.length := by have q := p68.length_eq; omega
 have H71 := H12.tl [(Zf1 oa D oc), Z0 b2 138 ([(.func (.func 55) #[] #[])] : List Value)] [3, 1] [0, 2] T70 [2, 1, 3, 0]
 refine ⟨_, rfl, ?_⟩
 refine kq _ _ <| znt <| Z5 <| Zd 10 (.slice oa D.length oc) (show ((.slice oa O.length oc) : Value) = _ by rw [p68.length_eq]) ?_
 have hcD := ListAt.cap (ListAt.row (enc := Z0I) (sz := 2) Z2V (by decide) (H71.at 3 rfl))
 refine Zl <| wv 43 (.slice oa D.length oc) <| wv 44 (.slice oa D.length oc) <| wv 45 (.int .i64 ((D.length : Int))) <| wv 46 (.int .i64 ((m : Int))) <| wv 47 (.int .i64 (((min D.length m : Nat) : Int))) ?_ (hr := Zfy (k := .i64) (a := (D.length : Int)) (b := (m : Int)) (z := ((min D.length m : Nat) : Int)) rfl rfl (by omega))
 refine wv 48 (.slice oa (min D.length m) oc) ?_ (hr := Z6G (E := 89) (q := (min D.length m)) (by kernel_rfl) (by kernel_rfl) rfl rfl (by omega) (by omega))
 refine wv 8 (.slice oa (min D.length m) oc) <| znt <| Zq <| ze1 (.slice oa (min D.length m) oc) ?_
 exact ⟨oa, oc, D, by rw [show min D.length m = (D.take m).length by rw [List.length_take, Nat.min_comm]], SortN.of (lt := ZdJ) (by rw [← hO]; exact p68) (s69.imp fun h => h), hDl, Z5V Z2V (H71.at 3 rfl), H71.upd 0 rfl [] (fun _ h => h.elim), (fun q_ hq_ => H71.fresh 0 rfl (fun _ h => h) 3 rfl rfl q_ (by cases oa with | none => exact hq_ | some _ => exact hq_))⟩
end Go.Proofs.YtenihpghfdcpkaaGreat
