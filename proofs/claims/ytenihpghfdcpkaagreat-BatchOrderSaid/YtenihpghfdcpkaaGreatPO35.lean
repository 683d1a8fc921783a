/- WHAT IS PROVED: contracts and plain laws of FiO, LaidT, FstT, SortT12. Conditions: stated with each. -/
import Derived.Test.YtenihpghfdcpkaaGreatPO02
import Derived.Test.YtenihpghfdcpkaaGreatPO05
import Derived.Test.YtenihpghfdcpkaaGreatPO17
import Derived.Test.YtenihpghfdcpkaaGreatPO23
import Derived.Test.YtenihpghfdcpkaaGreatPO26
import Derived.Test.YtenihpghfdcpkaaGreatPO29
import Derived.Test.YtenihpghfdcpkaaGreatPO30
import Derived.Test.YtenihpghfdcpkaaGreatPO32
import Derived.Test.YtenihpghfdcpkaaGreatPO34
set_option maxHeartbeats 4000000
set_option maxRecDepth 100000
namespace Go.Proofs.YtenihpghfdcpkaaGreat
open Go.RowKit
abbrev ZfW (p0 : Option Addr) (p1 : List OpR) (p2 : Nat) : Ck := Zh 86 34 (.slice p0 p1.length p2) p1.length (p1.flatMap Z0Y)
abbrev Z5b (p0 : OpR) (p1 : Nat) : List Value := ([i6 p0.i, (.slice p0.pa p1 p0.pc)] : LV) ++ hc p0.h
theorem Zca (w : World) (la : Option Addr) (lc : Nat) (L : List OpR) (hL : ListAt Z0Y 34 w (.slice la L.length lc) L) (hlL : L.length ≤ 1000) (m : Nat) (F c E last : Int) (vm : Value) (mo : Nat) (M : List (Int × Z1q)) (hmo : MapAt w mo (Value.int .i64) Z2y M) (hM : OpenOk M) (s : Nat) (hs : (Z0 s 54 ([i6 F, i6 c, i6 E, u6 last, (vm), (.map (some mo))] : LV)).ok w) (hoL : ∀ i, i < L.length → ListAt Zr 1 w (.slice (L.getD i op0).pa (L.getD i op0).P.length (L.getD i op0).pc) (L.getD i op0).P) (hlo : ∀ i, i < L.length → (L.getD i op0).P.length ≤ 1000) (h12 : (Z14 (fun x : OpR => x.i) (Z7z M) L).length ≤ 12) :
  Calls Tryz.prog 50 #[(.slice la L.length lc), (.func (.func 51) #[] #[]), (.func (.func 48) #[] #[zp s]), (i6 ((m : Int)))] w fun e w' => ∃ (oa : Option Addr) (oc : Nat) (D : List OpR), e = .returned (.slice oa (D.take m).length oc) ∧ SortN (fun x : OpR => x.i) (Z7z M) L D ∧ D.length ≤ L.length ∧ (Zh 86 34 (.slice oa (D.take m).length oc) (D.take m).length ((D.take m).flatMap Z0Y)).ok w' ∧ Upd [] w w' ∧ ∀ q_, (Zh 86 34 (.slice oa (D.take m).length oc) (D.take m).length ((D.take m).flatMap Z0Y)).fp q_ → w.heap.size ≤ q_ := by
 have H := Sat.start0 w
 have hcap := ListAt.cap hL
 refine Za Tryz.func50 rfl 49 rfl kn ?_
 refine zsl <| zy <| zdb ([(.func (.func 51) #[] #[])] : LV) H fun b2 w3 H4 => ?_
 refine kk <| wv 8 (.slice none 0 0) <| Z0G <| zy <| Z2l (Value.int .i64) Value.bool rfl H4 fun b6 w7 H8 => ?_
 refine kk <| wv 9 (.map (some b6)) <| Z0G <| wv 10 (.slice none 0 0) <| znt <| Z7 <| zsl <| wv 15 (.slice la L.length lc) <| wv 16 (vi L.length) <| wv 17 (vi 0) ?_
 refine znt <| Zc ?_
 have H9 := H8.addNil 86 34
 refine Zq ([10, 12, 13] ++ List.range' 17 23) (fun F_ W_ m_ => ∃ (i : Nat) (HV : List (Int × Bool)) (oa : Option Addr) (oc : Nat) (O : List OpR), F_ 17 = (vi i) ∧ F_ 10 = (.slice oa O.length oc) ∧ (i ≤ L.length) ∧ (O = Z14 (fun x : OpR => x.i) (Z7z M) (L.take i)) ∧ (HvOk HV (fun x : OpR => x.i) O) ∧ (O.length ≤ i) ∧ Sat w [zR w, Z0 b2 133 ([(.func (.func 51) #[] #[])] : LV), Z0u b6 (Value.int .i64) Value.bool HV, (ZfW oa O oc)] W_ ∧ m_ = L.length - i) _ ⟨0, [], none, 0, [], (show ((vi 0) : Value) = _ by first | rfl | go_num), (by first | rfl | go_num), (Nat.zero_le _), rfl, HvOk.nil, (Nat.zero_le _), H9, rfl⟩ ?_
 rintro g10 w11 _ ⟨i, HV, oa, oc, O, v13, v14, hi, hO, hhv, hOl, H12, rfl⟩
 refine Ze 17 _ v13 ?_
 refine Ze 10 _ v14 ?_
 refine zsl <| wv 18 (.bool (decide ((i : Int) < L.length))) <| znt <| Z7 ?_
 refine zid (fun b16 g17 => ?_) fun b16 g64 => ?_
 ·refine Zm <| ztn <| Z7 <| Zc <| zsl ?_
  obtain ⟨g19, o20, c21, e22, R23⟩ := SliceOf.atD hL op0 (show i < L.length by omega)
  refine wv 19 (.pointer (some ⟨g19, o20 + ((i : Int)).toNat * 34, none⟩)) ?_ (hr := Zd (E := 86) kr kr kn rfl e22 rfl om om)
  refine wv 20 (.agg ⟨(Z5b (L.getD i op0) ((L.getD i op0).P.length))⟩) ?_ (hr := ZE (vs := (Z5b (L.getD i op0) ((L.getD i op0).P.length))) rfl kr kr kn (H12.runR 0 rfl (Z0k R23 0 kr (show o20 + ((i : Int)).toNat * 34 = o20 + i * 34 + 0 by omega)) (fun h => h)))
  refine zy <| zda (([(vi 0), (.slice none 0 0)] : LV) ++ hc ZC) H12 fun b25 w26 H27 => ?_
  refine kk <| zy <| Z1p (Z5b (L.getD i op0) ((L.getD i op0).P.length)) H27 4 fun w29 H30 => ?_
  refine kk <| Z0G <| zw1 21 (.func (.func 51) #[] #[]) (H30.cell 1 rfl rfl) <| zwN 22 (Z5b (L.getD i op0) ((L.getD i op0).P.length)) (H30.at 4 rfl) <| zy <| zdq 23 (Z9Y w29 (L.getD i op0)) H30 fun w33 H34 => ?_
  refine kk <| wv 13 (vi ((L.getD i op0).i)) <| Z0G <| wv 24 (.map (some b6)) <| wv 25 (vi ((L.getD i op0).i)) <| wv 26 (.bool ((ZB HV ((L.getD i op0).i)).getD false)) ?_ (hr := Z25 (kt := 3) (et := 4) (KeyTy.int kr) kr (fun w => by kernel_rfl) rfl ((L.getD i op0).i) rfl (H34.at 2 rfl) (Z87 Value.bool _ _))
  refine wv 27 (.bool (!((ZB HV ((L.getD i op0).i)).getD false))) <| wv 28 (.bool (!((ZB HV ((L.getD i op0).i)).getD false))) ?_
  refine (ZS (!((ZB HV ((L.getD i op0).i)).getD false))).elim (fun b36 => ?_) (fun b36 => ?_)
  ·have g37 := Zf b36
   refine Z0z 28 (.bool true) (congrArg Value.bool b36) ?_
   refine wy 4 28 true 29 (.func (.func 48) #[] #[(pt s 0)]) <| wy 4 28 true 30 (.agg ⟨(Z5b (L.getD i op0) ((L.getD i op0).P.length))⟩) ?_ (hr := zlN (vs := (Z5b (L.getD i op0) ((L.getD i op0).P.length))) (H34.at 4 rfl))
   refine Z48 (Z0a 4 28 true rfl kr rfl kr) (fun Kq kq => ?_)
   refine zdq 31 (ZbY w33 F c E last vm mo M (H34.roMap 0 rfl hmo (fun h => h)) hM (L.getD i op0) (ListAt.now H34 0 rfl (hoL i om)) (hlo i om) s (H34.roCk 0 rfl hs (fun _ _ h => h))) H34 ?_
   intro w40 H41
   refine kq _ _ <| wv 32 (.bool (Z7z M (L.getD i op0))) <| znt ?_
   refine (ZS (Z7z M (L.getD i op0))).elim (fun b43 => ?_) (fun b43 => ?_)
   ·refine Z4z _ b43 ?_
    refine zsl <| wv 33 (.map (some b6)) <| wv 34 (vi ((L.getD i op0).i)) <| zy <| Z0P (kt := 3) (et := 4) rfl H41 2 rfl (KeyTy.int kr) kr rfl ((L.getD i op0).i) rfl true rfl fun w45 H46 => ?_
    refine kk <| znt <| Zl <| wv 35 (.slice oa O.length oc) <| zwN 36 (Z5b (L.getD i op0) ((L.getD i op0).P.length)) (H46.at 4 rfl) <| zy <| Z2J 86 34 64 (.agg ⟨(([(vi 0), (.slice none 0 0)] : LV) ++ hc ZC)⟩) [(0, (.agg ⟨(Z5b (L.getD i op0) ((L.getD i op0).P.length))⟩))] (Z5b (L.getD i op0) ((L.getD i op0).P.length)) H46 fun b48 w49 H50 => ?_
    have H51 := H50.ct 5 rfl (Zh 86 34 (.slice (some ⟨b48, 0, none⟩) 1 1) 1 ([(L.getD i op0)].flatMap Z0Y)) (by rw [(show ((Z5b (L.getD i op0) ((L.getD i op0).P.length)) : LV) = [(L.getD i op0)].flatMap Z0Y by kernel_rfl)])
    refine kk <| zy <| Z0g (T := 42) (e := 86) (size := 34) (bytes := 64) rfl H51 kr 3 5 rfl rfl rfl rfl (Z07 Z0Y Z5K [(L.getD i op0)]) om om fun v53 w54 H55 => ?_
    have H58 := H55.ct 3 rfl (Zh 86 34 v53 ((O ++ [(L.getD i op0)]).length) ((O ++ [(L.getD i op0)]).flatMap Z0Y)) ja
    obtain ⟨a56, c57, rfl⟩ := Z1 (H58.at 3 rfl)
    refine kk <| wv 10 (.slice a56 ((O ++ [(L.getD i op0)]).length) c57) <| Zn <| Z6 <| ztn <| Zl <| zwi 39 ((i : Int) + 1) <| wv 17 (vi ((i : Int) + 1)) <| Zn ?_
    have H59 := H58.pk [0, 1, 2, 3]
    refine Z5 ?_ _ ⟨(i + 1), (Z2p HV ((L.getD i op0).i) true), a56, c57, (O ++ [(L.getD i op0)]), rfl, (show ((.slice a56 ((O ++ [(L.getD i op0)]).length) c57) : Value) = _ by first | rfl | go_num), om, (by rw [Z1b (show L[i]? = some (L.getD i op0) by rw [List.getD_eq_getElem?_getD, List.getElem?_eq_getElem (show i < L.length by omega)]; rfl), ← hO]; exact (Z6O (by rw [← hhv]; exact (by have q := b36; simpa using q)) b43).symm), (HvOk.put (num := (fun x : OpR => x.i)) (x := (L.getD i op0)) hhv), (by first | omega | (simp only [List.length_append, List.length_cons, List.length_nil]; omega)), H59, rfl⟩ om
    exact zs
   refine Z46 _ b43 ?_
   refine Zm <| Z6 <| ztn <| Zl <| zwi 39 ((i : Int) + 1) <| wv 17 (vi ((i : Int) + 1)) <| Zn ?_
   have H60 := H41.pk [0, 1, 2, 3]
   refine Z5 ?_ _ ⟨(i + 1), HV, oa, oc, O, rfl, rfl, om, (by rw [Z1b (show L[i]? = some (L.getD i op0) by rw [List.getD_eq_getElem?_getD, List.getElem?_eq_getElem (show i < L.length by omega)]; rfl), ← hO]; exact (Z78 b43).symm), hhv, (by first | omega | (simp only [List.length_append, List.length_cons, List.length_nil]; omega)), H60, rfl⟩ om
   exact zs
  have g61 := Z3 b36
  refine Z0z 28 (.bool false) (congrArg Value.bool b36) ?_
  iterate 3 refine wn 4 28 true ?_
  refine wv 32 (.bool false) <| znt <| Z1W rfl ?_
  refine Zm <| Z6 <| ztn <| Zl <| zwi 39 ((i : Int) + 1) <| wv 17 (vi ((i : Int) + 1)) <| Zn ?_
  have H63 := H34.pk [0, 1, 2, 3]
  refine Z5 ?_ _ ⟨(i + 1), HV, oa, oc, O, rfl, rfl, om, (by rw [Z1b (show L[i]? = some (L.getD i op0) by rw [List.getD_eq_getElem?_getD, List.getElem?_eq_getElem (show i < L.length by omega)]; rfl), ← hO]; exact (Z6T (by rw [← hhv]; exact (by have q := b36; simpa using q))).symm), hhv, (by first | omega | (simp only [List.length_append, List.length_cons, List.length_nil]; omega)), H63, rfl⟩ om
  exact zs
 refine zxb <| ztn <| zsl <| wv 40 (.slice oa O.length oc) <| wv 41 (.func (.func 96) #[] #[(pt b2 0)]) <| zy ?_
 have hiL : i = L.length := by omega
 rw [hiL, List.take_length] at hO
 refine zdc 42 (Z9b w11 oa oc O b2 (H12.fn [3, 1]) (by rw [hO]; exact h12)) ?_
 rintro _ w67 ⟨D, rfl, p68, s69, T70⟩
 have hDl : D.length ≤ L.length := by have q := p68.length_eq; omega
 have H71 := H12.tl [(ZfW oa D oc), Z0 b2 133 ([(.func (.func 51) #[] #[])] : LV)] [3, 1] [0, 2] T70 [2, 1, 3, 0]
 refine ⟨_, rfl, ?_⟩
 refine kk <| znt <| Z7 <| Ze 10 (.slice oa D.length oc) (show ((.slice oa O.length oc) : Value) = _ by rw [p68.length_eq]) ?_
 have hcD := ListAt.cap (ListAt.row (enc := Z0Y) (sz := 34) Z2h (by decide) (H71.at 3 rfl))
 refine Zl <| wv 43 (.slice oa D.length oc) <| wv 44 (.slice oa D.length oc) <| wv 45 (vi D.length) <| wv 46 (vi m) <| wv 47 (vi (min D.length m : Nat)) ?_ (hr := Zg5 (k := .i64) (a := (D.length : Int)) (b := (m : Int)) (z := ((min D.length m : Nat) : Int)) rfl rfl om)
 refine wv 48 (.slice oa (min D.length m) oc) ?_ (hr := Z7f (E := 86) (q := (min D.length m)) kr kr rfl rfl om om)
 refine wv 8 (.slice oa (min D.length m) oc) <| znt <| Zk <| ze1 (.slice oa (min D.length m) oc) ?_
 exact ⟨oa, oc, D, by rw [show min D.length m = (D.take m).length by rw [List.length_take, Nat.min_comm]], SortN.of (lt := Zet) (by rw [← hO]; exact p68) (s69.imp fun h => h), hDl, Z60 Z2h (H71.at 3 rfl), H71.upd 0 rfl [] ne, (fun q_ hq_ => H71.fresh 0 rfl (fun _ h => h) 3 rfl rfl q_ (by cases oa with | none => exact hq_ | some _ => exact hq_))⟩
end Go.Proofs.YtenihpghfdcpkaaGreat
namespace Go.Proofs.YtenihpghfdcpkaaGreat
open Go.RowKit Go.Shelf
def sortT_ren : Go.Shelf.Ren := ⟨fun | 6 => 97 | 15 => 102 | 14 => 124 | 28 => 136 | 29 => 137 | 20 => 169 | 21 => 170 | 22 => 171 | 23 => 172 | 24 => 173 | 25 => 174 | 26 => 175 | 27 => 176 | 46 => 201 | 47 => 182 | 48 => 183 | 49 => 202 | 50 => 203 | 57 => 218 | n => n, fun | 22 => 43 | 24 => 89 | 25 => 188 | 3 => 3 | 39 => 108 | 0 => 0 | 53 => 198 | 55 => 25 | 4 => 4 | 46 => 222 | 45 => 221 | 50 => 226 | 5 => 5 | 9 => 9 | 66 => 257 | 70 => 261 | 76 => 281 | 77 => 282 | n => n, fun | n => n⟩
theorem sortT : Go.Proofs.SlLaysF0.n6 Tryz.prog sortT_ren := {
 mixed := by kernel_rfl,
 f6 := ⟨Tryz.f97.name, by decide, Tryz.func97.trans (congrArg some (by kernel_rfl))⟩,
 f14 := ⟨Tryz.f124.name, by decide, Tryz.func124.trans (congrArg some (by kernel_rfl))⟩,
 f15 := Tryz.func102.trans (congrArg some (by kernel_rfl)),
 f20 := ⟨Tryz.f169.name, by decide, Tryz.func169.trans (congrArg some (by kernel_rfl))⟩,
 f21 := ⟨Tryz.f170.name, by decide, Tryz.func170.trans (congrArg some (by kernel_rfl))⟩,
 f22 := ⟨Tryz.f171.name, by decide, Tryz.func171.trans (congrArg some (by kernel_rfl))⟩,
 f23 := ⟨Tryz.f172.name, by decide, Tryz.func172.trans (congrArg some (by kernel_rfl))⟩,
 f24 := ⟨Tryz.f173.name, by decide, Tryz.func173.trans (congrArg some (by kernel_rfl))⟩,
 f25 := ⟨Tryz.f174.name, by decide, Tryz.func174.trans (congrArg some (by kernel_rfl))⟩,
 f26 := ⟨Tryz.f175.name, by decide, Tryz.func175.trans (congrArg some (by kernel_rfl))⟩,
 f27 := ⟨Tryz.f176.name, by decide, Tryz.func176.trans (congrArg some (by kernel_rfl))⟩,
 f28 := Tryz.func136.trans (congrArg some (by kernel_rfl)),
 f29 := Tryz.func137.trans (congrArg some (by kernel_rfl)),
 f46 := ⟨Tryz.f201.name, by decide, Tryz.func201.trans (congrArg some (by kernel_rfl))⟩,
 f47 := Tryz.func182.trans (congrArg some (by kernel_rfl)),
 f48 := Tryz.func183.trans (congrArg some (by kernel_rfl)),
 f49 := ⟨Tryz.f202.name, by decide, Tryz.func202.trans (congrArg some (by kernel_rfl))⟩,
 f50 := ⟨Tryz.f203.name, by decide, Tryz.func203.trans (congrArg some (by kernel_rfl))⟩,
 f57 := ⟨Tryz.f218.name, by decide, Tryz.func218.trans (congrArg some (by kernel_rfl))⟩,
 t0 := Tryz.underlying0,
 a0 := Tryz.isAgg0,
 z0 := Tryz.sizeOf0,
 v0 := Tryz.zeroValue0,
 t3 := Tryz.underlying3,
 a3 := Tryz.isAgg3,
 z3 := Tryz.sizeOf3,
 v3 := Tryz.zeroValue3,
 t4 := Tryz.underlying4,
 a4 := Tryz.isAgg4,
 z4 := Tryz.sizeOf4,
 v4 := Tryz.zeroValue4,
 t5 := Tryz.underlying5,
 a5 := Tryz.isAgg5,
 z5 := Tryz.sizeOf5,
 v5 := Tryz.zeroValue5,
 t9 := Tryz.underlying9,
 a9 := Tryz.isAgg9,
 z9 := Tryz.sizeOf9,
 v9 := Tryz.zeroValue9,
 t22 := Tryz.underlying43,
 a22 := Tryz.isAgg43,
 z22 := Tryz.sizeOf43,
 v22 := Tryz.zeroValue43,
 t25 := Tryz.underlying188,
 a25 := Tryz.isAgg188,
 z25 := Tryz.sizeOf188,
 v25 := Tryz.zeroValue188,
 t39 := Tryz.underlying108,
 a39 := Tryz.isAgg108,
 z39 := Tryz.sizeOf108,
 v39 := Tryz.zeroValue108,
 t45 := Tryz.underlying221,
 a45 := Tryz.isAgg221,
 z45 := Tryz.sizeOf221,
 v45 := Tryz.zeroValue221,
 t46 := Tryz.underlying222,
 a46 := Tryz.isAgg222,
 z46 := Tryz.sizeOf222,
 v46 := Tryz.zeroValue222,
 t50 := Tryz.underlying226,
 a50 := Tryz.isAgg226,
 z50 := Tryz.sizeOf226,
 v50 := Tryz.zeroValue226,
 t53 := Tryz.underlying198,
 a53 := Tryz.isAgg198,
 z53 := Tryz.sizeOf198,
 v53 := Tryz.zeroValue198,
 t55 := Tryz.underlying25,
 a55 := Tryz.isAgg25,
 z55 := Tryz.sizeOf25,
 v55 := Tryz.zeroValue25,
 t66 := Tryz.underlying257,
 a66 := Tryz.isAgg257,
 z66 := Tryz.sizeOf257,
 v66 := Tryz.zeroValue257,
 t70 := Tryz.underlying261,
 a70 := Tryz.isAgg261,
 z70 := Tryz.sizeOf261,
 v70 := Tryz.zeroValue261,
 t76 := Tryz.underlying281,
 a76 := Tryz.isAgg281,
 z76 := Tryz.sizeOf281,
 v76 := Tryz.zeroValue281,
 t77 := Tryz.underlying282,
 a77 := Tryz.isAgg282,
 z77 := Tryz.sizeOf282,
 v77 := Tryz.zeroValue282 }
end Go.Proofs.YtenihpghfdcpkaaGreat
namespace Go.Proofs.YtenihpghfdcpkaaGreat
open Go.RowKit
abbrev Z4b (p0 : TbR) : List Value := ([i6 p0.i, (.slice p0.da p0.D.length p0.dc)] : LV)
theorem Z81 (w : World) (p : TbR) :
  Calls Tryz.prog 55 #[(.agg ⟨([i6 p.i, ((.slice p.da p.D.length p.dc))] : LV)⟩)] w fun e w' => e = .returned (i6 p.i) ∧ Upd [] w w' ∧ Gr w w' := by
 have H := Sat.start0 w
 refine Za Tryz.func55 rfl 5 rfl kn ?_
 refine zsl <| zy <| Z3P (vs := (Z4b p)) rfl H rfl rfl fun b2 w3 H4 g5 => ?_
 refine kk <| wv 2 (vi 0) <| Z0G <| wv 3 (pt b2 0) <| zw1 4 (vi p.i) (H4.cell 1 rfl rfl) <| wv 2 (vi p.i) <| znt <| Zk <| ze1 (vi p.i) ?_
 exact ⟨rfl, H4.upd 0 rfl [] ne, g5⟩
theorem ZaN (w : World) (x y : TbR) (fb : Nat) (hfb : (Z0 fb 138 [.func (.func 55) #[] #[]]).ok w) :
  Calls Tryz.prog 98 #[(.agg ⟨([i6 x.i, ((.slice x.da x.D.length x.dc))] : LV)⟩), (.agg ⟨([i6 y.i, ((.slice y.da y.D.length y.dc))] : LV)⟩), zp fb] w fun e w' => e = .returned (i6 (Z2S x.i y.i)) ∧ Upd [] w w' ∧ Gr w w' := by
 have H := Sat.start0 w
 refine Za Tryz.func98 rfl 13 rfl kn ?_
 refine zsl <| zy <| Z3P (vs := (Z4b x)) rfl H rfl rfl fun b2 w3 H4 g5 => ?_
 refine kk <| zy <| Z3P (vs := (Z4b y)) rfl H4 rfl rfl fun b7 w8 H9 g10 => ?_
 have gr11 := g5.trans g10
 refine kk <| wv 5 (vi 0) <| znt <| Z7 <| Z5u H9 [zR w, Z0 b2 89 (Z4b x), Z0 b7 89 (Z4b y)] 8 rfl kr (fun Hx => (Hx.pk [0, 1, 2])) fun w12 H13 S14 g15 => ?_
 have gr16 := gr11.trans g15
 refine hv0 0 S14 6 (.func (.func 55) #[] #[]) ?_ (he := fun _ H' => (zl1 (H'.roCell 0 rfl hfb (fun h => h) rfl)))
 refine hv0 1 S14 7 (.agg ⟨(Z4b x)⟩) ?_ (he := fun _ H' => (zlN (vs := (Z4b x)) (H'.at 1 rfl)))
 refine hv0 3 S14 9 (.func (.func 55) #[] #[]) ?_ (he := fun _ H' => (zl1 (H'.roCell 0 rfl hfb (fun h => h) rfl)))
 refine hv0 4 S14 10 (.agg ⟨(Z4b y)⟩) ?_ (he := fun _ H' => (zlN (vs := (Z4b y)) (H'.at 2 rfl)))
 refine zhy 2 ?_
 refine zdc 8 (Z81 w12 x) ?_
 rintro _ w18 ⟨rfl, u20, g21⟩
 have H19 := H13.keepU u20
 refine ⟨_, rfl, ?_⟩
 have gr22 := gr16.trans g21
 have S23 := H19.pk [0, 1, 2]
 refine kh S23 <| zhy 5 ?_
 refine zdc 11 (Z81 w18 y) ?_
 rintro _ w25 ⟨rfl, u27, g28⟩
 have H26 := H19.keepU u27
 refine ⟨_, rfl, ?_⟩
 have gr29 := gr22.trans g28
 have S30 := H26.pk [0, 1, 2]
 refine kh S30 <| zhy 6 ?_
 refine zdc 12 (Z3S x.i y.i w25) ?_
 rintro _ w32 ⟨rfl, hw32⟩
 obtain rfl := hw32.symm
 refine ⟨_, rfl, ?_⟩
 have S33 := H26.pk [0, 1, 2]
 refine kh S33 <| hv0 7 S33 5 (vi (Z2S x.i y.i)) <| zhf <| ztn <| Zk <| ze1 (vi (Z2S x.i y.i)) ?_
 exact ⟨rfl, H26.upd 0 rfl [] ne, gr29⟩
end Go.Proofs.YtenihpghfdcpkaaGreat
namespace Go.Proofs.YtenihpghfdcpkaaGreat
open Go.RowKit Go.Shelf Go.Sort
instance : Inhabited TbR := ⟨tb0⟩
def Zel (x y : TbR) : Int := Z2S x.i y.i
def Zev (x y : TbR) : Prop := x.i < y.i
instance (x y : TbR) : Decidable (Zev x y) := by unfold Zev; exact inferInstance
theorem Z4W (x y : TbR) : ltOf Zel x y = decide (Zev x y) := by
 unfold ltOf
 refine decide_eq_decide.2 ?_
 unfold Zel Zev
 rcases Z3e x.i y.i with ⟨h1, e1⟩ | ⟨h1, e1⟩ | ⟨h1, e1⟩ <;> rw [e1] <;>
  first | exact iff_of_true (by decide) (by omega) | exact iff_of_false (by decide) (by omega)
theorem Zd2 : SWO (ltOf Zel) := by
 refine ⟨fun x => ?_, fun x y z h1 h2 => ?_, fun x y z h1 h2 => ?_⟩
 ·rw [Z4W]; exact decide_eq_false (by unfold Zev; omega)
 ·rw [Z4W] at *
  have := of_decide_eq_true h1; have := of_decide_eq_true h2
  unfold Zev at *
  exact decide_eq_true (by omega)
 ·rw [Z4W] at *
  have := of_decide_eq_false h1; have := of_decide_eq_false h2
  unfold Zev at *
  exact decide_eq_false (by omega)
theorem Z9r (blk off size : Nat) (w : World) {fb : Nat} (hne : fb ≠ blk) (hfb : (Z0 fb 138 [.func (.func 55) #[] #[]]).ok w) : CmpLays Tryz.prog 98 #[zp fb] Z0U 2 Zel blk off size w := fun m os dk _ x y =>
 (ZaN (sortWorldK Z0U 2 w blk off m dk os) x y fb ((Z0 fb _ _).stay hfb fun b hb => by
  rw [show b = fb from hb]
  have hlt := (Z0 fb _ _).lt hfb fb rfl
  unfold sortWorldK putRowK putRow mapBlock grow Sort.ahead
  simp only [Array.getElem?_append, Array.size_modify, hlt, if_true, Array.getElem?_modify]
  rw [if_neg (fun e => hne e.symm)])).mono fun _ _ h => ⟨h.1, h.2.2⟩
theorem Zcw (w : World) (g c : Nat) (D : List TbR) (hv : (Zh 89 2 (.slice (some ⟨g, 0, none⟩) D.length c) D.length (D.flatMap Z0U)).ok w) (h12 : D.length ≤ 12) (fb : Nat) (hne : fb ≠ g) (hfb : (Z0 fb 138 [.func (.func 55) #[] #[]]).ok w) :
  Calls Tryz.prog 97 #[.slice (some ⟨g, 0, none⟩) D.length c, .func (.func 98) #[] #[zp fb]] w fun e w' => e = .returned (.tuple #[]) ∧ ∃ D' : List TbR, D'.Perm D ∧ (D'.Pairwise fun a b => ¬ Zev b a) ∧ (Zh 89 2 (.slice (some ⟨g, 0, none⟩) D.length c) D.length (D'.flatMap Z0U)).ok w' ∧ Upd [g] w w' := by
 obtain ⟨A, rfl⟩ : ∃ A : List TbR, A = D := ⟨D, rfl⟩
 have hg : g < w.heap.size := (Zh _ _ _ _ _).lt hv g rfl
 obtain ⟨cur, hb, hnc, hcm, hcs, htk⟩ : ∃ cur, w.heap[g]? = some (.cells cur 89 (0, 0)) ∧ A.length ≤ c ∧ c ≤ maxLen ∧ cur.size = c * 2 ∧ cur.toList.take (A.length * 2) = A.flatMap Z0U := by
  rcases hv.2 with ⟨h, _⟩ | ⟨g', c', cur, h, _, h1, h2, h3, h4, h5⟩
  ·cases h
  ·simp only [Value.slice.injEq, Option.some.injEq, Addr.mk.injEq] at h
   obtain ⟨⟨rfl, _⟩, _, rfl⟩ := h
   exact ⟨cur, h1, h2, h3, h4, h5⟩
 have hH : HoldsK Z0U 2 w g 0 A.toArray := fun j hj => by
  have hj' : j < A.length * 2 := by simpa using hj
  have hq : j / 2 < A.length := (Nat.div_lt_iff_lt_mul (by omega)).2 hj'
  refine ⟨?_, ?_⟩
  ·rw [get_flatK _ _ _ _ (by simpa using hj')]
   have hx : A.toArray[j / 2]! = A[j / 2] := by rw [getElem!_pos A.toArray (j / 2) (by simpa using hq)]; simp
   rw [hx]
   refine Z0L (enc := Z0U) hv rfl Z2n (i := j / 2) (x := A[j / 2]) (List.getElem?_eq_getElem hq) (j % 2) (by have := Nat.mod_lt j (show 0 < 2 by omega); simp [Nat.blt_eq, this]) (by omega) ?_
   have hm : j % 2 < (Z0U A[j / 2]).length := by rw [Z2n]; omega
   rw [List.getElem?_eq_getElem hm, getElem!_pos (Z0U A[j / 2]) _ hm]; rfl
  ·unfold World.frozen?
   rw [hb]; simp
 have hbl : ∀ (n : Nat) (W : World), n ≤ 12 → Calls Tryz.prog (sortT_ren.f 15) #[u6 n] W fun e w' => (∃ l : Int, e = .returned (i6 l)) ∧ w' = W := fun n W hn =>
  (Any.bits_Len Z8v n W (by omega) (by omega)).mono fun _ _ ⟨he, hw⟩ => ⟨⟨_, he⟩, hw⟩
 have h := AnyQ.slices_SortFunc_small_sorted (P := Tryz.prog) sortT 2 Tryz.isAgg89 Tryz.sizeOf89 Z0U Z2n (fun x v hv => List.all_eq_true.1 (Z5o x) v hv) Zel 98 #[zp fb] Zd2 g 0 c A.toArray w (enters_of Tryz.func98 (by kernel_rfl) rfl) (Z9r g 0 _ w hne hfb) hH hg (by simpa using h12) hbl
 rw [show A.toArray.size = A.length from List.size_toArray ..] at h
 refine h.mono fun e w' ⟨he, d', n, os, hp, hs, hw⟩ => ?_
 have hsz : d'.size = A.length := by simpa using hp.1
 have hp2 : d'.toList.Perm A := by
  have := hp.2.2
  have e1 : d'.extract 0 A.length = d' := by rw [← hsz]; exact Array.extract_size
  have e2 : A.toArray.extract 0 A.length = A.toArray := Array.extract_size (xs := A.toArray)
  rw [e1, e2] at this
  exact this
 refine ⟨he, d'.toList, hp2, ?_, ?_, ?_⟩
 ·rw [List.pairwise_iff_getElem]
  intro i j hi hj hij
  have hi' : i < d'.size := by simpa using hi
  have hj' : j < d'.size := by simpa using hj
  have := hs i j (Nat.zero_le _) hij (by omega)
  rw [getElem!_pos d' i hi', getElem!_pos d' j hj'] at this
  rw [Z4W] at this
  have h5 := of_decide_eq_false this
  rwa [Array.getElem_toList, Array.getElem_toList]
 ·obtain ⟨q1, q2⟩ := Z3y Z0U 2 Z2n (by omega) d' cur (by rw [hsz, hcs]; exact Nat.mul_le_mul_right _ hnc)
  refine ⟨by rw [Z0T Z0U 2 Z2n]; simp [hsz], .inr ⟨g, c, putCells id 0 (flatK Z0U 2 d') cur, rfl, Nat.zero_le _, ?_, hnc, hcm, by rw [q1, hcs], by rw [← hsz]; exact q2⟩⟩
  rw [hw]
  unfold sortWorldK putRowK putRow mapBlock grow Sort.ahead
  simp only [Array.getElem?_append, Array.size_modify, hg, if_true, Array.getElem?_modify]
  rw [hb]; rfl
 ·subst hw
  refine ⟨rfl, rfl, rfl, size_sortWorldK_c _ _ _ _ _ _ _ _, fun k hk hne => ?_⟩
  have hne : g ≠ k := fun e => hne (by simp [e])
  unfold sortWorldK putRowK putRow mapBlock grow Sort.ahead
  simp only [Array.getElem?_append, Array.size_modify, hk, if_true, Array.getElem?_modify, if_neg hne]
theorem Z9K (w : World) (a : Option Addr) (c : Nat) (D : List TbR) (fb : Nat) (hv : (Z04 [Zh 89 2 (.slice a D.length c) D.length (D.flatMap Z0U), Z0 fb 138 [.func (.func 55) #[] #[]]]).ok w) (h12 : D.length ≤ 12) :
  Calls Tryz.prog 97 #[.slice a D.length c, .func (.func 98) #[] #[zp fb]] w fun e w' => ∃ D' : List TbR, e = .returned (.tuple #[]) ∧ D'.Perm D ∧ (D'.Pairwise fun a b => ¬ Zev b a) ∧ Sat w [Zh 89 2 (.slice a D'.length c) D'.length (D'.flatMap Z0U), Z0 fb 138 [.func (.func 55) #[] #[]], ZF w (Z04 [Zh 89 2 (.slice a D.length c) D.length (D.flatMap Z0U), Z0 fb 138 [.func (.func 55) #[] #[]]]).fp] w' := by
 have H := Sat.start _ hv
 cases hD : D with
 | nil =>
  subst hD
  refine (Zce a c (.func (.func 98) #[] #[zp fb]) w).mono fun e w' ⟨he, hw⟩ => ?_
  subst hw
  exact ⟨[], he, List.Perm.refl _, List.Pairwise.nil, H⟩
 | cons x D0 =>
  rw [← hD]
  have hv0 := hv.1 _ List.mem_cons_self
  have hv1 := hv.1 _ (List.mem_cons_of_mem _ List.mem_cons_self)
  obtain ⟨g, c', hs⟩ := Z0w hv0 (by rw [hD]; simp)
  simp only [Value.slice.injEq] at hs
  obtain ⟨rfl, _, rfl⟩ := hs
  have hne : fb ≠ g := fun e => (List.pairwise_cons.1 hv.2).1 _ List.mem_cons_self g rfl e.symm
  refine (Zcw w g c D hv0 h12 fb hne hv1).mono fun e w' ⟨he, D', hp, hs, hok, hu⟩ => ?_
  have hl := hp.length_eq
  refine ⟨D', he, hp, hs, ?_⟩
  rw [hl]
  exact H.setU hu 0 rfl (by rintro b' hb; rw [List.mem_singleton.1 hb]; rfl) hok (fun b hb => .inl hb)
end Go.Proofs.YtenihpghfdcpkaaGreat
