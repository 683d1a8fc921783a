/- WHAT IS PROVED: contracts and plain laws of Own12, MkO12, FstD, CloneS, Copy12, CloneBt, CloneD, MkD12. Conditions: stated with each. -/
import Derived.Shelf.SlicesE.Clone
import Derived.Test.YtenihpghfdcpkaaGreatPV02
import Derived.Test.YtenihpghfdcpkaaGreatPV03
import Derived.Test.YtenihpghfdcpkaaGreatPV04
import Derived.Test.YtenihpghfdcpkaaGreatPV05
import Derived.Test.YtenihpghfdcpkaaGreatPV06
import Derived.Test.YtenihpghfdcpkaaGreatPV13
import Derived.Test.YtenihpghfdcpkaaGreatPV23
import Derived.Test.YtenihpghfdcpkaaGreatPV24
import Derived.Test.YtenihpghfdcpkaaGreatPV26
import Derived.Test.YtenihpghfdcpkaaGreatPV28
set_option maxHeartbeats 4000000
set_option maxRecDepth 100000
namespace Go.Proofs.YtenihpghfdcpkaaGreat
open Go.RowKit
abbrev Zdk (p0 : Int) (p1 : Int) (p2 : Nat) (p3 : Nat) (p4 : Int) (p5 : Int) (p6 : Int) (p7 : Int) (p8 : Option Addr) (p9 : Nat) (p10 : Nat) (p11 : Option Addr) (p12 : Nat) (p13 : Nat) : List Value := ([i6 p0, i6 p1, (pt p2 0), (pt p3 0), i6 p4, i6 p5, i6 p6, u6 p7, (.slice p8 p9 p10), (.slice p11 p12 p13)] : LV)
abbrev Zdh (p0 : Value) : List Value := ([i6 0, i6 0, i6 0, u6 0, p0, p0] : LV)
abbrev ZdX (p0 : Int) (p1 : Int) (p2 : Int) (p3 : Int) (p4 : Nat) (p5 : Nat) : List Value := ([i6 p0, i6 p1, i6 p2, u6 p3, (.map (some p4)), (.map (some p5))] : LV)
abbrev Za7 (p0 : Z1g) : List Value := ([i6 p0.cl, i6 p0.sq] : LV) ++ hc p0.h ++ ([u6 p0.t] : LV)
def Z3l (O : List Z1g) : List (Int × Z3x) := O.foldl (fun M s => Z30 M s.i ⟨s.cl, s.sq, s.h, s.t⟩) []
def Zcj (G : List NmD) : List (NmD × Bool) := G.foldl (fun M n => Z30 M n true) []
theorem ZaN {O : List Z1g} {i : Nat} {x : Z1g} (h : O[i]? = some x) : Z3l (O.take (i + 1)) = Z30 (Z3l (O.take i)) x.i ⟨x.cl, x.sq, x.h, x.t⟩ := by
 unfold Z3l; rw [List.take_add_one, h, Option.toList_some, List.foldl_append]; rfl
theorem Z9F {O : List Z1g} {i : Nat} (h : i < O.length) : Z3l (O.take (i + 1)) = Z30 (Z3l (O.take i)) (O.getD i Z0i).i ⟨(O.getD i Z0i).cl, (O.getD i Z0i).sq, (O.getD i Z0i).h, (O.getD i Z0i).t⟩ := by
 refine ZaN ?_
 rw [List.getD_eq_getElem?_getD, List.getElem?_eq_getElem h]; rfl
theorem ZaJ {G : List NmD} {i : Nat} (h : i < G.length) : Zcj (G.take (i + 1)) = Z30 (Zcj (G.take i)) (G.getD i nm0) true := by
 unfold Zcj
 have e : G.take (i + 1) = G.take i ++ [G.getD i nm0] := by
  rw [List.take_add_one, List.getElem?_eq_getElem h, List.getD_eq_getElem?_getD, List.getElem?_eq_getElem h]; rfl
 rw [e, List.foldl_append]; rfl
theorem ZcW (w : World) (b r : Nat) (F c1 F2 c2 ep last : Int) (la : Option Addr) (lc : Nat) (G : List NmD) (hG : ListAt Z2n 2 w (.slice la G.length lc) G) (oa : Option Addr) (oc : Nat) (O : List Z1g) (hO : ListAt Z39 36 w (.slice oa O.length oc) O) (hlG : G.length ≤ 1000) (hlO : O.length ≤ 1000) :
  Calls Tryz.prog 13 #[(.agg ⟨([i6 F, i6 c1, zp b, zp r, i6 F2, i6 c2, i6 ep, u6 last, (.slice la G.length lc), (.slice oa O.length oc)] : LV)⟩)] w fun e w' => ∃ ml mo, e = .returned (.agg ⟨[i6 F, i6 c1, i6 ep, u6 last, .map (some ml), .map (some mo)]⟩) ∧ (Z0h [Z2S ml nmV Value.bool (Zcj G), Z2S mo (Value.int .i64) Z9i (Z3l O)]).ok w' ∧ Upd [] w w' ∧ ∀ q_, (Z0h [Z2S ml nmV Value.bool (Zcj G), Z2S mo (Value.int .i64) Z9i (Z3l O)]).fp q_ → w.heap.size ≤ q_ := by
 have H := Sat.start0 w
 refine Zg Tryz.func13 rfl 58 rfl kn ?_
 let A0 := Zdk F c1 b r F2 c2 ep last la G.length lc oa O.length oc
 refine zsl <| zy <| zdb A0 H fun b2 w3 H4 => ?_
 let A3 := Zdh (Go.Value.map none)
 refine kk <| zy <| zda A3 H4 fun b6 w7 H8 => ?_
 refine kk <| Z1a <| wv 6 (pt b2 0) <| zwN 7 ([(vi F), (vi c1)] : LV) (H8.at 1 rfl) <| wv 8 (pt b2 4) <| wv 9 (pt b2 6) <| zw1 10 (vi ep) (H8.cell 1 rfl rfl) <| wv 11 (pt b2 4) <| wv 12 (pt b2 7) <| zw1 13 (vu last) (H8.cell 1 rfl rfl) ?_
 refine zy <| Z4c nmV Value.bool rfl H8 fun b10 w11 H12 => ?_
 refine kk <| zy <| Z4c (Value.int .i64) Z9i rfl H12 fun b14 w15 H16 => ?_
 let A1 := ZdX F c1 ep last b10 b14
 refine kk <| wv 16 (.agg ⟨A1⟩) <| zy <| zda A3 H16 fun b18 w19 H20 => ?_
 refine kk <| zy <| Z1S A1 H20 5 fun w22 H23 => ?_
 let Aa : Value := .slice la G.length lc
 refine kk <| znt <| Z9 <| zsl <| wv 17 (pt b2 4) <| wv 18 (pt b2 8) <| zw1 19 Aa (H23.cell 1 rfl rfl) <| wv 20 (vi G.length) <| wv 21 (vi 0) <| znt ?_
 let A9 := Z0 b18 54 A1
 let Ab := Z0 b2 38 A0
 let Ac := Z0 b6 54 A3
 refine Zh <| ZB ([4] ++ List.range' 21 12) (fun F_ W_ m_ => ∃ (i : Nat), F_ 21 = (vi i) ∧ (i ≤ G.length) ∧ Sat w [zR w, Ab, Ac, Z2S b10 nmV Value.bool (Zcj (G.take i)), Z2S b14 (Value.int .i64) Z9i [], A9] W_ ∧ m_ = G.length - i) _ ⟨0, (show ((vi 0) : Value) = _ by first | rfl | go_num), (Nat.zero_le _), H23, rfl⟩ ?_
 rintro g25 w26 _ ⟨i, v28, hi, H27, rfl⟩
 refine Zn 21 _ v28 ?_
 refine zsl <| wv 22 (.bool (decide ((i : Int) < G.length))) <| znt <| Z9 ?_
 let A8 : Value := .slice oa O.length oc
 let A2 := Z0 b2 38 ([(vi F), (vi c1), (pt b 0), (pt r 0), (vi F2), (vi c2), (vi ep), (vu last), Aa, A8] : LV)
 let A5 := Z0 b6 54 ([(vi 0), (vi 0), (vi 0), (vu 0), ((Go.Value.map none)), ((Go.Value.map none))] : LV)
 let A6 := Z0 b18 54 ([(vi F), (vi c1), (vi ep), (vu last), (.map (some b10)), (.map (some b14))] : LV)
 refine zid (fun b30 g31 => ?_) fun b30 g61 => ?_
 ·refine Zp <| ztn <| Z9 <| Zh <| zsl <| wv 23 (vi i) <| wv 4 (vi i) <| znt ?_
  obtain ⟨g33, o34, c35, e36, R37⟩ := SliceOf.atD hG nm0 (show i < G.length by omega)
  obtain ⟨g38, o39, c40, e41, R42⟩ := SliceOf.atD hG nm0 (show i < G.length by omega)
  obtain ⟨g43, o44, c45, e46, R47⟩ := SliceOf.atD hG nm0 (show i < G.length by omega)
  refine Z0a H27 [zR w, Ab, Ac, Z2S b14 (Value.int .i64) Z9i [], A9] 9 rfl kr (fun Hx => (Hx.pk [0, 1, 2, 4, 5])) ?_
  intro w48 H49 S50
  refine hv0 0 S50 24 (pt b18 4) <| hv0 1 S50 25 (.map (some b10)) ?_ (he := fun _ H' => (zl1 (H'.cell 4 rfl rfl)))
  refine hv0 2 S50 26 (pt b2 4) <| hv0 3 S50 27 (pt b2 8) <| hv0 4 S50 28 Aa ?_ (he := fun _ H' => (zl1 (H'.cell 1 rfl rfl)))
  refine hv0 5 S50 29 (vi i) ?_
  obtain ⟨g51, o52, c53, e54, R55⟩ := SliceOf.atD hG nm0 (show i < G.length by omega)
  refine Z0V 6 rfl kr kr kr (fun _ _ _ h => h) S50 (Zc rfl) (d := 30) (v := (.pointer (some ⟨g51, o52 + ((i : Int)).toNat * 2, none⟩))) rfl (fun _ H' => (Z8 (E := 59) kr kr kn rfl e54 rfl om om)) ?_
  let A7 := ([(vi ((G.getD i nm0).cl)), (vi ((G.getD i nm0).sq))] : LV)
  refine hv0 7 S50 31 (.agg ⟨A7⟩) ?_ (he := fun _ H' => (ZX (vs := A7) rfl kr kr kn (H'.runR 0 rfl (Z08 R55 0 kr (show o52 + ((i : Int)).toNat * 2 = o52 + i * 2 + 0 by omega)) (fun h => h))))
  refine zhy 8 ?_
  refine Z3a (kt := 59) (et := 4) rfl H49 3 rfl nmK kr rfl (⟨(G.getD i nm0).cl, (G.getD i nm0).sq⟩ : NmD) rfl true rfl ?_
  intro w57 H58
  have S59 := H58.pk [0, 1, 2, 4, 5]
  refine kh S59 <| zhf <| Z6 <| ztn ?_
  have H60 : Sat w [zR w, A2, A5, Z2S b10 nmV Value.bool (Zcj (G.take (i + 1))), Z2S b14 (Value.int .i64) Z9i [], A6] w57 := by rw [ZaJ om]; exact H58
  refine ZG <| zwi 32 ((i : Int) + 1) <| wv 21 (vi ((i : Int) + 1)) <| ZL <| Za ?_ _ ⟨(i + 1), rfl, om, H60, rfl⟩ om
  exact zs
 refine zxb <| ztn <| Z9 <| Z9 ?_
 have hiG : G.take i = G := List.take_of_length_le om
 refine ZG <| wv 33 (pt b2 4) <| wv 34 (pt b2 9) <| zw1 35 A8 (H27.cell 1 rfl rfl) <| wv 36 (vi O.length) <| wv 37 (vi 0) <| znt <| Zh <| ZB ([5] ++ List.range' 37 20) (fun F_ W_ m_ => ∃ (k : Nat), F_ 37 = (vi k) ∧ (k ≤ O.length) ∧ Sat w [zR w, Ab, Ac, Z2S b10 nmV Value.bool (Zcj (G.take i)), Z2S b14 (Value.int .i64) Z9i (Z3l (O.take k)), A9] W_ ∧ m_ = O.length - k) _ ⟨0, (show ((vi 0) : Value) = _ by first | rfl | go_num), (Nat.zero_le _), H27, rfl⟩ ?_
 rintro g63 w64 _ ⟨k, v66, hk, H65, rfl⟩
 refine Zn 37 _ v66 ?_
 refine zsl <| wv 38 (.bool (decide ((k : Int) < O.length))) <| znt <| Z9 ?_
 refine zid (fun b68 g69 => ?_) fun b68 g99 => ?_
 ·refine Zp <| ztn <| Z9 <| Zh <| zsl <| wv 39 (vi k) <| wv 5 (vi k) <| znt ?_
  obtain ⟨g71, o72, c73, e74, R75⟩ := SliceOf.atD hO Z0i (show k < O.length by omega)
  obtain ⟨g76, o77, c78, e79, R80⟩ := SliceOf.atD hO Z0i (show k < O.length by omega)
  obtain ⟨g81, o82, c83, e84, R85⟩ := SliceOf.atD hO Z0i (show k < O.length by omega)
  refine Z0a H65 [zR w, Ab, Ac, Z2S b10 nmV Value.bool (Zcj (G.take i)), A9] 17 rfl kr (fun Hx => (Hx.pk [0, 1, 2, 3, 5])) ?_
  intro w86 H87 S88
  refine hv0 0 S88 40 (pt b18 5) <| hv0 1 S88 41 (.map (some b14)) ?_ (he := fun _ H' => (zl1 (H'.cell 4 rfl rfl)))
  refine hv0 2 S88 42 (pt b2 4) <| hv0 3 S88 43 (pt b2 9) <| hv0 4 S88 44 A8 ?_ (he := fun _ H' => (zl1 (H'.cell 1 rfl rfl)))
  refine hv0 5 S88 45 (vi k) ?_
  obtain ⟨g89, o90, c91, e92, R93⟩ := SliceOf.atD hO Z0i (show k < O.length by omega)
  let A4 : Value := .pointer (some ⟨g89, o90 + ((k : Int)).toNat * 36, none⟩)
  refine Z0V 6 rfl kr kr kr (fun _ _ _ h => h) S88 (Zc rfl) (d := 46) (v := A4) rfl (fun _ H' => (Z8 (E := 102) kr kr kn rfl e92 rfl om om)) ?_
  refine hv0 7 S88 47 A4 <| hv0 8 S88 48 (vi ((O.getD k Z0i).i)) ?_ (he := fun _ H' => (zl1 (H'.cellR 0 rfl (Z0f R93 0 kr (show o90 + ((k : Int)).toNat * 36 = o90 + k * 36 + 0 by omega)) (fun h => h))))
  refine hv0 9 S88 49 (pt b2 4) <| hv0 10 S88 50 (pt b2 9) <| hv0 11 S88 51 A8 ?_ (he := fun _ H' => (zl1 (H'.cell 1 rfl rfl)))
  refine hv0 12 S88 52 (vi k) <| Z0V 13 rfl kr kr kr (fun _ _ _ h => h) S88 (Zc rfl) (d := 53) (v := A4) rfl (fun _ H' => (Z8 (E := 102) kr kr kn rfl e92 rfl om om)) ?_
  refine hv0 14 S88 54 (.pointer (some ⟨g89, o90 + ((k : Int)).toNat * 36 + 1, none⟩)) <| hv0 15 S88 55 (.agg ⟨(Za7 (O.getD k Z0i))⟩) ?_ (he := fun _ H' => (ZX (vs := (Za7 (O.getD k Z0i))) rfl kr kr kn (H'.runR 0 rfl (Z08 R93 1 kr (show o90 + ((k : Int)).toNat * 36 + 1 = o90 + k * 36 + 1 by omega)) (fun h => h))))
  refine zhy 16 ?_
  refine Z3a (kt := 3) (et := 63) rfl H87 4 rfl (KeyTy.int kr) kr rfl ((O.getD k Z0i).i) rfl (⟨(O.getD k Z0i).cl, (O.getD k Z0i).sq, ((O.getD k Z0i).h), (O.getD k Z0i).t⟩ : Z3x) rfl ?_
  intro w95 H96
  have S97 := H96.pk [0, 1, 2, 3, 5]
  refine kh S97 <| zhf <| Z6 <| ztn ?_
  have H98 : Sat w [zR w, A2, A5, Z2S b10 nmV Value.bool (Zcj (G.take i)), Z2S b14 (Value.int .i64) Z9i (Z3l (O.take (k + 1))), A6] w95 := by rw [Z9F om]; exact H96
  refine ZG <| zwi 56 ((k : Int) + 1) <| wv 37 (vi ((k : Int) + 1)) <| ZL <| Za ?_ _ ⟨(k + 1), rfl, om, H98, rfl⟩ om
  exact zs
 refine zxb <| ztn <| zsl <| zwN 57 A1 (H65.at 5 rfl) <| zy <| Z1S A1 H65 2 fun w102 H103 => ?_
 refine kk <| znt <| Zk <| Z5v rfl (Z02 (vs := A1) rfl kr kr kn (H103.at 2 rfl) kr) ?_
 have hkO : O.take k = O := List.take_of_length_le om
 rw [hiG, hkO] at H103
 exact ⟨b10, b14, rfl, H103.fn [3, 4], H103.upd 0 rfl [] ne, H103.freshS 0 rfl (fun _ h => h) [3, 4] rfl rfl⟩
abbrev Z8a (p0 : OpR) : List Value := ([i6 p0.i, (.slice p0.pa p0.P.length p0.pc)] : LV) ++ hc p0.h
abbrev Zd5 (p0 : Int) (p1 : Int) (p2 : Int) (p3 : Int) (p4 : Value) (p5 : Nat) : List Value := ([i6 p0, i6 p1, i6 p2, u6 p3, p4, (.map (some p5))] : LV)
abbrev Z69 (p0 : Z3x) : List Value := ([i6 p0.cl, i6 p0.sq] : LV) ++ hc p0.h ++ ([u6 p0.t] : LV)
abbrev ZdR : List Value := ([i6 0, i6 0] : LV) ++ hc Zz ++ ([u6 0] : LV)
def Z28 (M : List (Int × Z3x)) (o : OpR) : Bool := (Zv M o.i).isSome && decide ((o.P.length : Int) ≤ 256) && decide (((Zv M o.i).getD Z1t).h = Z0E (ofT ((Zv M o.i).getD Z1t).cl ((Zv M o.i).getD Z1t).sq o.h o.P))
def OpenOk (M : List (Int × Z3x)) : Prop := ∀ i, ((Zv M i).getD Z1t).cl ≤ 1000000 ∧ ((Zv M i).getD Z1t).sq ≤ 1000000
theorem Z6J (w : World) (F c E last : Int) (vm : Value) (mo : Nat) (M : List (Int × Z3x)) (hmo : MapAt w mo (Value.int .i64) Z9i M) (hM : OpenOk M) (o : OpR) (ho : ListAt Zx 1 w (.slice o.pa o.P.length o.pc) o.P) (hlo : o.P.length ≤ 1000) :
  Calls Tryz.prog 49 #[(.agg ⟨([i6 F, i6 c, i6 E, u6 last, (vm), (.map (some mo))] : LV)⟩), (.agg ⟨(([i6 o.i, (.slice o.pa o.P.length o.pc)] : LV) ++ hc o.h)⟩)] w fun e w' => e = .returned (.bool (Z28 M o)) ∧ Upd [] w w' := by
 have H := Sat.start0 w
 refine Zg Tryz.func49 rfl 30 rfl kn ?_
 refine zsl <| zy <| zdb (Zd5 F c E last vm mo) H fun b2 w3 H4 => ?_
 refine kk <| zy <| zdb (Z8a o) H4 fun b6 w7 H8 => ?_
 refine kk <| wv 4 (.bool false) <| Z1a <| wv 8 (pt b2 5) <| zw1 9 (.map (some mo)) (H8.cell 1 rfl rfl) <| wv 10 (pt b6 0) <| zw1 11 (vi o.i) (H8.cell 2 rfl kr) <| wv 12 (.tuple #[(.agg ⟨(Z69 ((Zv M o.i).getD Z1t))⟩), (.bool ((Zv M o.i).isSome))]) ?_ (hr := Z8J (kt := 3) (et := 63) (KeyTy.int kr) kr Zed rfl o.i rfl (H8.roMap 0 rfl hmo (fun h => h)) (ZdQ Z9i _ _) rfl)
 refine wv 7 (.tuple #[(.agg ⟨(Z69 ((Zv M o.i).getD Z1t))⟩), (.bool ((Zv M o.i).isSome))]) <| wv 13 (.agg ⟨(Z69 ((Zv M o.i).getD Z1t))⟩) <| wv 14 (.bool ((Zv M o.i).isSome)) <| zy <| zda (ZdR) H8 fun b10 w11 H12 => ?_
 refine kk <| zy <| Z1S (Z69 ((Zv M o.i).getD Z1t)) H12 3 fun w14 H15 => ?_
 refine kk <| wv 6 (.bool ((Zv M o.i).isSome)) <| Z1a <| wv 15 (.bool ((Zv M o.i).isSome)) <| wv 16 (.bool ((Zv M o.i).isSome)) ?_
 refine (ZY ((Zv M o.i).isSome)).elim (fun b17 => ?_) (fun b17 => ?_)
 ·refine Z1Q 16 (.bool true) (congrArg Value.bool b17) ?_
  refine wy 1 16 true 17 (pt b6 1) <| wy 1 16 true 18 (.slice o.pa o.P.length o.pc) ?_ (hr := zl1 (H15.cell 2 rfl kr))
  refine wy 1 16 true 19 (vi o.P.length) <| wy 1 16 true 20 (.bool (decide ((o.P.length : Int) ≤ 256))) <| wv 21 (.bool (decide ((o.P.length : Int) ≤ 256))) <| wv 22 (.bool (decide ((o.P.length : Int) ≤ 256))) ?_
  refine zil 22 (fun b18 g19 => ?_) fun b18 g25 => ?_
  ·refine wy 7 22 true 23 (pt b10 2) <| wy 7 22 true 24 (.agg ⟨(hc ((Zv M o.i).getD Z1t).h)⟩) ?_ (hr := zlN (vs := (hc ((Zv M o.i).getD Z1t).h)) (H15.at 3 rfl))
   refine wy 7 22 true 25 (pt b10 0) <| wy 7 22 true 26 (.agg ⟨([(vi (((Zv M o.i).getD Z1t).cl)), (vi (((Zv M o.i).getD Z1t).sq))] : LV)⟩) ?_ (hr := zlN (vs := ([(vi (((Zv M o.i).getD Z1t).cl)), (vi (((Zv M o.i).getD Z1t).sq))] : LV)) (H15.at 3 rfl))
   refine wy 7 22 true 27 (.agg ⟨(Z8a o)⟩) ?_ (hr := zlN (vs := (Z8a o)) (H15.at 2 rfl))
   refine Z6R (Z05 7 22 true rfl kr rfl kr) (fun Kq kq => ?_)
   refine zdq 28 (Z8n w14 ((Zv M o.i).getD Z1t).h o.i ((Zv M o.i).getD Z1t).cl ((Zv M o.i).getD Z1t).sq o.h o.pa o.pc o.P (ListAt.now H15 0 rfl ho) (by have q := hM o.i; omega) (by have q := hM o.i; omega) hlo) H15 ?_
   intro w22 H23
   refine kq _ _ <| wv 29 (.bool (decide (((Zv M o.i).getD Z1t).h = Z0E (ofT ((Zv M o.i).getD Z1t).cl ((Zv M o.i).getD Z1t).sq o.h o.P)))) <| wv 4 (.bool (decide (((Zv M o.i).getD Z1t).h = Z0E (ofT ((Zv M o.i).getD Z1t).cl ((Zv M o.i).getD Z1t).sq o.h o.P)))) <| znt <| Zk <| ze1 (.bool (decide (((Zv M o.i).getD Z1t).h = Z0E (ofT ((Zv M o.i).getD Z1t).cl ((Zv M o.i).getD Z1t).sq o.h o.P)))) ?_
   exact ⟨by unfold Z28; simp [b17, b18], H23.upd 0 rfl [] ne⟩
  iterate 6 refine wn 7 22 true ?_
  refine wv 29 (.bool false) <| wv 4 (.bool false) <| znt <| Zk <| ze1 (.bool false) ?_
  exact ⟨by unfold Z28; simp [b17, b18], H15.upd 0 rfl [] ne⟩
 refine Z1Q 16 (.bool false) (congrArg Value.bool b17) ?_
 iterate 4 refine wn 1 16 true ?_
 refine wv 21 (.bool false) <| wv 22 (.bool false) ?_
 iterate 6 refine wn 7 22 true ?_
 refine wv 29 (.bool false) <| wv 4 (.bool false) <| znt <| Zk <| ze1 (.bool false) ?_
 exact ⟨by unfold Z28; simp [b17], H15.upd 0 rfl [] ne⟩
section
variable {α : Type} {num : α → Int} {may : α → Bool} {L D E : List α} {x y : α} {i : Nat}
def Z7i (num : α → Int) (D : List α) (n : Int) : Bool := D.any fun o => decide (num o = n)
def Z5z (num : α → Int) (may : α → Bool) (D : List α) (x : α) : List α := if (!Z7i num D (num x) && may x) = true then D ++ [x] else D
def Z2f (num : α → Int) (may : α → Bool) (L : List α) : List α := L.foldl (Z5z num may) []
theorem Z9Q (h : L[i]? = some x) : Z2f num may (L.take (i + 1)) = Z5z num may (Z2f num may (L.take i)) x := by
 unfold Z2f
 rw [List.take_add_one, h, Option.toList_some, List.foldl_append]; rfl
theorem Zbw (h1 : Z7i num D (num x) = false) (h2 : may x = true) : Z5z num may D x = D ++ [x] := by
 unfold Z5z; rw [h1, h2]; rfl
theorem Zcx : (Z5z num may D x).length ≤ D.length + 1 := by
 unfold Z5z; split <;> simp
theorem Zdn (n : Int) : Z7i num (D ++ [x]) n = (Z7i num D n || decide (num x = n)) := by simp [Z7i]
theorem Z65 {n : Int} : Z7i num D n = true ↔ ∃ o ∈ D, num o = n := by simp [Z7i]
theorem Zb7 (h : x ∈ Z2f num may L) : x ∈ L ∧ may x = true := by
 have key : ∀ (L D : List α), x ∈ L.foldl (Z5z num may) D → x ∈ D ∨ (x ∈ L ∧ may x = true) := by
  intro L
  induction L with
  | nil => intro D h; exact .inl h
  | cons y L ih =>
   intro D h
   rw [List.foldl_cons] at h
   rcases ih _ h with q | ⟨q, r⟩
   ·unfold Z5z at q
    split at q
    ·rename_i hc
     rcases List.mem_append.1 q with q | q
     ·exact .inl q
     ·rw [List.mem_singleton.1 q] at *
      rw [Bool.and_eq_true] at hc
      exact .inr ⟨by simp, hc.2⟩
    ·exact .inl q
   ·exact .inr ⟨List.mem_cons_of_mem _ q, r⟩
 rcases key L [] h with q | q
 ·simp at q
 ·exact q
theorem Z5D : (Z2f num may L).Pairwise fun a b => num a ≠ num b := by
 have key : ∀ (L D : List α), (D.Pairwise fun a b => num a ≠ num b) → (L.foldl (Z5z num may) D).Pairwise fun a b => num a ≠ num b := by
  intro L
  induction L with
  | nil => intro D h; exact h
  | cons y L ih =>
   intro D h
   rw [List.foldl_cons]
   refine ih _ ?_
   unfold Z5z
   split
   ·rename_i hc
    rw [Bool.and_eq_true, Bool.not_eq_true'] at hc
    rw [List.pairwise_append]
    refine ⟨h, List.pairwise_singleton _ _, fun a ha b hb => ?_⟩
    rw [List.mem_singleton.1 hb]
    intro e
    have := Z65 (num := num) (D := D) (n := num y) |>.2 ⟨a, ha, e⟩
    rw [this] at hc; exact absurd hc.1 (by decide)
   ·exact h
 exact key L [] List.Pairwise.nil
theorem Z9Z (n : Int) : (Z2f num may L).find? (fun y => decide (num y = n)) = L.find? fun y => decide (num y = n) && may y := by
 have key : ∀ (L D : List α), (L.foldl (Z5z num may) D).find? (fun y => decide (num y = n)) = (D.find? fun y => decide (num y = n)).or (L.find? fun y => decide (num y = n) && may y) := by
  intro L
  induction L with
  | nil => intro D; simp
  | cons y L ih =>
   intro D
   rw [List.foldl_cons, ih]
   unfold Z5z
   by_cases hc : (!Z7i num D (num y) && may y) = true
   ·rw [if_pos hc, List.find?_append]
    rw [Bool.and_eq_true, Bool.not_eq_true'] at hc
    by_cases hn : num y = n
    ·rw [List.find?_cons, List.find?_cons, decide_eq_true hn, hc.2]; simp
    ·rw [List.find?_cons, List.find?_cons, decide_eq_false hn]; simp
   ·rw [if_neg hc]
    rw [List.find?_cons]
    by_cases hn : num y = n
    ·by_cases hm : may y = true
     ·have hh : Z7i num D (num y) = true := by
       simp only [hm, Bool.and_true, Bool.not_eq_true', Bool.not_eq_false] at hc; exact hc
      obtain ⟨o, ho, e⟩ := Z65.1 hh
      have : (D.find? fun y => decide (num y = n)).isSome = true := List.find?_isSome.2 ⟨o, ho, by simp [e, hn]⟩
      obtain ⟨z, hz⟩ := Option.isSome_iff_exists.1 this
      rw [hz]; simp
     ·have hm' : may y = false := by simpa using hm
      rw [hm', Bool.and_false]
    ·rw [decide_eq_false hn, Bool.false_and]
 have := key L []
 unfold Z2f
 simpa using this
theorem Zbh : x ∈ Z2f num may L ↔ L.find? (fun y => decide (num y = num x) && may y) = some x := by
 rw [← Z9Z]
 constructor
 ·intro h
  obtain ⟨z, hz⟩ := Option.isSome_iff_exists.1 (List.find?_isSome (p := fun y => decide (num y = num x)) (xs := Z2f num may L) |>.2 ⟨x, h, by simp⟩)
  have h1 := List.mem_of_find?_eq_some hz
  have h2 := List.find?_some hz
  rw [hz]
  rw [decide_eq_true_eq] at h2
  by_cases e : z = x
  ·rw [e]
  ·exfalso
   have hd := Z5D (num := num) (may := may) (L := L)
   obtain ⟨i, hi, ei⟩ := List.mem_iff_getElem.1 h1
   obtain ⟨j, hj, ej⟩ := List.mem_iff_getElem.1 h
   rcases Nat.lt_trichotomy i j with q | q | q
   ·have := List.pairwise_iff_getElem.1 hd i j hi hj q
    rw [ei, ej] at this; exact this h2
   ·subst q; rw [ei] at ej; exact e ej
   ·have := List.pairwise_iff_getElem.1 hd j i hj hi q
    rw [ei, ej] at this; exact this h2.symm
 ·intro h; exact List.mem_of_find?_eq_some h
theorem Z4U : ∀ {D E : List α}, (D.Pairwise fun a b => num a < num b) → (E.Pairwise fun a b => num a < num b) → (∀ x, x ∈ D ↔ x ∈ E) → D = E
 | [], [], _, _, _ => rfl
 | [], y :: E, _, _, h => by have := (h y).2 (by simp); simp at this
 | x :: D, [], _, _, h => by have := (h x).1 (by simp); simp at this
 | x :: D, y :: E, hD, hE, h => by
  have h1 := List.pairwise_cons.1 hD
  have h2 := List.pairwise_cons.1 hE
  have e : x = y := by
   rcases List.mem_cons.1 ((h x).1 (by simp)) with q | q
   ·exact q
   ·rcases List.mem_cons.1 ((h y).2 (by simp)) with r | r
    ·exact r.symm
    ·have a := h2.1 x q
     have b := h1.1 y r
     omega
  subst e
  rw [Z4U h1.2 h2.2 fun z => ?_]
  constructor
  ·intro hz
   rcases List.mem_cons.1 ((h z).1 (List.mem_cons_of_mem _ hz)) with q | q
   ·have := h1.1 z hz; rw [q] at this; omega
   ·exact q
  ·intro hz
   rcases List.mem_cons.1 ((h z).2 (List.mem_cons_of_mem _ hz)) with q | q
   ·have := h2.1 z hz; rw [q] at this; omega
   ·exact q
structure SortN (num : α → Int) (may : α → Bool) (L D : List α) : Prop where
 perm : D.Perm (Z2f num may L)
 up : D.Pairwise fun a b => num a < num b
theorem SortN.of {lt : α → α → Prop} (hp : D.Perm (Z2f num may L)) (hs : D.Pairwise fun a b => ¬ num b < num a) : SortN num may L D := by
 refine ⟨hp, ?_⟩
 have hd : D.Pairwise fun a b => num a ≠ num b := (List.Perm.pairwise_iff (fun h => Ne.symm h) hp).2 Z5D
 exact (hs.and hd).imp fun h => by omega
theorem SortN.mem (h : SortN num may L D) : x ∈ D ↔ L.find? (fun y => decide (num y = num x) && may y) = some x := by
 rw [h.perm.mem_iff, Zbh]
theorem SortN.same {L' D' : List α} (h : SortN num may L D) (h' : SortN num may L' D') (e : ∀ n, L.find? (fun y => decide (num y = n) && may y) = L'.find? fun y => decide (num y = n) && may y) : D = D' :=
 Z4U h.up h'.up fun x => by rw [h.mem, h'.mem, e]
theorem SortN.len (h : SortN num may L D) : D.length ≤ L.length := by
 rw [h.perm.length_eq]
 have key : ∀ n, (Z2f num may (L.take n)).length ≤ (L.take n).length := fun n => by
  induction n with
  | zero => simp [Z2f]
  | succ n ih =>
   rcases Nat.lt_or_ge n L.length with q | q
   ·rw [Z9Q (List.getElem?_eq_getElem q), List.take_add_one, List.getElem?_eq_getElem q]
    have := Zcx (num := num) (may := may) (D := Z2f num may (L.take n)) (x := L[n])
    simp only [Option.toList_some, List.length_append, List.length_cons, List.length_nil]
    omega
   ·rw [List.take_of_length_le (by omega)]; rw [List.take_of_length_le q] at ih; exact ih
 have := key L.length
 rwa [List.take_length] at this
def HvOk (M : List (Int × Bool)) (num : α → Int) (D : List α) : Prop := ∀ n : Int, (Zv M n).getD false = Z7i num D n
theorem HvOk.nil : HvOk [] num ([] : List α) := fun n => by simp [Zv, Z7i]
theorem HvOk.put {M : List (Int × Bool)} (h : HvOk M num D) : HvOk (Z30 M (num x) true) num (D ++ [x]) := fun n => by
 rw [Zdn]
 by_cases e : n = num x
 ·subst e; rw [Z2x, decide_eq_true rfl, Bool.or_true]; rfl
 ·rw [Z2b _ _ _ _ e, h n, decide_eq_false (fun q => e q.symm), Bool.or_false]
end
section
variable {w0 w : World} {L1 L2 R : List Ck}
end
def Zf6 (p : PrR) : Int × Int × Int × Int × Int × List (Zj × List Zb) := (p.r, p.e, p.f, p.sb, p.sm, p.C.map fun c => (c.x, c.S))
section
variable {β γ : Type} {key : β → γ} {A B : List β} {x y : β} {i : Nat}
end
structure PrK (w : World) (p : PrR) : Prop where
 at_ : ListAt Z1o 38 w (.slice p.ca p.C.length p.cc) p.C
 len : p.C.length ≤ 64
 st : ∀ i, i < p.C.length → (stC (p.C.getD i ce0)).ok w
 sl : ∀ i, i < p.C.length → (p.C.getD i ce0).S.length ≤ 1000
structure OpK (w : World) (o : OpR) : Prop where
 ok : (opC o).ok w
 len : o.P.length ≤ 1000
theorem OpK.list {w : World} {o : OpR} (h : OpK w o) : ListAt Zx 1 w (.slice o.pa o.P.length o.pc) o.P := ListAt.row Zw (by decide) h.ok
theorem Z4x {L : List OpR} {i : Nat} (h : i < L.length) : L.getD i op0 ∈ L := by
 rw [List.getD_eq_getElem?_getD, List.getElem?_eq_getElem h]; exact List.getElem_mem h
end Go.Proofs.YtenihpghfdcpkaaGreat
