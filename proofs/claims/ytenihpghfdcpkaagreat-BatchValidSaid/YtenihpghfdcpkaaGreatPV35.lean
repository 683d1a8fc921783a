/- WHAT IS PROVED: contracts and plain laws of TabP, Make10M. Conditions: stated with each. -/
import Derived.Test.YtenihpghfdcpkaaGreatPV02
import Derived.Test.YtenihpghfdcpkaaGreatPV05
import Derived.Test.YtenihpghfdcpkaaGreatPV07
import Derived.Test.YtenihpghfdcpkaaGreatPV19
import Derived.Test.YtenihpghfdcpkaaGreatPV33
set_option maxHeartbeats 4000000
set_option maxRecDepth 100000
namespace Go.Proofs.YtenihpghfdcpkaaGreat
open Go.RowKit
abbrev Zer (p0 : Int) (p1 : Int) (p2 : Int) (p3 : Option Addr) (p4 : Nat) (p5 : Nat) : List Value := ([i6 p0, i6 p1, i6 p2, (.slice p3 p4 p5)] : LV)
abbrev Z7T (p0 : Option Addr) (p1 : List CeR) (p2 : Nat) : Ck := Zo 76 38 (.slice p0 p1.length p2) p1.length (p1.flatMap Z1o)
abbrev Z9A (p0 : Option Addr) (p1 : Nat) (p2 : Nat) : List Value := ([(.slice p0 p1 p2)] : LV)
abbrev Zcv (p0 : Option Addr) (p1 : List Signed) (p2 : Nat) : Ck := Zo 181 2 (.slice p0 p1.length p2) p1.length (p1.flatMap Z47)
abbrev Z9R : List Value := ([i6 0, i6 0, u6 0, (.slice none 0 0), i6 0, i6 0] : LV)
abbrev Zc4 (p0 : Int) (p1 : Int) (p2 : Int) : List Value := ([i6 p0, i6 p1, u6 p2, (.slice none 0 0), i6 0, i6 0] : LV)
abbrev Z9K (p0 : Int) (p1 : Int) (p2 : Int) (p3 : Option Addr) (p4 : Nat) (p5 : Nat) : List Value := ([i6 p0, i6 p1, u6 p2, (.slice p3 p4 p5), i6 0, i6 0] : LV)
abbrev ZeR (p0 : CeR) : List Value := ([i6 p0.x.cl, i6 p0.x.seq] : LV) ++ hc p0.x.h ++ ([i6 p0.x.len, i6 p0.x.sb, i6 p0.x.sm, (.slice p0.sa p0.S.length p0.sc)] : LV)
abbrev ZeQ (p0 : Option Addr) (p1 : List UInt8) (p2 : Nat) : Ck := Zo 5 1 (.slice p0 p1.length p2) p1.length (p1.flatMap Zx)
abbrev Zew (p0 : Int) (p1 : Int) (p2 : Int) (p3 : Option Addr) (p4 : Nat) (p5 : Nat) (p6 : Int) : List Value := ([i6 p0, i6 p1, u6 p2, (.slice p3 p4 p5), i6 p0, i6 p6] : LV)
theorem Z8K (w : World) (t : Nat) (F Cn rp : Int) (la : Option Addr) (lc : Nat) (L : List CeR) (B : List Ck) (r : Nat) (ra : Option Addr) (rc : Nat) (Lb : List Signed) (hA : (Z0h [Z0 t 107 [i6 F, i6 Cn, i6 rp, .slice la (L).length lc], Zo 76 38 (.slice la (L).length lc) (L).length ((L).flatMap Z1o), Z0G B, Z0 r 165 [.slice ra (Lb).length rc], Zo 181 2 (.slice ra (Lb).length rc) (Lb).length ((Lb).flatMap Z47)]).ok w) (hlL : L.length ≤ 64) (hcT : ∀ c ∈ L, CeT B c) (hrp : 0 ≤ rp ∧ rp ≤ 1000000) (hnb : Lb.Nodup) (hlb : Lb.length ≤ 100000) (ep last tm : Int) (hep : 0 ≤ ep ∧ ep ≤ 1048576) (htm : 0 ≤ last ∧ last < tm ∧ tm < 18446744073709551615) :
  Calls Tryz.prog 37 #[zp t, zp r, i6 ep, u6 last, u6 tm] w fun e w' => ∃ ca cc ra' rc', e = .returned (.tuple #[.agg ⟨Z0T ⟨rp, ep, tm, ca, cc, rp, Zr (Zy Lb (⟨rp, Z11 (⟨rp, ep, tm, ca, cc, 0, 0, (Z2C L last tm)⟩ : PrR)⟩ : Signed)) (⟨rp, Z11 (⟨rp, ep, tm, ca, cc, 0, 0, (Z2C L last tm)⟩ : PrR)⟩ : Signed), (Z2C L last tm)⟩⟩, i6 0]) ∧ Sat w [Z0 t 107 [i6 F, i6 Cn, i6 rp, .slice la (L).length lc], Zo 76 38 (.slice la (L).length lc) (L).length ((L).flatMap Z1o), Z0G B, Z0 r 165 [.slice ra' (Zy Lb (⟨rp, Z11 (⟨rp, ep, tm, ca, cc, 0, 0, (Z2C L last tm)⟩ : PrR)⟩ : Signed)).length rc'], Zo 181 2 (.slice ra' (Zy Lb (⟨rp, Z11 (⟨rp, ep, tm, ca, cc, 0, 0, (Z2C L last tm)⟩ : PrR)⟩ : Signed)).length rc') (Zy Lb (⟨rp, Z11 (⟨rp, ep, tm, ca, cc, 0, 0, (Z2C L last tm)⟩ : PrR)⟩ : Signed)).length ((Zy Lb (⟨rp, Z11 (⟨rp, ep, tm, ca, cc, 0, 0, (Z2C L last tm)⟩ : PrR)⟩ : Signed)).flatMap Z47), Zo 76 38 (.slice ca (Z2C L last tm).length cc) (Z2C L last tm).length ((Z2C L last tm).flatMap Z1o), ZQ w (Z0h [Z0 t 107 [i6 F, i6 Cn, i6 rp, .slice la (L).length lc], Zo 76 38 (.slice la (L).length lc) (L).length ((L).flatMap Z1o), Z0G B, Z0 r 165 [.slice ra (Lb).length rc], Zo 181 2 (.slice ra (Lb).length rc) (Lb).length ((Lb).flatMap Z47)]).fp] w' := by
 have H := Sat.start0 w
 have H := Sat.start _ hA
 refine Zg Tryz.func37 rfl 84 rfl kn ?_
 refine zsl <| zy <| zda (Z9R) H fun b2 w3 H4 => ?_
 refine kk <| wv 11 (vi 0) <| znt <| Z9 <| zsl <| wv 15 (vi ep) <| wv 16 (.bool (decide (ep < 0))) <| wv 17 (.bool (decide (ep < 0))) ?_
 have b5 : (decide (ep < 0)) = false := by exact decide_eq_false om
 refine Z1Q 17 (.bool false) (congrArg Value.bool b5) ?_
 have g6 := of_decide_eq_false b5
 refine wy 2 17 false 18 (vi ep) <| wy 2 17 false 19 (.bool (decide (ep > 1048576))) <| wv 20 (.bool (decide (ep > 1048576))) <| znt ?_
 have b7 : (decide (ep > 1048576)) = false := by exact decide_eq_false om
 have g8 := of_decide_eq_false b7
 refine Z3L _ b7 ?_
 refine Zp <| ztn <| Z9 <| zsl <| wv 22 (vu tm) <| wv 23 (vu last) <| wv 24 (.bool (decide (tm ≤ last))) <| wv 25 (.bool (decide (tm ≤ last))) ?_
 have b9 : (decide (tm ≤ last)) = false := by exact decide_eq_false om
 refine Z1Q 25 (.bool false) (congrArg Value.bool b9) ?_
 have g10 := of_decide_eq_false b9
 let Ac : Value := .bool (decide (tm = 18446744073709551615))
 refine wy 3 25 false 26 (vu tm) <| wy 3 25 false 27 Ac <| wv 28 Ac <| znt ?_
 have b11 : (decide (tm = 18446744073709551615)) = false := by exact decide_eq_false om
 have g12 := of_decide_eq_false b11
 refine Z3L _ b11 ?_
 refine Zp <| ztn <| zsl <| wv 30 (pt t 0) <| wv 31 (pt t 0) <| wv 32 (pt t 2) <| zw1 33 (vi rp) (H4.cell 0 rfl rfl) <| wv 34 (vi ep) <| wv 35 (vu tm) <| wv 36 (.agg ⟨(Zc4 rp ep tm)⟩) ?_
 refine zy <| zda (Z9R) H4 fun b14 w15 H16 => ?_
 refine kk <| zy <| Z1S (Zc4 rp ep tm) H16 7 fun w18 H19 => ?_
 let Ad : Value := .slice la L.length lc
 refine kk <| znt <| Z9 <| zsl <| wv 37 (pt t 0) <| wv 38 (pt t 0) <| wv 39 (pt t 3) <| zw1 40 Ad (H19.cell 0 rfl rfl) <| wv 41 (vi L.length) <| wv 42 (vi 0) ?_
 refine znt <| Zh ?_
 have H21 := H19.addNil 76 38
 let A6 := Z7T la L lc
 let Ab := Zcv ra Lb rc
 let A1 := ZQ w (Z0h [Z0 t 107 [i6 F, i6 Cn, i6 rp, .slice la (L).length lc], A6, Z0G B, Z0 r 165 [.slice ra (Lb).length rc], Ab]).fp
 let A4 := Z0 t 107 (Zer F Cn rp la L.length lc)
 let A7 := Z0 b2 71 (Z9R)
 let A8 := Z0 r 165 (Z9A ra Lb.length rc)
 refine ZB ([13, 14] ++ List.range' 42 32) (fun F_ W_ m_ => ∃ (i : Nat) (ca : Option Addr) (cc : Nat) (D : List CeR), F_ 42 = (vi i) ∧ (i ≤ L.length) ∧ (D = Z2C (L.take i) last tm) ∧ Sat w [A4, A6, Z0G B, A8, Ab, A1, A7, Z0 b14 71 (Z9K rp ep tm ca D.length cc), (Z7T ca D cc)] W_ ∧ m_ = L.length - i) _ ⟨0, none, 0, [], (show ((vi 0) : Value) = _ by first | rfl | go_num), (Nat.zero_le _), rfl, H21, rfl⟩ ?_
 rintro g22 w23 _ ⟨i, ca, cc, D, v25, hi, hD, H24, rfl⟩
 refine Zn 42 _ v25 ?_
 have hDl : D.length ≤ 64 := by rw [hD]; have q := Zah (L := L.take i) (last := last) (tm := tm); rw [List.length_take] at q; omega
 refine zsl <| wv 43 (.bool (decide ((i : Int) < L.length))) <| znt <| Z9 ?_
 let A5 := Z9K rp ep tm ca D.length cc
 refine zid (fun b27 g28 => ?_) fun b27 g72 => ?_
 ·refine Zp <| ztn <| Z9 <| Zh <| zsl <| wv 44 (vi i) <| wv 13 (vi i) <| Z1a <| wv 45 (pt t 0) <| wv 46 (pt t 0) ?_
  refine wv 47 (pt t 3) <| zw1 48 Ad (H24.cell 0 rfl rfl) <| wv 49 (vi i) ?_
  obtain ⟨g30, c31, e32⟩ := Z1A (H24.at 1 rfl) om
  obtain ⟨x33, h34⟩ := Z2P (show i < L.length by omega)
  let Aa : Value := .pointer (some ⟨g30, 0 + ((i : Int)).toNat * 38, none⟩)
  refine wv 50 Aa ?_ (hr := Z1e (E := 76) kr kr kn rfl e32 rfl om om)
  let A9 := ZeR x33
  refine wv 51 (.agg ⟨A9⟩) ?_ (hr := ZX (vs := A9) rfl kr kr kn (Z40 (H24.at 1 rfl) e32 Z13 h34 0 (show 0 + ((i : Int)).toNat * 38 = i * 38 + 0 by omega) kr kr))
  refine zy <| zdq 52 (Z2T w23 x33.x x33.sa x33.sc x33.S (Z5O (c := x33) (H24.at 2 rfl) (hcT _ (List.mem_of_getElem? h34)).bag) (hcT _ (List.mem_of_getElem? h34)).len) H24 fun w36 H37 => ?_
  let Ae : Value := .bool (decide ((ZZ x33.S) > last))
  refine kk <| wv 14 (vu (ZZ x33.S)) <| Z1a <| wv 53 (vu (ZZ x33.S)) <| wv 54 (vu last) <| wv 55 Ae <| wv 56 Ae ?_
  let Ag : Value := vi ((i : Int) + 1)
  refine zil 56 (fun b39 g40 => ?_) fun b39 g70 => ?_
  ·let Af : Value := .bool (decide ((ZZ x33.S) ≤ tm))
   refine wy 3 56 true 57 (vu (ZZ x33.S)) <| wy 3 56 true 58 (vu tm) <| wy 3 56 true 59 Af <| wv 60 Af <| znt ?_
   refine zid (fun b42 g43 => ?_) fun b42 g68 => ?_
   ·refine Z0Z H37 [A4, A6, Z0G B, A8, Ab, A1, A7, Z0 b14 71 A5] [12] 13 rfl kr (fun Hx => (Hx.pk [0, 1, 2, 3, 4, 5, 6, 7])) ?_
    intro w45 H46 S47
    refine zkp 0 S47 61 (pt b14 3) <| zkv 1 S47 62 (.slice ca D.length cc) ?_ (he := fun _ H' => (zl1 (H'.cell 7 rfl rfl)))
    refine zkp 2 S47 63 (pt t 0) <| zkp 3 S47 64 (pt t 0) <| zkp 4 S47 65 (pt t 3) <| zkv 5 S47 66 Ad ?_ (he := fun _ H' => (zl1 (H'.cell 0 rfl rfl)))
    refine zkp 6 S47 67 (vi i) <| Z2s 7 rfl kr kr kr (fun _ _ _ h => h) S47 (Zc rfl) rfl (d := 68) (v := Aa) rfl (fun _ => (Z1e (E := 76) kr kr kn rfl e32 rfl om om)) ?_
    refine zkv 8 S47 69 (.agg ⟨A9⟩) ?_ (he := fun _ H' => (ZX (vs := A9) rfl kr kr kn (Z40 (H'.at 1 rfl) e32 Z13 h34 0 (show 0 + ((i : Int)).toNat * 38 = i * 38 + 0 by omega) kr kr)))
    refine zky 9 ?_
    refine Z2z 76 38 96 (.agg ⟨(([(vi 0), (vi 0)] : LV) ++ hc Zz ++ ([(vi 0), (vi 0), (vi 0), (.slice none 0 0)] : LV))⟩) [(0, (.agg ⟨A9⟩))] A9 H46 ?_
    intro b49 w50 H51
    have H52 := H51.ct 9 rfl (Zo 76 38 (.slice (some ⟨b49, 0, none⟩) 1 1) 1 ([x33].flatMap Z1o)) (by rw [(show (A9 : LV) = [x33].flatMap Z1o by kernel_rfl)])
    have S53 := H52.pk [0, 1, 2, 3, 4, 5, 6, 7]
    refine ke S53 <| zky 10 ?_
    refine Z0t (T := 67) (e := 76) (size := 38) (bytes := 96) rfl H52 kr 8 9 rfl rfl rfl rfl (Z0q Z1o Z6N [x33]) om om ?_
    intro v55 w56 H57
    have H60 := H57.ct 8 rfl (Zo 76 38 v55 ((D ++ [x33]).length) ((D ++ [x33]).flatMap Z1o)) ja
    obtain ⟨a58, c59, rfl⟩ := Z3 (H60.at 8 rfl)
    have S61 := H60.pk [0, 1, 2, 3, 4, 5, 6, 7]
    refine ke S61 <| zkp 11 S61 72 (pt b14 3) <| Z2B 12 (Sat w [A4, A6, Z0G B, A8, Ab, A1, A7]) rfl kr (Zc rfl) rfl (fun Kq kq => ?_)
    refine zds (Z9A a58 ((D ++ [x33]).length) c59) (Z9K rp ep tm a58 ((D ++ [x33]).length) c59) H60 7 ?_
    intro w63 H64
    have S66 := H64.pk [0, 1, 2, 3, 4, 5, 6]
    refine kq _ _ S66 <| zhf <| Z6 <| ztn <| ZG <| zwi 73 ((i : Int) + 1) <| wv 42 Ag <| ZL ?_
    have H67 := H64.pk [0, 1, 2, 3, 4, 5, 6, 7, 8]
    refine Za ?_ _ ⟨(i + 1), a58, c59, (D ++ [x33]), rfl, om, (Zdz hD h34 b39 b42), H67, rfl⟩ om
    exact zs
   refine Zp <| Z6 <| ztn <| ZG <| zwi 73 ((i : Int) + 1) <| wv 42 Ag <| ZL <| Za ?_ _ ⟨(i + 1), ca, cc, D, rfl, om, (ZdI hD h34 b42), H37, rfl⟩ om
   exact zs
  iterate 3 refine wn 3 56 true ?_
  refine wv 60 (.bool false) <| znt <| Z2h rfl ?_
  refine Zp <| Z6 <| ztn <| ZG <| zwi 73 ((i : Int) + 1) <| wv 42 Ag <| ZL <| Za ?_ _ ⟨(i + 1), ca, cc, D, rfl, om, (Zdq hD h34 b39), H37, rfl⟩ om
  exact zs
 refine zxb <| ztn <| Z9 ?_
 have hDf : D = Z2C L last tm := by rw [hD, List.take_of_length_le om]
 refine Z0Z H24 [A4, A6, Z0G B, A1, A7, Z0 b14 71 A5, (Z7T ca D cc)] [9] 10 rfl kr (fun Hx => (Hx.pk [0, 1, 2, 5, 6, 7, 8])) ?_
 intro w74 H75 S76
 refine zkp 0 S76 74 (pt r 0) <| zkp 1 S76 75 (pt t 0) <| zkp 2 S76 76 (pt t 0) <| zkp 3 S76 77 (pt t 2) <| zkv 4 S76 78 (vi rp) ?_ (he := fun _ H' => (zl1 (H'.cell 0 rfl rfl)))
 refine zkv 5 S76 79 (.agg ⟨A5⟩) ?_ (he := fun _ H' => (zlN (vs := A5) (H'.at 5 rfl)))
 refine zky 6 ?_
 let A2 := (⟨rp, ep, tm, ca, cc, 0, 0, D⟩ : PrR)
 refine zdc 80 (Z2Y w74 A2 (ListAt.row Z13 (by decide) (H75.at 8 rfl)) (fun i hi => (hcT _ (Z59 (L := L) (last := last) (tm := tm) (by rw [← hDf]; exact Z23 hi))).cb (H75.at 2 rfl)) hDl ⟨by show rp ≤ _; omega, by show ep ≤ _; omega, by show 0 ≤ tm; omega, by show tm < _; omega⟩) ?_
 rintro _ w78 ⟨u79, rfl, k80, p81, q82⟩
 have H83 := H75.addU p81 k80 q82
 obtain ⟨a84, c85, rfl⟩ := Z3 (H83.at 9 rfl)
 refine ⟨_, rfl, ?_⟩
 have hpl := Z8D (p := A2) (fun c hm => Nat.le_trans (hcT _ (Z59 (L := L) (last := last) (tm := tm) (by rw [← hDf]; exact hm))).len (by decide)) hDl
 have S86 := H83.pk [0, 1, 2, 5, 6, 7, 8]
 refine ke S86 <| zky 7 ?_
 refine zdc 81 (Z2F w78 r ra rc Lb (.slice a84 ((Z11 A2).length) c85) (Z11 A2) (H83.fn [3, 4, 9]) om hnb rp) ?_
 rintro _ w88 ⟨a90, c91, rfl, T89⟩
 let A0 := (⟨rp, (Z11 A2)⟩ : Signed)
 have H92 := H83.tl [Z0 r 165 (Z9A a90 ((Zy Lb A0).length) c91), (Zcv a90 (Zy Lb A0) c91), (ZeQ a84 (Z11 A2) c85)] [3, 4, 9] [0, 1, 2, 5, 6, 7, 8] T89 [3, 4, 5, 0, 1, 6, 7, 8, 9, 2]
 refine ⟨_, rfl, ?_⟩
 have S93 := H92.pk [0, 1, 2, 5, 6, 7, 8]
 refine ke S93 <| zkp 8 S93 82 (pt b14 4) <| Z2B 9 (Sat w [A4, A6, Z0G B, A1, A7, (Z7T ca D cc)]) rfl kr (Zc rfl) rfl (fun Kq kq => ?_)
 let A3 := Zew rp ep tm ca D.length cc (Zr (Zy Lb A0) A0)
 refine zds ([(vi rp), (vi (Zr (Zy Lb A0) A0))] : LV) A3 H92 7 ?_
 intro w95 H96
 have S98 := H96.pk [0, 1, 2, 5, 6, 8]
 refine kq _ _ S98 <| zhf <| ztn <| zsl <| zwN 83 A3 (H96.at 7 rfl) <| zy <| Z1S A3 H96 6 fun w100 H101 => ?_
 refine kk <| wv 11 (vi 0) <| znt <| Zk <| Z8l rfl (Z02 (vs := A3) rfl kr kr kn (H101.at 6 rfl) kr) (Z0S (v := (vi 0)) rfl) ?_
 subst hDf
 exact ⟨ca, cc, a90, c91, rfl, H101.pk [0, 1, 2, 3, 4, 8, 5]⟩
def isR (x : Zj) (r : Int) (s : Zb) : Bool := decide (s.r = r) && Z2y s x
def Z4u (x : Zj) (L : List Zb) (r : Nat) : Option Zb := L.find? (isR x r)
def Z6o (x : Zj) (L : List Zb) (n : Nat) : List Zb := (List.range n).filterMap (Z4u x L)
theorem Z3f {x : Zj} {L : List Zb} {r : Nat} {s : Zb} (h : Z4u x L r = some s) : s.r = r ∧ Z2y s x = true ∧ s ∈ L := by
 have h1 := List.find?_some h
 have h2 := List.mem_of_find?_eq_some h
 simp only [isR, Bool.and_eq_true, decide_eq_true_eq] at h1
 exact ⟨h1.1, h1.2, h2⟩
theorem Z8d {x : Zj} {L : List Zb} {n : Nat} {s : Zb} : s ∈ Z6o x L n ↔ (0 ≤ s.r ∧ s.r < n) ∧ Z4u x L s.r.toNat = some s := by
 unfold Z6o
 rw [List.mem_filterMap]
 constructor
 ·rintro ⟨r, hr, hf⟩
  have := List.mem_range.1 hr
  obtain ⟨e, _, _⟩ := Z3f hf
  exact ⟨by omega, by rw [show s.r.toNat = r by omega]; exact hf⟩
 ·rintro ⟨hb, hf⟩
  exact ⟨s.r.toNat, List.mem_range.2 (by omega), hf⟩
theorem Z9h (x : Zj) (L : List Zb) (n : Nat) : Z6o x L (n + 1) = Z6o x L n ++ (Z4u x L n).toList := by
 unfold Z6o
 rw [List.range_succ, List.filterMap_append]
 congr 1
theorem Z9z (x : Zj) (L : List Zb) (n : Nat) : (Z6o x L n).Pairwise fun a b => a.r < b.r := by
 induction n with
 | zero => simp [Z6o]
 | succ n ih =>
  rw [Z9h]
  refine List.pairwise_append.2 ⟨ih, ?_, fun a ha b hb => ?_⟩
  ·cases Z4u x L n <;> simp
  ·have h1 := (Z8d.1 ha).1
   cases hf : Z4u x L n with
   | none => rw [hf] at hb; simp at hb
   | some t =>
    rw [hf] at hb
    obtain rfl : b = t := by simpa using hb
    obtain ⟨e, _, _⟩ := Z3f hf
    omega
end Go.Proofs.YtenihpghfdcpkaaGreat
