/- WHAT IS PROVED: contracts and plain laws of TabP, Make10M. Conditions: stated with each. -/
import Derived.Test.YtenihpghfdcpkaaGreatPA05
import Derived.Test.YtenihpghfdcpkaaGreatPA10
import Derived.Test.YtenihpghfdcpkaaGreatPA31
import Derived.Test.YtenihpghfdcpkaaGreatPA32
set_option maxHeartbeats 4000000
set_option maxRecDepth 100000
namespace Go.Proofs.YtenihpghfdcpkaaGreat
open Go.RowKit
abbrev Z6N (p0 : Int) (p1 : Int) (p2 : Int) (p3 : Option Addr) (p4 : Nat) (p5 : Nat) : List Value := ([(.int .i64 p0), (.int .i64 p1), (.int .i64 p2), (.slice p3 p4 p5)] : List Value)
abbrev Z2E (p0 : Option Addr) (p1 : List CeR) (p2 : Nat) : Ck := Zc 76 38 (.slice p0 p1.length p2) p1.length (p1.flatMap Z0V)
abbrev Z6D (p0 : Option Addr) (p1 : Nat) (p2 : Nat) : List Value := ([(.slice p0 p1 p2)] : List Value)
abbrev Z43 (p0 : Option Addr) (p1 : List Signed) (p2 : Nat) : Ck := Zc 181 2 (.slice p0 p1.length p2) p1.length (p1.flatMap Z4W)
abbrev Z5f : List Value := ([(.int .i64 (0)), (.int .i64 (0)), (.int .u64 (0)), (.slice none 0 0), (.int .i64 (0)), (.int .i64 (0))] : List Value)
abbrev ZdB (p0 : Int) (p1 : Int) (p2 : Int) : List Value := ([(.int .i64 p0), (.int .i64 p1), (.int .u64 p2), (.slice none 0 0), (.int .i64 (0)), (.int .i64 (0))] : List Value)
abbrev Z60 (p0 : Int) (p1 : Int) (p2 : Int) (p3 : Option Addr) (p4 : Nat) (p5 : Nat) : List Value := ([(.int .i64 p0), (.int .i64 p1), (.int .u64 p2), (.slice p3 p4 p5), (.int .i64 (0)), (.int .i64 (0))] : List Value)
abbrev Z5d (p0 : CeR) : List Value := ([(.int .i64 p0.x.cl), (.int .i64 p0.x.seq)] : List Value) ++ hc p0.x.h ++ ([(.int .i64 p0.x.len), (.int .i64 p0.x.sb), (.int .i64 p0.x.sm), (.slice p0.sa p0.S.length p0.sc)] : List Value)
abbrev Zfi (p0 : Option Addr) (p1 : List UInt8) (p2 : Nat) : Ck := Zc 5 1 (.slice p0 p1.length p2) p1.length (p1.flatMap Zy)
abbrev Z8h (p0 : Int) (p1 : Int) (p2 : Int) (p3 : Option Addr) (p4 : Nat) (p5 : Nat) (p6 : Int) : List Value := ([(.int .i64 p0), (.int .i64 p1), (.int .u64 p2), (.slice p3 p4 p5), (.int .i64 p0), (.int .i64 p6)] : List Value)
theorem Z8J (w : World) (t : Nat) (F Cn rp : Int) (la : Option Addr) (lc : Nat) (L : List CeR) (B : List Ck) (r : Nat) (ra : Option Addr) (rc : Nat) (Lb : List Signed) (hA : (ZR [Z0 t 107 [.int .i64 F, .int .i64 Cn, .int .i64 rp, .slice la (L).length lc], Zc 76 38 (.slice la (L).length lc) (L).length ((L).flatMap Z0V), Z0b B, Z0 r 165 [.slice ra (Lb).length rc], Zc 181 2 (.slice ra (Lb).length rc) (Lb).length ((Lb).flatMap Z4W)]).ok w) (hlL : L.length ≤ 64) (hcT : ∀ c ∈ L, CeT B c) (hrp : 0 ≤ rp ∧ rp ≤ 1000000) (hnb : Lb.Nodup) (hlb : Lb.length ≤ 100000) (ep last tm : Int) (hep : 0 ≤ ep ∧ ep ≤ 1048576) (htm : 0 ≤ last ∧ last < tm ∧ tm < 18446744073709551615) :
  Calls Tryz.prog 37 #[(.pointer (some ⟨t, 0, none⟩)), (.pointer (some ⟨r, 0, none⟩)), (.int .i64 (ep)), (.int .u64 (last)), (.int .u64 (tm))] w fun e w' => ∃ ca cc ra' rc', e = .returned (.tuple #[.agg ⟨Z0p ⟨rp, ep, tm, ca, cc, rp, Ze (Zg Lb (⟨rp, Z0R (⟨rp, ep, tm, ca, cc, 0, 0, (Z2z L last tm)⟩ : PrR)⟩ : Signed)) (⟨rp, Z0R (⟨rp, ep, tm, ca, cc, 0, 0, (Z2z L last tm)⟩ : PrR)⟩ : Signed), (Z2z L last tm)⟩⟩, (.int .i64 (0))]) ∧ Sat w [Z0 t 107 [.int .i64 F, .int .i64 Cn, .int .i64 rp, .slice la (L).length lc], Zc 76 38 (.slice la (L).length lc) (L).length ((L).flatMap Z0V), Z0b B, Z0 r 165 [.slice ra' (Zg Lb (⟨rp, Z0R (⟨rp, ep, tm, ca, cc, 0, 0, (Z2z L last tm)⟩ : PrR)⟩ : Signed)).length rc'], Zc 181 2 (.slice ra' (Zg Lb (⟨rp, Z0R (⟨rp, ep, tm, ca, cc, 0, 0, (Z2z L last tm)⟩ : PrR)⟩ : Signed)).length rc') (Zg Lb (⟨rp, Z0R (⟨rp, ep, tm, ca, cc, 0, 0, (Z2z L last tm)⟩ : PrR)⟩ : Signed)).length ((Zg Lb (⟨rp, Z0R (⟨rp, ep, tm, ca, cc, 0, 0, (Z2z L last tm)⟩ : PrR)⟩ : Signed)).flatMap Z4W), Zc 76 38 (.slice ca (Z2z L last tm).length cc) (Z2z L last tm).length ((Z2z L last tm).flatMap Z0V), Z3 w (ZR [Z0 t 107 [.int .i64 F, .int .i64 Cn, .int .i64 rp, .slice la (L).length lc], Zc 76 38 (.slice la (L).length lc) (L).length ((L).flatMap Z0V), Z0b B, Z0 r 165 [.slice ra (Lb).length rc], Zc 181 2 (.slice ra (Lb).length rc) (Lb).length ((Lb).flatMap Z4W)]).fp] w' := by
 have H := Sat.start0 w
 have H := Sat.start _ hA
 refine Z8 Tryz.func37 rfl 84 rfl (Nat.le_of_ble_eq_true rfl) ?_
 refine zsl <| zwd fun Kq kq => zda (Z5f) H fun b2 w3 H4 => ?_
 refine kq _ _ <| wv 11 (.int .i64 (0)) <| znt <| Z5 <| zsl <| wv 15 (.int .i64 (ep)) <| wv 16 (.bool (decide (ep < 0))) <| wv 17 (.bool (decide (ep < 0))) ?_
 have b5 : (decide (ep < 0)) = false := by exact decide_eq_false (by omega)
 refine Z06 17 (.bool false) (congrArg Value.bool b5) ?_
 have g6 := of_decide_eq_false b5
 refine wy 2 17 false 18 (.int .i64 (ep)) <| wy 2 17 false 19 (.bool (decide (ep > 1048576))) <| wv 20 (.bool (decide (ep > 1048576))) <| znt ?_
 have b7 : (decide (ep > 1048576)) = false := by exact decide_eq_false (by omega)
 have g8 := of_decide_eq_false b7
 refine Z2X _ b7 ?_
 refine Zt <| ztn <| Z5 <| zsl <| wv 22 (.int .u64 (tm)) <| wv 23 (.int .u64 (last)) <| wv 24 (.bool (decide (tm ≤ last))) <| wv 25 (.bool (decide (tm ≤ last))) ?_
 have b9 : (decide (tm ≤ last)) = false := by exact decide_eq_false (by omega)
 refine Z06 25 (.bool false) (congrArg Value.bool b9) ?_
 have g10 := of_decide_eq_false b9
 refine wy 3 25 false 26 (.int .u64 (tm)) <| wy 3 25 false 27 (.bool (decide (tm = 18446744073709551615))) <| wv 28 (.bool (decide (tm = 18446744073709551615))) <| znt ?_
 have b11 : (decide (tm = 18446744073709551615)) = false := by exact decide_eq_false (by omega)
 have g12 := of_decide_eq_false b11
 refine Z2X _ b11 ?_
 refine Zt <| ztn <| zsl <| wv 30 (pt t 0) <| wv 31 (pt t 0) <| wv 32 (pt t 2) <| zw1 33 (.int .i64 (rp)) (H4.cell 0 rfl rfl) <| wv 34 (.int .i64 (ep)) <| wv 35 (.int .u64 (tm)) <| wv 36 (.agg ⟨(ZdB rp ep tm)⟩) ?_
 refine zwd fun Kq kq => zda (Z5f) H4 fun b14 w15 H16 => ?_
 refine kq _ _ <| zwd fun Kq kq => Z1z (ZdB rp ep tm) H16 7 fun w18 H19 => ?_
 refine kq _ _ <| znt <| Z5 <| zsl <| wv 37 (pt t 0) <| wv 38 (pt t 0) <| wv 39 (pt t 3) <| zw1 40 (.slice la L.length lc) (H19.cell 0 rfl rfl) <| wv 41 (.int .i64 ((L.length : Int))) <| wv 42 (.int .i64 (0)) ?_
 refine znt <| Za ?_
 have H21 := H19.addNil 76 38
 refine Zw ([13, 14] ++ List.range' 42 32) (fun F_ W_ m_ => ∃ (i : Nat) (ca : Option Addr) (cc : Nat) (D : List CeR), F_ 42 = (.int .i64 ((i : Int))) ∧ (i ≤ L.length) ∧ (D = Z2z (L.take i) last tm) ∧ Sat w [Z0 t 107 (Z6N F Cn rp la L.length lc), (Z2E la L lc), Z0b B, Z0 r 165 (Z6D ra Lb.length rc), (Z43 ra Lb rc), Z3 w (ZR [Z0 t 107 [.int .i64 F, .int .i64 Cn, .int .i64 rp, .slice la (L).length lc], (Z2E la L lc), Z0b B, Z0 r 165 [.slice ra (Lb).length rc], (Z43 ra Lb rc)]).fp, Z0 b2 71 (Z5f), Z0 b14 71 (Z60 rp ep tm ca D.length cc), (Z2E ca D cc)] W_ ∧ m_ = L.length - i) _ ⟨0, none, 0, [], (show ((.int .i64 (0)) : Value) = _ by first | rfl | go_num), (Nat.zero_le _), rfl, H21, rfl⟩ ?_
 rintro g22 w23 _ ⟨i, ca, cc, D, v25, hi, hD, H24, rfl⟩
 refine Zd 42 _ v25 ?_
 have hDl : D.length ≤ 64 := by rw [hD]; have q := ZaO (L := L.take i) (last := last) (tm := tm); rw [List.length_take] at q; omega
 refine zsl <| wv 43 (.bool (decide ((i : Int) < (L.length : Int)))) <| znt <| Z5 ?_
 refine (ZJ (decide ((i : Int) < (L.length : Int)))).elim (fun b27 => ?_) (fun b27 => ?_)
 ·have g28 := of_decide_eq_true b27
  refine Z33 _ b27 ?_
  refine Zt <| ztn <| Z5 <| Za <| zsl <| wv 44 (.int .i64 ((i : Int))) <| wv 13 (.int .i64 ((i : Int))) <| Z0y <| wv 45 (pt t 0) <| wv 46 (pt t 0) ?_
  refine wv 47 (pt t 3) <| zw1 48 (.slice la L.length lc) (H24.cell 0 rfl rfl) <| wv 49 (.int .i64 ((i : Int))) ?_
  obtain ⟨g30, c31, e32⟩ := Z0z (H24.at 1 rfl) (by omega)
  obtain ⟨x33, h34⟩ := Z3E (show i < L.length by omega)
  refine wv 50 (.pointer (some ⟨g30, 0 + ((i : Int)).toNat * 38, none⟩)) ?_ (hr := Z04 (E := 76) (by kernel_rfl) (by kernel_rfl) (Nat.le_of_ble_eq_true rfl) rfl e32 rfl (by omega) (by omega))
  refine wv 51 (.agg ⟨(Z5d x33)⟩) ?_ (hr := Z05 (vs := (Z5d x33)) rfl (by kernel_rfl) (by kernel_rfl) (Nat.le_of_ble_eq_true (by kernel_rfl)) (Z2n (H24.at 1 rfl) e32 Z0N h34 0 (show 0 + ((i : Int)).toNat * 38 = i * 38 + 0 by omega) (by kernel_rfl) (by kernel_rfl)))
  refine zwd fun Kq kq => zdq 52 (Z3Q w23 x33.x x33.sa x33.sc x33.S (Z69 (c := x33) (H24.at 2 rfl) (hcT _ (List.mem_of_getElem? h34)).bag) (hcT _ (List.mem_of_getElem? h34)).len) H24 fun w36 H37 => ?_
  refine kq _ _ <| wv 14 (.int .u64 (Zj x33.S)) <| Z0y <| wv 53 (.int .u64 (Zj x33.S)) <| wv 54 (.int .u64 (last)) <| wv 55 (.bool (decide ((Zj x33.S) > last))) <| wv 56 (.bool (decide ((Zj x33.S) > last))) ?_
  refine (ZJ (decide ((Zj x33.S) > last))).elim (fun b39 => ?_) (fun b39 => ?_)
  ·have g40 := of_decide_eq_true b39
   refine Z06 56 (.bool true) (congrArg Value.bool b39) ?_
   refine wy 3 56 true 57 (.int .u64 (Zj x33.S)) <| wy 3 56 true 58 (.int .u64 (tm)) <| wy 3 56 true 59 (.bool (decide ((Zj x33.S) ≤ tm))) <| wv 60 (.bool (decide ((Zj x33.S) ≤ tm))) <| znt ?_
   refine (ZJ (decide ((Zj x33.S) ≤ tm))).elim (fun b42 => ?_) (fun b42 => ?_)
   ·have g43 := of_decide_eq_true b42
    refine Z33 _ b42 ?_
    refine Z18 H37 [Z0 t 107 (Z6N F Cn rp la L.length lc), (Z2E la L lc), Z0b B, Z0 r 165 (Z6D ra Lb.length rc), (Z43 ra Lb rc), Z3 w (ZR [Z0 t 107 [.int .i64 F, .int .i64 Cn, .int .i64 rp, .slice la (L).length lc], (Z2E la L lc), Z0b B, Z0 r 165 [.slice ra (Lb).length rc], (Z43 ra Lb rc)]).fp, Z0 b2 71 (Z5f), Z0 b14 71 (Z60 rp ep tm ca D.length cc)] [12] 13 rfl (by kernel_rfl) (fun Hx => (Hx.pk [0, 1, 2, 3, 4, 5, 6, 7])) ?_
    intro w45 H46 S47
    refine zkp 0 S47 61 (pt b14 3) <| zkv 1 S47 62 (.slice ca D.length cc) ?_ (he := fun _ H' => (zl1 (H'.cell 7 rfl rfl)))
    refine zkp 2 S47 63 (pt t 0) <| zkp 3 S47 64 (pt t 0) <| zkp 4 S47 65 (pt t 3) <| zkv 5 S47 66 (.slice la L.length lc) ?_ (he := fun _ H' => (zl1 (H'.cell 0 rfl rfl)))
    refine zkp 6 S47 67 (.int .i64 ((i : Int))) <| Z32 7 rfl (by kernel_rfl) (by kernel_rfl) (by kernel_rfl) (fun _ _ _ h => h) S47 (Zb rfl) rfl (d := 68) (v := (.pointer (some ⟨g30, 0 + ((i : Int)).toNat * 38, none⟩))) rfl (fun _ => (Z04 (E := 76) (by kernel_rfl) (by kernel_rfl) (Nat.le_of_ble_eq_true rfl) rfl e32 rfl (by omega) (by omega))) ?_
    refine zkv 8 S47 69 (.agg ⟨(Z5d x33)⟩) ?_ (he := fun _ H' => (Z05 (vs := (Z5d x33)) rfl (by kernel_rfl) (by kernel_rfl) (Nat.le_of_ble_eq_true (by kernel_rfl)) (Z2n (H'.at 1 rfl) e32 Z0N h34 0 (show 0 + ((i : Int)).toNat * 38 = i * 38 + 0 by omega) (by kernel_rfl) (by kernel_rfl))))
    refine Z9r 9 fun Kq kq => ?_
    refine Z2w 76 38 96 (.agg ⟨(([(.int .i64 (0)), (.int .i64 (0))] : List Value) ++ hc Zn ++ ([(.int .i64 (0)), (.int .i64 (0)), (.int .i64 (0)), (.slice none 0 0)] : List Value))⟩) [(0, (.agg ⟨(Z5d x33)⟩))] (Z5d x33) H46 ?_
    intro b49 w50 H51
    have H52 := H51.ct 9 rfl (Zc 76 38 (.slice (some ⟨b49, 0, none⟩) 1 1) 1 ([x33].flatMap Z0V)) (by rw [(show ((Z5d x33) : List Value) = [x33].flatMap Z0V by kernel_rfl)])
    have S53 := H52.pk [0, 1, 2, 3, 4, 5, 6, 7]
    refine kq _ _ S53 <| Z9r 10 fun Kq kq => ?_
    refine Z00 (T := 67) (e := 76) (size := 38) (bytes := 96) rfl H52 (by kernel_rfl) 8 9 rfl rfl rfl rfl (ZX Z0V Z5t [x33]) (by omega) (by omega) ?_
    intro v55 w56 H57
    have H60 := H57.ct 8 rfl (Zc 76 38 v55 ((D ++ [x33]).length) ((D ++ [x33]).flatMap Z0V)) ja
    obtain ⟨a58, c59, rfl⟩ := Z2 (H60.at 8 rfl)
    have S61 := H60.pk [0, 1, 2, 3, 4, 5, 6, 7]
    refine kq _ _ S61 <| zkp 11 S61 72 (pt b14 3) <| Z3v 12 (Sat w [Z0 t 107 (Z6N F Cn rp la L.length lc), (Z2E la L lc), Z0b B, Z0 r 165 (Z6D ra Lb.length rc), (Z43 ra Lb rc), Z3 w (ZR [Z0 t 107 [.int .i64 F, .int .i64 Cn, .int .i64 rp, .slice la (L).length lc], (Z2E la L lc), Z0b B, Z0 r 165 [.slice ra (Lb).length rc], (Z43 ra Lb rc)]).fp, Z0 b2 71 (Z5f)]) rfl (by kernel_rfl) (Zb rfl) rfl (fun Kq kq => ?_)
    refine zds (Z6D a58 ((D ++ [x33]).length) c59) (Z60 rp ep tm a58 ((D ++ [x33]).length) c59) H60 7 ?_
    intro w63 H64
    have S66 := H64.pk [0, 1, 2, 3, 4, 5, 6]
    refine kq _ _ S66 <| zhf <| Z7 <| ztn <| Zl <| zwi 73 ((i : Int) + 1) <| wv 42 (.int .i64 ((i : Int) + 1)) <| Zu ?_
    have H67 := H64.pk [0, 1, 2, 3, 4, 5, 6, 7, 8]
    refine Z6 ?_ _ ⟨(i + 1), a58, c59, (D ++ [x33]), rfl, (by omega), (ZdV hD h34 b39 b42), H67, rfl⟩ (by omega)
    exact zs
   have g68 := of_decide_eq_false b42
   refine Z2X _ b42 ?_
   refine Zt <| Z7 <| ztn <| Zl <| zwi 73 ((i : Int) + 1) <| wv 42 (.int .i64 ((i : Int) + 1)) <| Zu <| Z6 ?_ _ ⟨(i + 1), ca, cc, D, rfl, (by omega), (Zeq hD h34 b42), H37, rfl⟩ (by omega)
   exact zs
  have g70 := of_decide_eq_false b39
  refine Z06 56 (.bool false) (congrArg Value.bool b39) ?_
  iterate 3 refine wn 3 56 true ?_
  refine wv 60 (.bool false) <| znt <| Z2O rfl ?_
  refine Zt <| Z7 <| ztn <| Zl <| zwi 73 ((i : Int) + 1) <| wv 42 (.int .i64 ((i : Int) + 1)) <| Zu <| Z6 ?_ _ ⟨(i + 1), ca, cc, D, rfl, (by omega), (Ze6 hD h34 b39), H37, rfl⟩ (by omega)
  exact zs
 have g72 := of_decide_eq_false b27
 refine Z2X _ b27 ?_
 refine zxb <| ztn <| Z5 ?_
 have hDf : D = Z2z L last tm := by rw [hD, List.take_of_length_le (by omega)]
 refine Z18 H24 [Z0 t 107 (Z6N F Cn rp la L.length lc), (Z2E la L lc), Z0b B, Z3 w (ZR [Z0 t 107 [.int .i64 F, .int .i64 Cn, .int .i64 rp, .slice la (L).length lc], (Z2E la L lc), Z0b B, Z0 r 165 [.slice ra (Lb).length rc], (Z43 ra Lb rc)]).fp, Z0 b2 71 (Z5f), Z0 b14 71 (Z60 rp ep tm ca D.length cc), (Z2E ca D cc)] [9] 10 rfl (by kernel_rfl) (fun Hx => (Hx.pk [0, 1, 2, 5, 6, 7, 8])) ?_
 intro w74 H75 S76
 refine zkp 0 S76 74 (pt r 0) <| zkp 1 S76 75 (pt t 0) <| zkp 2 S76 76 (pt t 0) <| zkp 3 S76 77 (pt t 2) <| zkv 4 S76 78 (.int .i64 (rp)) ?_ (he := fun _ H' => (zl1 (H'.cell 0 rfl rfl)))
 refine zkv 5 S76 79 (.agg ⟨(Z60 rp ep tm ca D.length cc)⟩) ?_ (he := fun _ H' => (zlN (vs := (Z60 rp ep tm ca D.length cc)) (H'.at 5 rfl)))
 refine Z9r 6 fun Kq kq => ?_
 refine zdc 80 (Z4g w74 (⟨rp, ep, tm, ca, cc, 0, 0, D⟩ : PrR) (ListAt.row Z0N (by decide) (H75.at 8 rfl)) (fun i hi => (hcT _ (Z5o (L := L) (last := last) (tm := tm) (by rw [← hDf]; exact Z3O hi))).cb (H75.at 2 rfl)) hDl ⟨by show rp ≤ _; omega, by show ep ≤ _; omega, by show 0 ≤ tm; omega, by show tm < _; omega⟩) ?_
 rintro _ w78 ⟨u79, rfl, k80, p81, q82⟩
 have H83 := H75.addU p81 k80 q82
 obtain ⟨a84, c85, rfl⟩ := Z2 (H83.at 9 rfl)
 refine ⟨_, rfl, ?_⟩
 have hpl := Z99 (p := (⟨rp, ep, tm, ca, cc, 0, 0, D⟩ : PrR)) (fun c hm => Nat.le_trans (hcT _ (Z5o (L := L) (last := last) (tm := tm) (by rw [← hDf]; exact hm))).len (by decide)) hDl
 have S86 := H83.pk [0, 1, 2, 5, 6, 7, 8]
 refine kq _ _ S86 <| Z9r 7 fun Kq kq => ?_
 refine zdc 81 (Z2F w78 r ra rc Lb (.slice a84 ((Z0R (⟨rp, ep, tm, ca, cc, 0, 0, D⟩ : PrR)).length) c85) (Z0R (⟨rp, ep, tm, ca, cc, 0, 0, D⟩ : PrR)) (H83.fn [3, 4, 9]) (by omega) hnb rp) ?_
 rintro _ w88 ⟨a90, c91, rfl, T89⟩
 have H92 := H83.tl [Z0 r 165 (Z6D a90 ((Zg Lb (⟨rp, (Z0R (⟨rp, ep, tm, ca, cc, 0, 0, D⟩ : PrR))⟩ : Signed)).length) c91), (Z43 a90 (Zg Lb (⟨rp, (Z0R (⟨rp, ep, tm, ca, cc, 0, 0, D⟩ : PrR))⟩ : Signed)) c91), (Zfi a84 (Z0R (⟨rp, ep, tm, ca, cc, 0, 0, D⟩ : PrR)) c85)] [3, 4, 9] [0, 1, 2, 5, 6, 7, 8] T89 [3, 4, 5, 0, 1, 6, 7, 8, 9, 2]
 refine ⟨_, rfl, ?_⟩
 have S93 := H92.pk [0, 1, 2, 5, 6, 7, 8]
 refine kq _ _ S93 <| zkp 8 S93 82 (pt b14 4) <| Z3v 9 (Sat w [Z0 t 107 (Z6N F Cn rp la L.length lc), (Z2E la L lc), Z0b B, Z3 w (ZR [Z0 t 107 [.int .i64 F, .int .i64 Cn, .int .i64 rp, .slice la (L).length lc], (Z2E la L lc), Z0b B, Z0 r 165 [.slice ra (Lb).length rc], (Z43 ra Lb rc)]).fp, Z0 b2 71 (Z5f), (Z2E ca D cc)]) rfl (by kernel_rfl) (Zb rfl) rfl (fun Kq kq => ?_)
 refine zds ([(.int .i64 (rp)), (.int .i64 (Ze (Zg Lb (⟨rp, (Z0R (⟨rp, ep, tm, ca, cc, 0, 0, D⟩ : PrR))⟩ : Signed)) (⟨rp, (Z0R (⟨rp, ep, tm, ca, cc, 0, 0, D⟩ : PrR))⟩ : Signed)))] : List Value) (Z8h rp ep tm ca D.length cc (Ze (Zg Lb (⟨rp, (Z0R (⟨rp, ep, tm, ca, cc, 0, 0, D⟩ : PrR))⟩ : Signed)) (⟨rp, (Z0R (⟨rp, ep, tm, ca, cc, 0, 0, D⟩ : PrR))⟩ : Signed))) H92 7 ?_
 intro w95 H96
 have S98 := H96.pk [0, 1, 2, 5, 6, 8]
 refine kq _ _ S98 <| zhf <| ztn <| zsl <| zwN 83 (Z8h rp ep tm ca D.length cc (Ze (Zg Lb (⟨rp, (Z0R (⟨rp, ep, tm, ca, cc, 0, 0, D⟩ : PrR))⟩ : Signed)) (⟨rp, (Z0R (⟨rp, ep, tm, ca, cc, 0, 0, D⟩ : PrR))⟩ : Signed))) (H96.at 7 rfl) <| zwd fun Kq kq => Z1z (Z8h rp ep tm ca D.length cc (Ze (Zg Lb (⟨rp, (Z0R (⟨rp, ep, tm, ca, cc, 0, 0, D⟩ : PrR))⟩ : Signed)) (⟨rp, (Z0R (⟨rp, ep, tm, ca, cc, 0, 0, D⟩ : PrR))⟩ : Signed))) H96 6 fun w100 H101 => ?_
 refine kq _ _ <| wv 11 (.int .i64 (0)) <| znt <| Zq <| Z9t rfl (ZL (vs := (Z8h rp ep tm ca D.length cc (Ze (Zg Lb (⟨rp, (Z0R (⟨rp, ep, tm, ca, cc, 0, 0, D⟩ : PrR))⟩ : Signed)) (⟨rp, (Z0R (⟨rp, ep, tm, ca, cc, 0, 0, D⟩ : PrR))⟩ : Signed)))) rfl (by kernel_rfl) (by kernel_rfl) (Nat.le_of_ble_eq_true (by kernel_rfl)) (H101.at 6 rfl) (by kernel_rfl)) (Z10 (v := (.int .i64 (0))) rfl) ?_
 subst hDf
 exact ⟨ca, cc, a90, c91, rfl, H101.pk [0, 1, 2, 3, 4, 8, 5]⟩
def isR (x : Z9) (r : Int) (s : Z4) : Bool := decide (s.r = r) && Z54 s x
def Z4E (x : Z9) (L : List Z4) (r : Nat) : Option Z4 := L.find? (isR x r)
def Z6Z (x : Z9) (L : List Z4) (n : Nat) : List Z4 := (List.range n).filterMap (Z4E x L)
theorem Z3k {x : Z9} {L : List Z4} {r : Nat} {s : Z4} (h : Z4E x L r = some s) : s.r = r ∧ Z54 s x = true ∧ s ∈ L := by
 have h1 := List.find?_some h
 have h2 := List.mem_of_find?_eq_some h
 simp only [isR, Bool.and_eq_true, decide_eq_true_eq] at h1
 exact ⟨h1.1, h1.2, h2⟩
theorem Z8p {x : Z9} {L : List Z4} {n : Nat} {s : Z4} : s ∈ Z6Z x L n ↔ (0 ≤ s.r ∧ s.r < n) ∧ Z4E x L s.r.toNat = some s := by
 unfold Z6Z
 rw [List.mem_filterMap]
 constructor
 ·rintro ⟨r, hr, hf⟩
  have := List.mem_range.1 hr
  obtain ⟨e, _, _⟩ := Z3k hf
  exact ⟨by omega, by rw [show s.r.toNat = r by omega]; exact hf⟩
 ·rintro ⟨hb, hf⟩
  exact ⟨s.r.toNat, List.mem_range.2 (by omega), hf⟩
theorem Z9e (x : Z9) (L : List Z4) (n : Nat) : Z6Z x L (n + 1) = Z6Z x L n ++ (Z4E x L n).toList := by
 unfold Z6Z
 rw [List.range_succ, List.filterMap_append]
 congr 1
theorem Z9A (x : Z9) (L : List Z4) (n : Nat) : (Z6Z x L n).Pairwise fun a b => a.r < b.r := by
 induction n with
 | zero => simp [Z6Z]
 | succ n ih =>
  rw [Z9e]
  refine List.pairwise_append.2 ⟨ih, ?_, fun a ha b hb => ?_⟩
  ·cases Z4E x L n <;> simp
  ·have h1 := (Z8p.1 ha).1
   cases hf : Z4E x L n with
   | none => rw [hf] at hb; simp at hb
   | some t =>
    rw [hf] at hb
    obtain rfl : b = t := by simpa using hb
    obtain ⟨e, _, _⟩ := Z3k hf
    omega
end Go.Proofs.YtenihpghfdcpkaaGreat
