/- WHAT IS PROVED: contracts and plain laws of TabP, KpL, Own11, Com11, Wk11, PlS, RiseM, SgM. Conditions: stated with each. -/
import Derived.Test.YtoaifondpohniaaGreatPR04
import Derived.Test.YtoaifondpohniaaGreatPR06
import Derived.Test.YtoaifondpohniaaGreatPR14
import Derived.Test.YtoaifondpohniaaGreatPR21
import Derived.Test.YtoaifondpohniaaGreatPR22
import Derived.Test.YtoaifondpohniaaGreatPR26
import Derived.Test.YtoaifondpohniaaGreatPR28
import Derived.Test.YtoaifondpohniaaGreatPR29
import Derived.Test.YtoaifondpohniaaGreatPR30
import Derived.Test.YtoaifondpohniaaGreatPR31
set_option maxHeartbeats 4000000
set_option maxRecDepth 100000
namespace Go.Proofs.YtoaifondpohniaaGreat
open Go.RowKit
abbrev Z5B (p0 : Int) (p1 : Int) (p2 : Int) (p3 : Option Addr) (p4 : Nat) (p5 : Nat) : List Value := ([(.int .i64 p0), (.int .i64 p1), (.int .i64 p2), (.slice p3 p4 p5)] : List Value)
abbrev Z24 (p0 : Option Addr) (p1 : List CeR) (p2 : Nat) : Ck := ZH 53 38 (.slice p0 p1.length p2) p1.length (p1.flatMap Z0h)
abbrev Z5C (p0 : Option Addr) (p1 : Nat) (p2 : Nat) : List Value := ([(.slice p0 p1 p2)] : List Value)
abbrev Z3c (p0 : Option Addr) (p1 : List Signed) (p2 : Nat) : Ck := ZH 114 2 (.slice p0 p1.length p2) p1.length (p1.flatMap Z43)
abbrev Z46 : List Value := ([(.int .i64 (0)), (.int .i64 (0)), (.int .u64 (0)), (.slice none 0 0), (.int .i64 (0)), (.int .i64 (0))] : List Value)
abbrev Zak (p0 : Int) (p1 : Int) (p2 : Int) : List Value := ([(.int .i64 p0), (.int .i64 p1), (.int .u64 p2), (.slice none 0 0), (.int .i64 (0)), (.int .i64 (0))] : List Value)
abbrev Z4O (p0 : Int) (p1 : Int) (p2 : Int) (p3 : Option Addr) (p4 : Nat) (p5 : Nat) : List Value := ([(.int .i64 p0), (.int .i64 p1), (.int .u64 p2), (.slice p3 p4 p5), (.int .i64 (0)), (.int .i64 (0))] : List Value)
abbrev Z47 (p0 : CeR) : List Value := ([(.int .i64 p0.x.cl), (.int .i64 p0.x.seq)] : List Value) ++ hc p0.x.h ++ ([(.int .i64 p0.x.len), (.int .i64 p0.x.sb), (.int .i64 p0.x.sm), (.slice p0.sa p0.S.length p0.sc)] : List Value)
abbrev Zcn (p0 : Option Addr) (p1 : List UInt8) (p2 : Nat) : Ck := ZH 5 1 (.slice p0 p1.length p2) p1.length (p1.flatMap ZN)
abbrev Z6R (p0 : Int) (p1 : Int) (p2 : Int) (p3 : Option Addr) (p4 : Nat) (p5 : Nat) (p6 : Int) : List Value := ([(.int .i64 p0), (.int .i64 p1), (.int .u64 p2), (.slice p3 p4 p5), (.int .i64 p0), (.int .i64 p6)] : List Value)
theorem Z7G (w : World) (t : Nat) (F Cn rp : Int) (la : Option Addr) (lc : Nat) (L : List CeR) (B : List Ck) (r : Nat) (ra : Option Addr) (rc : Nat) (Lb : List Signed) (hA : (Z0c [Z0 t 45 [.int .i64 F, .int .i64 Cn, .int .i64 rp, .slice la (L).length lc], ZH 53 38 (.slice la (L).length lc) (L).length ((L).flatMap Z0h), Z0o B, Z0 r 98 [.slice ra (Lb).length rc], ZH 114 2 (.slice ra (Lb).length rc) (Lb).length ((Lb).flatMap Z43)]).ok w) (hlL : L.length ≤ 64) (hcT : ∀ c ∈ L, CeT B c) (hrp : 0 ≤ rp ∧ rp ≤ 1000000) (hnb : Lb.Nodup) (hlb : Lb.length ≤ 100000) (ep last tm : Int) (hep : 0 ≤ ep ∧ ep ≤ 1048576) (htm : 0 ≤ last ∧ last < tm ∧ tm < 18446744073709551615) :
  Calls Tryz.prog 14 #[(.pointer (some ⟨t, 0, none⟩)), (.pointer (some ⟨r, 0, none⟩)), (.int .i64 (ep)), (.int .u64 (last)), (.int .u64 (tm))] w fun e w' => ∃ ca cc ra' rc', e = .returned (.tuple #[.agg ⟨encPr ⟨rp, ep, tm, ca, cc, rp, Zu (Zk Lb (⟨rp, ZB (⟨rp, ep, tm, ca, cc, 0, 0, (Z05 L last tm)⟩ : PrR)⟩ : Signed)) (⟨rp, ZB (⟨rp, ep, tm, ca, cc, 0, 0, (Z05 L last tm)⟩ : PrR)⟩ : Signed), (Z05 L last tm)⟩⟩, (.int .i64 (0))]) ∧ Sat w [Z0 t 45 [.int .i64 F, .int .i64 Cn, .int .i64 rp, .slice la (L).length lc], ZH 53 38 (.slice la (L).length lc) (L).length ((L).flatMap Z0h), Z0o B, Z0 r 98 [.slice ra' (Zk Lb (⟨rp, ZB (⟨rp, ep, tm, ca, cc, 0, 0, (Z05 L last tm)⟩ : PrR)⟩ : Signed)).length rc'], ZH 114 2 (.slice ra' (Zk Lb (⟨rp, ZB (⟨rp, ep, tm, ca, cc, 0, 0, (Z05 L last tm)⟩ : PrR)⟩ : Signed)).length rc') (Zk Lb (⟨rp, ZB (⟨rp, ep, tm, ca, cc, 0, 0, (Z05 L last tm)⟩ : PrR)⟩ : Signed)).length ((Zk Lb (⟨rp, ZB (⟨rp, ep, tm, ca, cc, 0, 0, (Z05 L last tm)⟩ : PrR)⟩ : Signed)).flatMap Z43), ZH 53 38 (.slice ca (Z05 L last tm).length cc) (Z05 L last tm).length ((Z05 L last tm).flatMap Z0h), Z6 w (Z0c [Z0 t 45 [.int .i64 F, .int .i64 Cn, .int .i64 rp, .slice la (L).length lc], ZH 53 38 (.slice la (L).length lc) (L).length ((L).flatMap Z0h), Z0o B, Z0 r 98 [.slice ra (Lb).length rc], ZH 114 2 (.slice ra (Lb).length rc) (Lb).length ((Lb).flatMap Z43)]).fp] w' := by
 have H := Sat.start0 w
 have H := Sat.start _ hA
 refine Zp Tryz.func14 rfl 84 rfl (Nat.le_of_ble_eq_true rfl) ?_
 apply zsl
 refine zwd fun Kq kq => ?_
 refine zda (Z46) H ?_
 intro b2 w3 H4
 refine kq _ _ ?_
 clear kq Kq
 refine wv 11 (.int .i64 (0)) ?_
 apply znt
 apply Zt
 apply zsl
 refine wv 15 (.int .i64 (ep)) ?_
 refine wv 16 (.bool (decide (ep < 0))) ?_
 refine wv 17 (.bool (decide (ep < 0))) ?_
 have b5 : (decide (ep < 0)) = false := by exact decide_eq_false (by omega)
 refine ZI 17 (.bool false) (congrArg Value.bool b5) ?_
 have g6 := of_decide_eq_false b5
 refine wy 2 17 false 18 (.int .i64 (ep)) ?_
 refine wy 2 17 false 19 (.bool (decide (ep > 1048576))) ?_
 refine wv 20 (.bool (decide (ep > 1048576))) ?_
 apply znt
 have b7 : (decide (ep > 1048576)) = false := by exact decide_eq_false (by omega)
 have g8 := of_decide_eq_false b7
 refine Z18 _ b7 ?_
 apply ZL
 apply ztn
 apply Zt
 apply zsl
 refine wv 22 (.int .u64 (tm)) ?_
 refine wv 23 (.int .u64 (last)) ?_
 refine wv 24 (.bool (decide (tm ≤ last))) ?_
 refine wv 25 (.bool (decide (tm ≤ last))) ?_
 have b9 : (decide (tm ≤ last)) = false := by exact decide_eq_false (by omega)
 refine ZI 25 (.bool false) (congrArg Value.bool b9) ?_
 have g10 := of_decide_eq_false b9
 refine wy 3 25 false 26 (.int .u64 (tm)) ?_
 refine wy 3 25 false 27 (.bool (decide (tm = 18446744073709551615))) ?_
 refine wv 28 (.bool (decide (tm = 18446744073709551615))) ?_
 apply znt
 have b11 : (decide (tm = 18446744073709551615)) = false := by exact decide_eq_false (by omega)
 have g12 := of_decide_eq_false b11
 refine Z18 _ b11 ?_
 apply ZL
 apply ztn
 apply zsl
 refine wv 30 (pt t 0) ?_
 refine wv 31 (pt t 0) ?_
 refine wv 32 (pt t 2) ?_
 refine zw1 33 (.int .i64 (rp)) (H4.cell 0 rfl rfl) ?_
 refine wv 34 (.int .i64 (ep)) ?_
 refine wv 35 (.int .u64 (tm)) ?_
 refine wv 36 (.agg ⟨(Zak rp ep tm)⟩) ?_
 refine zwd fun Kq kq => ?_
 refine zda (Z46) H4 ?_
 intro b14 w15 H16
 refine kq _ _ ?_
 clear kq Kq
 refine zwd fun Kq kq => ?_
 refine Z2k (Zak rp ep tm) H16 7 ?_
 intro w18 H19
 refine kq _ _ ?_
 clear kq Kq
 apply znt
 apply Zt
 apply zsl
 refine wv 37 (pt t 0) ?_
 refine wv 38 (pt t 0) ?_
 refine wv 39 (pt t 3) ?_
 refine zw1 40 (.slice la L.length lc) (H19.cell 0 rfl rfl) ?_
 refine wv 41 (.int .i64 ((L.length : Int))) ?_
 refine wv 42 (.int .i64 (0)) ?_
 apply znt
 apply ZG
 have H21 := H19.addNil 53 38
 refine Z02 ([13, 14] ++ List.range' 42 32) (fun F_ W_ m_ => ∃ (i : Nat) (ca : Option Addr) (cc : Nat) (D : List CeR), F_ 42 = (.int .i64 ((i : Int))) ∧ (i ≤ L.length) ∧ (D = Z05 (L.take i) last tm) ∧ Sat w [Z0 t 45 (Z5B F Cn rp la L.length lc), (Z24 la L lc), Z0o B, Z0 r 98 (Z5C ra Lb.length rc), (Z3c ra Lb rc), Z6 w (Z0c [Z0 t 45 [.int .i64 F, .int .i64 Cn, .int .i64 rp, .slice la (L).length lc], (Z24 la L lc), Z0o B, Z0 r 98 [.slice ra (Lb).length rc], (Z3c ra Lb rc)]).fp, Z0 b2 34 (Z46), Z0 b14 34 (Z4O rp ep tm ca D.length cc), (Z24 ca D cc)] W_ ∧ m_ = L.length - i) _ ⟨0, none, 0, [], (show ((.int .i64 (0)) : Value) = _ by first | rfl | go_num), (Nat.zero_le _), rfl, H21, rfl⟩ ?_
 rintro g22 w23 _ ⟨i, ca, cc, D, v25, hi, hD, H24, rfl⟩
 refine ZF 42 _ v25 ?_
 have hDl : D.length ≤ 64 := by rw [hD]; have q := Z5k (L := L.take i) (last := last) (tm := tm); rw [List.length_take] at q; omega
 apply zsl
 refine wv 43 (.bool (decide ((i : Int) < (L.length : Int)))) ?_
 apply znt
 apply Zt
 refine (Zl (decide ((i : Int) < (L.length : Int)))).elim (fun b27 => ?_) (fun b27 => ?_)
 ·have g28 := of_decide_eq_true b27
  refine Z1o _ b27 ?_
  apply ZL
  apply ztn
  apply Zt
  apply ZG
  apply zsl
  refine wv 44 (.int .i64 ((i : Int))) ?_
  refine wv 13 (.int .i64 ((i : Int))) ?_
  apply Z1y
  refine wv 45 (pt t 0) ?_
  refine wv 46 (pt t 0) ?_
  refine wv 47 (pt t 3) ?_
  refine zw1 48 (.slice la L.length lc) (H24.cell 0 rfl rfl) ?_
  refine wv 49 (.int .i64 ((i : Int))) ?_
  obtain ⟨g30, c31, e32⟩ := Z1n (H24.at 1 rfl) (by omega)
  obtain ⟨x33, h34⟩ := Z2j (show i < L.length by omega)
  refine wv 50 (.pointer (some ⟨g30, 0 + ((i : Int)).toNat * 38, none⟩)) ?_ (hr := Z0t (E := 53) (by kernel_rfl) (by kernel_rfl) (Nat.le_of_ble_eq_true rfl) rfl e32 rfl (by omega) (by omega))
  refine wv 51 (.agg ⟨(Z47 x33)⟩) ?_ (hr := Z0f (vs := (Z47 x33)) rfl (by kernel_rfl) (by kernel_rfl) (Nat.le_of_ble_eq_true (by kernel_rfl)) (Z2a (H24.at 1 rfl) e32 ZZ h34 0 (show 0 + ((i : Int)).toNat * 38 = i * 38 + 0 by omega) (by kernel_rfl) (by kernel_rfl)))
  refine zwd fun Kq kq => ?_
  refine zdq 52 (Z2d w23 x33.x x33.sa x33.sc x33.S (Z3S (c := x33) (H24.at 2 rfl) (hcT _ (List.mem_of_getElem? h34)).bag) (hcT _ (List.mem_of_getElem? h34)).len) H24 ?_
  intro w36 H37
  refine kq _ _ ?_
  clear kq Kq
  refine wv 14 (.int .u64 (ZK x33.S)) ?_
  apply Z1y
  refine wv 53 (.int .u64 (ZK x33.S)) ?_
  refine wv 54 (.int .u64 (last)) ?_
  refine wv 55 (.bool (decide ((ZK x33.S) > last))) ?_
  refine wv 56 (.bool (decide ((ZK x33.S) > last))) ?_
  refine (Zl (decide ((ZK x33.S) > last))).elim (fun b39 => ?_) (fun b39 => ?_)
  ·have g40 := of_decide_eq_true b39
   refine ZI 56 (.bool true) (congrArg Value.bool b39) ?_
   refine wy 3 56 true 57 (.int .u64 (ZK x33.S)) ?_
   refine wy 3 56 true 58 (.int .u64 (tm)) ?_
   refine wy 3 56 true 59 (.bool (decide ((ZK x33.S) ≤ tm))) ?_
   refine wv 60 (.bool (decide ((ZK x33.S) ≤ tm))) ?_
   apply znt
   refine (Zl (decide ((ZK x33.S) ≤ tm))).elim (fun b42 => ?_) (fun b42 => ?_)
   ·have g43 := of_decide_eq_true b42
    refine Z1o _ b42 ?_
    refine Z1k H37 [Z0 t 45 (Z5B F Cn rp la L.length lc), (Z24 la L lc), Z0o B, Z0 r 98 (Z5C ra Lb.length rc), (Z3c ra Lb rc), Z6 w (Z0c [Z0 t 45 [.int .i64 F, .int .i64 Cn, .int .i64 rp, .slice la (L).length lc], (Z24 la L lc), Z0o B, Z0 r 98 [.slice ra (Lb).length rc], (Z3c ra Lb rc)]).fp, Z0 b2 34 (Z46), Z0 b14 34 (Z4O rp ep tm ca D.length cc)] [12] 13 rfl (by kernel_rfl) (fun Hx => (Hx.pk [0, 1, 2, 3, 4, 5, 6, 7])) ?_
    intro w45 H46 S47
    refine zkp 0 S47 61 (pt b14 3) ?_
    refine zkv 1 S47 62 (.slice ca D.length cc) ?_ (he := fun _ H' => (Z2 rfl (by kernel_rfl) (H'.cell 7 rfl rfl)))
    refine zkp 2 S47 63 (pt t 0) ?_
    refine zkp 3 S47 64 (pt t 0) ?_
    refine zkp 4 S47 65 (pt t 3) ?_
    refine zkv 5 S47 66 (.slice la L.length lc) ?_ (he := fun _ H' => (Z2 rfl (by kernel_rfl) (H'.cell 0 rfl rfl)))
    refine zkp 6 S47 67 (.int .i64 ((i : Int))) ?_
    refine Zam 7 rfl (by kernel_rfl) (by kernel_rfl) (by kernel_rfl) (fun _ _ _ h => h) S47 (Zs rfl) rfl (d := 68) (v := (.pointer (some ⟨g30, 0 + ((i : Int)).toNat * 38, none⟩))) rfl (fun _ => (Z0t (E := 53) (by kernel_rfl) (by kernel_rfl) (Nat.le_of_ble_eq_true rfl) rfl e32 rfl (by omega) (by omega))) ?_
    refine zkv 8 S47 69 (.agg ⟨(Z47 x33)⟩) ?_ (he := fun _ H' => (Z0f (vs := (Z47 x33)) rfl (by kernel_rfl) (by kernel_rfl) (Nat.le_of_ble_eq_true (by kernel_rfl)) (Z2a (H'.at 1 rfl) e32 ZZ h34 0 (show 0 + ((i : Int)).toNat * 38 = i * 38 + 0 by omega) (by kernel_rfl) (by kernel_rfl))))
    refine Z3p 9 fun Kq kq => ?_
    refine Z3o 53 38 96 (.agg ⟨(([(.int .i64 (0)), (.int .i64 (0))] : List Value) ++ hc Z0d ++ ([(.int .i64 (0)), (.int .i64 (0)), (.int .i64 (0)), (.slice none 0 0)] : List Value))⟩) [(0, (.agg ⟨(Z47 x33)⟩))] (Z47 x33) H46 ?_
    intro b49 w50 H51
    have H52 := H51.ct 9 rfl (ZH 53 38 (.slice (some ⟨b49, 0, none⟩) 1 1) 1 ([x33].flatMap Z0h)) (by rw [(show ((Z47 x33) : List Value) = [x33].flatMap Z0h by kernel_rfl)])
    have S53 := H52.pk [0, 1, 2, 3, 4, 5, 6, 7]
    refine kq _ _ S53 ?_
    clear kq Kq
    refine Z3p 10 fun Kq kq => ?_
    refine Z14 (T := 32) (e := 53) (size := 38) (bytes := 96) rfl H52 (by kernel_rfl) 8 9 rfl rfl rfl rfl (Z0U Z0h Z3r [x33]) (by omega) (by omega) ?_
    intro v55 w56 H57
    have H60 := H57.ct 8 rfl (ZH 53 38 v55 ((D ++ [x33]).length) ((D ++ [x33]).flatMap Z0h)) ja
    obtain ⟨a58, c59, rfl⟩ := Z1 (H60.at 8 rfl)
    have S61 := H60.pk [0, 1, 2, 3, 4, 5, 6, 7]
    refine kq _ _ S61 ?_
    clear kq Kq
    refine zkp 11 S61 72 (pt b14 3) ?_
    refine Z30 12 (Sat w [Z0 t 45 (Z5B F Cn rp la L.length lc), (Z24 la L lc), Z0o B, Z0 r 98 (Z5C ra Lb.length rc), (Z3c ra Lb rc), Z6 w (Z0c [Z0 t 45 [.int .i64 F, .int .i64 Cn, .int .i64 rp, .slice la (L).length lc], (Z24 la L lc), Z0o B, Z0 r 98 [.slice ra (Lb).length rc], (Z3c ra Lb rc)]).fp, Z0 b2 34 (Z46)]) rfl (by kernel_rfl) (Zs rfl) rfl (fun Kq kq => ?_)
    refine zds (Z5C a58 ((D ++ [x33]).length) c59) (Z4O rp ep tm a58 ((D ++ [x33]).length) c59) H60 7 ?_
    intro w63 H64
    have S66 := H64.pk [0, 1, 2, 3, 4, 5, 6]
    refine kq _ _ S66 ?_
    clear kq Kq
    refine zhf ?_
    apply Zq
    apply ztn
    apply ZU
    refine zwi 73 ((i : Int) + 1) ?_
    refine wv 42 (.int .i64 ((i : Int) + 1)) ?_
    apply ZQ
    have H67 := H64.pk [0, 1, 2, 3, 4, 5, 6, 7, 8]
    refine Zw ?_ _ ⟨(i + 1), a58, c59, (D ++ [x33]), rfl, (by omega), (Z93 hD h34 b39 b42), H67, rfl⟩ (by omega)
    exact zs
   have g68 := of_decide_eq_false b42
   refine Z18 _ b42 ?_
   apply ZL
   apply Zq
   apply ztn
   apply ZU
   refine zwi 73 ((i : Int) + 1) ?_
   refine wv 42 (.int .i64 ((i : Int) + 1)) ?_
   apply ZQ
   refine Zw ?_ _ ⟨(i + 1), ca, cc, D, rfl, (by omega), (Z92 hD h34 b42), H37, rfl⟩ (by omega)
   exact zs
  have g70 := of_decide_eq_false b39
  refine ZI 56 (.bool false) (congrArg Value.bool b39) ?_
  iterate 3 refine wn 3 56 true ?_
  refine wv 60 (.bool false) ?_
  apply znt
  refine Z3m rfl ?_
  apply ZL
  apply Zq
  apply ztn
  apply ZU
  refine zwi 73 ((i : Int) + 1) ?_
  refine wv 42 (.int .i64 ((i : Int) + 1)) ?_
  apply ZQ
  refine Zw ?_ _ ⟨(i + 1), ca, cc, D, rfl, (by omega), (Z91 hD h34 b39), H37, rfl⟩ (by omega)
  exact zs
 have g72 := of_decide_eq_false b27
 refine Z18 _ b27 ?_
 apply zxb
 apply ztn
 apply Zt
 have hDf : D = Z05 L last tm := by rw [hD, List.take_of_length_le (by omega)]
 refine Z1k H24 [Z0 t 45 (Z5B F Cn rp la L.length lc), (Z24 la L lc), Z0o B, Z6 w (Z0c [Z0 t 45 [.int .i64 F, .int .i64 Cn, .int .i64 rp, .slice la (L).length lc], (Z24 la L lc), Z0o B, Z0 r 98 [.slice ra (Lb).length rc], (Z3c ra Lb rc)]).fp, Z0 b2 34 (Z46), Z0 b14 34 (Z4O rp ep tm ca D.length cc), (Z24 ca D cc)] [9] 10 rfl (by kernel_rfl) (fun Hx => (Hx.pk [0, 1, 2, 5, 6, 7, 8])) ?_
 intro w74 H75 S76
 refine zkp 0 S76 74 (pt r 0) ?_
 refine zkp 1 S76 75 (pt t 0) ?_
 refine zkp 2 S76 76 (pt t 0) ?_
 refine zkp 3 S76 77 (pt t 2) ?_
 refine zkv 4 S76 78 (.int .i64 (rp)) ?_ (he := fun _ H' => (Z2 rfl (by kernel_rfl) (H'.cell 0 rfl rfl)))
 refine zkv 5 S76 79 (.agg ⟨(Z4O rp ep tm ca D.length cc)⟩) ?_ (he := fun _ H' => (Zc (vs := (Z4O rp ep tm ca D.length cc)) rfl (by kernel_rfl) (by kernel_rfl) (by exact Nat.le_of_ble_eq_true (by kernel_rfl)) (H'.at 5 rfl) (by kernel_rfl)))
 refine Z3p 6 fun Kq kq => ?_
 refine zdc 80 (Z1l w74 (⟨rp, ep, tm, ca, cc, 0, 0, D⟩ : PrR) (ListAt.row ZZ (by decide) (H75.at 8 rfl)) (fun i hi => ((hcT _ (Z3Q (L := L) (last := last) (tm := tm) (by rw [← hDf]; exact Z1r hi))).cb (H75.at 2 rfl)).big) hDl ⟨by show rp ≤ _; omega, by show ep ≤ _; omega, by show 0 ≤ tm; omega, by show tm < _; omega⟩) ?_
 rintro _ w78 ⟨u79, rfl, k80, p81, q82⟩
 have H83 := H75.addU p81 k80 q82
 obtain ⟨a84, c85, rfl⟩ := Z1 (H83.at 9 rfl)
 refine ⟨_, rfl, ?_⟩
 have hpl := Z7C (p := (⟨rp, ep, tm, ca, cc, 0, 0, D⟩ : PrR)) (fun c hm => Nat.le_trans (hcT _ (Z3Q (L := L) (last := last) (tm := tm) (by rw [← hDf]; exact hm))).len (by decide)) hDl
 have S86 := H83.pk [0, 1, 2, 5, 6, 7, 8]
 refine kq _ _ S86 ?_
 clear kq Kq
 refine Z3p 7 fun Kq kq => ?_
 refine zdc 81 (Z26 w78 r ra rc Lb (.slice a84 ((ZB (⟨rp, ep, tm, ca, cc, 0, 0, D⟩ : PrR)).length) c85) (ZB (⟨rp, ep, tm, ca, cc, 0, 0, D⟩ : PrR)) (H83.fn [3, 4, 9]) (by omega) hnb rp) ?_
 rintro _ w88 ⟨a90, c91, rfl, T89⟩
 have H92 := H83.tl [Z0 r 98 (Z5C a90 ((Zk Lb (⟨rp, (ZB (⟨rp, ep, tm, ca, cc, 0, 0, D⟩ : PrR))⟩ : Signed)).length) c91), (Z3c a90 (Zk Lb (⟨rp, (ZB (⟨rp, ep, tm, ca, cc, 0, 0, D⟩ : PrR))⟩ : Signed)) c91), (Zcn a84 (ZB (⟨rp, ep, tm, ca, cc, 0, 0, D⟩ : PrR)) c85)] [3, 4, 9] [0, 1, 2, 5, 6, 7, 8] T89 [3, 4, 5, 0, 1, 6, 7, 8, 9, 2]
 refine ⟨_, rfl, ?_⟩
 have S93 := H92.pk [0, 1, 2, 5, 6, 7, 8]
 refine kq _ _ S93 ?_
 clear kq Kq
 refine zkp 8 S93 82 (pt b14 4) ?_
 refine Z30 9 (Sat w [Z0 t 45 (Z5B F Cn rp la L.length lc), (Z24 la L lc), Z0o B, Z6 w (Z0c [Z0 t 45 [.int .i64 F, .int .i64 Cn, .int .i64 rp, .slice la (L).length lc], (Z24 la L lc), Z0o B, Z0 r 98 [.slice ra (Lb).length rc], (Z3c ra Lb rc)]).fp, Z0 b2 34 (Z46), (Z24 ca D cc)]) rfl (by kernel_rfl) (Zs rfl) rfl (fun Kq kq => ?_)
 refine zds ([(.int .i64 (rp)), (.int .i64 (Zu (Zk Lb (⟨rp, (ZB (⟨rp, ep, tm, ca, cc, 0, 0, D⟩ : PrR))⟩ : Signed)) (⟨rp, (ZB (⟨rp, ep, tm, ca, cc, 0, 0, D⟩ : PrR))⟩ : Signed)))] : List Value) (Z6R rp ep tm ca D.length cc (Zu (Zk Lb (⟨rp, (ZB (⟨rp, ep, tm, ca, cc, 0, 0, D⟩ : PrR))⟩ : Signed)) (⟨rp, (ZB (⟨rp, ep, tm, ca, cc, 0, 0, D⟩ : PrR))⟩ : Signed))) H92 7 ?_
 intro w95 H96
 have S98 := H96.pk [0, 1, 2, 5, 6, 8]
 refine kq _ _ S98 ?_
 clear kq Kq
 refine zhf ?_
 apply ztn
 apply zsl
 refine zwN 83 (Z6R rp ep tm ca D.length cc (Zu (Zk Lb (⟨rp, (ZB (⟨rp, ep, tm, ca, cc, 0, 0, D⟩ : PrR))⟩ : Signed)) (⟨rp, (ZB (⟨rp, ep, tm, ca, cc, 0, 0, D⟩ : PrR))⟩ : Signed))) (H96.at 7 rfl) ?_
 refine zwd fun Kq kq => ?_
 refine Z2k (Z6R rp ep tm ca D.length cc (Zu (Zk Lb (⟨rp, (ZB (⟨rp, ep, tm, ca, cc, 0, 0, D⟩ : PrR))⟩ : Signed)) (⟨rp, (ZB (⟨rp, ep, tm, ca, cc, 0, 0, D⟩ : PrR))⟩ : Signed))) H96 6 ?_
 intro w100 H101
 refine kq _ _ ?_
 clear kq Kq
 refine wv 11 (.int .i64 (0)) ?_
 apply znt
 apply ZA
 refine Z9g rfl (Z0i (vs := (Z6R rp ep tm ca D.length cc (Zu (Zk Lb (⟨rp, (ZB (⟨rp, ep, tm, ca, cc, 0, 0, D⟩ : PrR))⟩ : Signed)) (⟨rp, (ZB (⟨rp, ep, tm, ca, cc, 0, 0, D⟩ : PrR))⟩ : Signed)))) rfl (by kernel_rfl) (by kernel_rfl) (by exact Nat.le_of_ble_eq_true (by kernel_rfl)) (H101.at 6 rfl) (by kernel_rfl)) (Z1m (v := (.int .i64 (0))) rfl) ?_
 subst hDf
 exact ⟨ca, cc, a90, c91, rfl, H101.pk [0, 1, 2, 3, 4, 8, 5]⟩
abbrev Zco (p0 : Nat) : List Value := ([(.int .i64 (1)), (.int .i64 (1)), (.int .i64 (0)), (.map (some p0))] : List Value)
abbrev Zcp (p0 : Option Addr) (p1 : List CeR) (p2 : Nat) : Ck := ZH 53 38 (.slice p0 p1.length p2) p1.length (p1.flatMap Z0h)
abbrev Z8i (p0 : Option Addr) (p1 : Nat) (p2 : Nat) (p3 : Int) : List Value := ([(.int .i64 (0)), (.int .i64 (0)), (.int .u64 (5)), (.slice p0 p1 p2), (.int .i64 (0)), (.int .i64 p3)] : List Value)
abbrev Zcq : List Value := ([(.int .i64 (0)), (.int .i64 (0)), (.int .u64 (0)), (.slice none 0 0), (.int .i64 (0)), (.int .i64 (0))] : List Value)
theorem Z8k (w : World) (F Cn rp : Int) (hF : -1099511627776 ≤ F ∧ F ≤ 1099511627776) (hok : (Z2S F Cn && inB F rp) = true) :
  Calls Tryz.prog 22 #[.agg ⟨[.int .i64 F, .int .i64 Cn]⟩, .int .i64 rp] w fun e w' => ∃ t tm, e = .returned (.tuple #[.pointer (some ⟨t, 0, none⟩), .int .i64 0]) ∧ (Z0c [Z0 t 121 [.int .i64 F, .int .i64 Cn, .int .i64 rp, .map (some tm)], Z3d tm nmV ceV []]).ok w' ∧ Upd [] w w' ∧ ∀ b, (Z0c [Z0 t 121 [.int .i64 F, .int .i64 Cn, .int .i64 rp, .map (some tm)], Z3d tm nmV ceV []]).fp b → w.heap.size ≤ b :=
 (Zar w F Cn rp hF).mono fun e w' q => by
  rcases q with ⟨_, h2, _⟩ | ⟨t, tm, he, _, hT⟩
  ·rw [hok] at h2; cases h2
  exact ⟨t, tm, he, hT.fn [0, 1], hT.upd 2 rfl [] (fun _ h => h.elim), hT.freshS 2 rfl (fun _ h => h) [0, 1] rfl rfl⟩
theorem Z8C (w : World) :
  Calls Tryz.prog 21 #[] w fun e w' => e = .returned (.bool true) ∧ Upd [] w w' := by
 have H := Sat.start0 w
 refine Zp Tryz.func21 rfl 47 rfl (Nat.le_of_ble_eq_true rfl) ?_
 apply zsl
 refine wv 0 (.bool false) ?_
 apply Z1y
 refine wv 7 (.agg ⟨([(.int .i64 (1)), (.int .i64 (1))] : List Value)⟩) ?_
 refine zwd fun Kq kq => ?_
 refine zdc 8 (Z8k w 1 1 0 (by omega) (by decide)) ?_
 rintro _ w2 ⟨t3, m4, rfl, k5, u6, q7⟩
 have H8 := H.addU u6 k5 q7
 have H9 := H8.open 1 rfl
 refine ⟨_, rfl, ?_⟩
 refine kq _ _ ?_
 clear kq Kq
 refine wv 6 (.tuple #[(pt t3 0), (.int .i64 (0))]) ?_
 refine wv 9 (pt t3 0) ?_
 refine wv 10 (.int .i64 (0)) ?_
 refine wv 1 (pt t3 0) ?_
 refine wv 2 (.int .i64 (0)) ?_
 apply Z1y
 refine zwd fun Kq kq => ?_
 refine zdc 11 (Z8X w2) ?_
 rintro _ w11 ⟨b12, m13, rfl, k14, p15, q16⟩
 have H17 := H9.addU p15 k14 q16
 have H18 := H17.open 3 rfl
 refine ⟨_, rfl, ?_⟩
 refine kq _ _ ?_
 clear kq Kq
 refine wv 3 (pt b12 0) ?_
 apply znt
 apply Zt
 apply zsl
 refine wv 12 (.int .i64 (0)) ?_
 refine wv 13 (.bool false) ?_
 refine wv 14 (.bool false) ?_
 refine wy 2 14 false 15 (pt t3 0) ?_
 refine wy 2 14 false 16 (.bool false) ?_
 refine wv 17 (.bool false) ?_
 refine wv 18 (.bool false) ?_
 refine wy 6 18 false 19 (pt b12 0) ?_
 refine wy 6 18 false 20 (.bool false) ?_
 refine wv 21 (.bool false) ?_
 apply znt
 refine Z3m rfl ?_
 apply ZL
 apply ztn
 apply Zt
 have H19 := H18.bag0
 apply ZU
 refine wv 23 (pt t3 0) ?_
 refine wv 24 (pt b12 0) ?_
 refine zwd fun Kq kq => ?_
 refine zdc 25 (Z6V w11 t3 m4 1 1 0 ([]) [] b12 m13 ([]) (H19.fn [1, 2, 5, 3, 4]) (fun q hq => absurd hq List.not_mem_nil) (Nat.zero_le _) (by omega) List.nodup_nil (Nat.zero_le _) 0 0 5 (by omega) (by omega)) ?_
 rintro _ wp21 ⟨ca21, cc21, HL21, Bh21, ss21, rfl, hs21, hsp21, hco21, hcD21, hT21⟩
 have H22 := H19.tl [Z0 t3 121 (Zco m4), Z3d m4 nmV ceV [], Z0o [], Z0 b12 110 ([(.map (some m13))] : List Value), Z3d m13 Z0e (Value.int .i64) (Z04 (Zk ([]) (⟨0, ZB (⟨0, 0, 5, ca21, cc21, 0, 0, (Z05 HL21 0 5)⟩ : PrR)⟩ : Signed))), (Zcp ca21 (Z05 HL21 0 5) cc21), Z0o Bh21] [1, 2, 5, 3, 4] [0] hT21 [7, 0, 1, 3, 4, 2, 5, 6]
 refine ⟨_, rfl, ?_⟩
 have hl0 : HL21.length = 0 := by have q1 := Z8b hco21; have q2 := hs21.length_eq; rw [List.length_map] at q2; rw [q1, q2]; rfl
 have hl1 : (Z05 HL21 0 5).length = 0 := by have q := Z5k (L := HL21) (last := 0) (tm := 5); omega
 have hm1 : Zu (Zk ([]) (⟨0, ZB (⟨0, 0, 5, ca21, cc21, 0, 0, (Z05 HL21 0 5)⟩ : PrR)⟩ : Signed)) (⟨0, ZB (⟨0, 0, 5, ca21, cc21, 0, 0, (Z05 HL21 0 5)⟩ : PrR)⟩ : Signed) = 1 := by simp [Zu, Zk]
 refine kq _ _ ?_
 clear kq Kq
 refine wv 22 (.tuple #[(.agg ⟨(Z8i ca21 ((Z05 HL21 0 5).length) cc21 (Zu (Zk ([]) (⟨0, ZB (⟨0, 0, 5, ca21, cc21, 0, 0, (Z05 HL21 0 5)⟩ : PrR)⟩ : Signed)) (⟨0, ZB (⟨0, 0, 5, ca21, cc21, 0, 0, (Z05 HL21 0 5)⟩ : PrR)⟩ : Signed)))⟩), (.int .i64 (0))]) ?_
 refine wv 26 (.agg ⟨(Z8i ca21 ((Z05 HL21 0 5).length) cc21 (Zu (Zk ([]) (⟨0, ZB (⟨0, 0, 5, ca21, cc21, 0, 0, (Z05 HL21 0 5)⟩ : PrR)⟩ : Signed)) (⟨0, ZB (⟨0, 0, 5, ca21, cc21, 0, 0, (Z05 HL21 0 5)⟩ : PrR)⟩ : Signed)))⟩) ?_
 refine wv 27 (.int .i64 (0)) ?_
 refine zwd fun Kq kq => ?_
 refine zda (Zcq) H22 ?_
 intro b24 w25 H26
 refine kq _ _ ?_
 clear kq Kq
 refine zwd fun Kq kq => ?_
 refine Z2k (Z8i ca21 ((Z05 HL21 0 5).length) cc21 (Zu (Zk ([]) (⟨0, ZB (⟨0, 0, 5, ca21, cc21, 0, 0, (Z05 HL21 0 5)⟩ : PrR)⟩ : Signed)) (⟨0, ZB (⟨0, 0, 5, ca21, cc21, 0, 0, (Z05 HL21 0 5)⟩ : PrR)⟩ : Signed))) H26 8 ?_
 intro w28 H29
 refine kq _ _ ?_
 clear kq Kq
 refine wv 5 (.int .i64 (0)) ?_
 apply Z1y
 refine wv 28 (.int .i64 (0)) ?_
 refine wv 29 (.bool true) ?_
 refine wv 30 (.bool true) ?_
 refine wy 2 30 true 31 (pt b24 3) ?_
 refine wy 2 30 true 32 (.slice ca21 ((Z05 HL21 0 5).length) cc21) ?_ (hr := Z2 rfl (by kernel_rfl) (H29.cell 8 rfl rfl))
 refine wy 2 30 true 33 (.int .i64 (((Z05 HL21 0 5).length : Int))) ?_
 refine wy 2 30 true 34 (.bool (decide (((Z05 HL21 0 5).length : Int) = 0))) ?_
 refine wv 35 (.bool (decide (((Z05 HL21 0 5).length : Int) = 0))) ?_
 refine wv 36 (.bool (decide (((Z05 HL21 0 5).length : Int) = 0))) ?_
 have b31 : (decide (((Z05 HL21 0 5).length : Int) = 0)) = true := by exact decide_eq_true (by omega)
 refine ZI 36 (.bool true) (congrArg Value.bool b31) ?_
 have g32 := of_decide_eq_true b31
 refine wy 8 36 true 37 (pt b24 2) ?_
 refine wy 8 36 true 38 (.int .u64 (5)) ?_ (hr := Z2 rfl (by kernel_rfl) (H29.cell 8 rfl rfl))
 refine wy 8 36 true 39 (.bool true) ?_
 refine wv 40 (.bool true) ?_
 refine wv 41 (.bool true) ?_
 refine wy 13 41 true 42 (pt b24 4) ?_
 refine wy 13 41 true 43 (pt b24 5) ?_
 refine wy 13 41 true 44 (.int .i64 (Zu (Zk ([]) (⟨0, ZB (⟨0, 0, 5, ca21, cc21, 0, 0, (Z05 HL21 0 5)⟩ : PrR)⟩ : Signed)) (⟨0, ZB (⟨0, 0, 5, ca21, cc21, 0, 0, (Z05 HL21 0 5)⟩ : PrR)⟩ : Signed))) ?_ (hr := Z2 rfl (by kernel_rfl) (H29.cell 8 rfl rfl))
 refine wy 13 41 true 45 (.bool (decide ((Zu (Zk ([]) (⟨0, ZB (⟨0, 0, 5, ca21, cc21, 0, 0, (Z05 HL21 0 5)⟩ : PrR)⟩ : Signed)) (⟨0, ZB (⟨0, 0, 5, ca21, cc21, 0, 0, (Z05 HL21 0 5)⟩ : PrR)⟩ : Signed)) = 1))) ?_
 refine wv 46 (.bool (decide ((Zu (Zk ([]) (⟨0, ZB (⟨0, 0, 5, ca21, cc21, 0, 0, (Z05 HL21 0 5)⟩ : PrR)⟩ : Signed)) (⟨0, ZB (⟨0, 0, 5, ca21, cc21, 0, 0, (Z05 HL21 0 5)⟩ : PrR)⟩ : Signed)) = 1))) ?_
 refine wv 0 (.bool (decide ((Zu (Zk ([]) (⟨0, ZB (⟨0, 0, 5, ca21, cc21, 0, 0, (Z05 HL21 0 5)⟩ : PrR)⟩ : Signed)) (⟨0, ZB (⟨0, 0, 5, ca21, cc21, 0, 0, (Z05 HL21 0 5)⟩ : PrR)⟩ : Signed)) = 1))) ?_
 apply znt
 apply ZA
 refine ze1 (.bool (decide ((Zu (Zk ([]) (⟨0, ZB (⟨0, 0, 5, ca21, cc21, 0, 0, (Z05 HL21 0 5)⟩ : PrR)⟩ : Signed)) (⟨0, ZB (⟨0, 0, 5, ca21, cc21, 0, 0, (Z05 HL21 0 5)⟩ : PrR)⟩ : Signed)) = 1))) ?_
 exact ⟨by rw [decide_eq_true hm1], H29.upd 0 rfl [] (fun _ h => h.elim)⟩
section
variable {P : Program} {n : Nat} {f : Nat → Value} {w : World}
end
theorem Za5 {AL : List Zc9} {i : Nat} (h : i < AL.length) : AL.getD i ac0 ∈ AL := by
 rw [List.getD_eq_getElem?_getD, List.getElem?_eq_getElem h]; exact List.getElem_mem h
theorem Z4J {D : List Z5} {i : Nat} (h : i < D.length) : D.getD i Z9 ∈ D := by
 rw [List.getD_eq_getElem?_getD, List.getElem?_eq_getElem h]; exact List.getElem_mem h
def RiseS (x : Zg) (fr : Int) (L : List Signed) (D : List Z5) : Prop := ∀ (k : Nat) (s : Z5), D[k]? = some s → Z9a L s ∧ s.r = fr + (k : Int) ∧ Z1Z s x = true ∧ 1 ≤ s.t ∧ s.t ≤ 1000
section
variable {x : Zg} {fr t f cn : Int} {L : List Signed} {D : List Z5} {i : Nat}
theorem RiseS.nil : RiseS x fr L [] := fun k s h => by simp at h
theorem RiseS.keep (h : RiseS x fr L D) (y : Signed) : RiseS x fr (Zk L y) D := fun k s hs => (h k s hs).imp (fun g => Z2X g y) id
theorem RiseS.step (h : RiseS x fr L D) (hl : D.length = i) (ht : 1 ≤ t ∧ t ≤ 1000) : RiseS x fr (Zk L (yS (fr + (i : Int)) x t)) (D ++ [mkS L (fr + (i : Int)) x t]) := fun k s hs => by
 rcases Nat.lt_or_ge k D.length with q | q
 ·rw [List.getElem?_append_left q] at hs
  exact h.keep _ k s hs
 ·rw [List.getElem?_append_right q] at hs
  have hk : k = i := by
   by_cases e : k - D.length = 0
   ·omega
   ·rw [List.getElem?_eq_none (by simp only [List.length_cons, List.length_nil]; omega)] at hs; cases hs
  subst hk
  rw [hl, Nat.sub_self] at hs
  obtain rfl := Option.some.inj hs
  exact ⟨Z4o L _ x t, rfl, Z7I L _ x t, ht.1, ht.2⟩
end
def SgT (n : Int) (L L1 : List Signed) : Prop := ∀ s ∈ L1, s ∈ L ∨ (0 ≤ s.p ∧ s.p < n)
def SgOk (L : List Signed) : Prop := ∀ s ∈ L, (0 ≤ s.p ∧ s.p < 4) ∨ (1000 ≤ s.p ∧ s.p < 1003)
section
variable {n q t f cn : Int} {L L1 : List Signed} {x : Zg} {S : List Z5}
theorem Z6r {y s : Signed} (h : s ∈ Zk L y) : s ∈ L ∨ s = y := by
 unfold Zk at h
 split at h
 ·exact .inl h
 ·rcases List.mem_append.1 h with h | h
  ·exact .inl h
  ·exact .inr (List.mem_singleton.1 h)
theorem SgT.nil : SgT n L L := fun _ h => .inl h
theorem SgT.step (h : SgT n L L1) (hq : 0 ≤ q ∧ q < n) : SgT n L (Zk L1 (yS q x t)) := fun s hs => by
 rcases Z6r hs with h1 | rfl
 ·exact h s h1
 ·exact .inr hq
theorem SgOk.nil : SgOk [] := fun _ h => by cases h
theorem SgOk.of (h : SgOk L) (ht : SgT 4 L L1) : SgOk L1 := fun s hs => (ht s hs).elim (h s) .inl
theorem SgOk.sign (h : SgOk L) {y : Signed} (hy : (0 ≤ y.p ∧ y.p < 4) ∨ (1000 ≤ y.p ∧ y.p < 1003)) : SgOk (Zk L y) := fun s hs => by
 rcases Z6r hs with h1 | rfl
 ·exact h s h1
 ·exact hy
theorem Z9t {p m : Int} {s : List UInt8} (h : Z0p L p m s = true) : (⟨p, s⟩ : Signed) ∈ L := by
 unfold Z0p at h
 rw [decide_eq_true_eq] at h
 rcases Decidable.em ((⟨p, s⟩ : Signed) ∈ L) with q | q
 ·exact q
 ·have : Zu L ⟨p, s⟩ = 0 := by unfold Zu; rw [List.idxOf?_eq_none_iff.2 q]; rfl
  omega
theorem Z7H (h : SgOk L) (hr : Z06 f cn L x S = true) : S.length ≤ 12 := by
 unfold Z06 at hr
 rw [Bool.and_eq_true] at hr
 have hok : ∀ i, i < S.length → Z2P f L x S i = true := fun i hi => List.all_eq_true.1 hr.2 i (List.mem_range.2 hi)
 have hs : ∀ i, i < S.length → (0 ≤ (S.getD i Z9).r ∧ (S.getD i Z9).r < 4) ∨ (1000 ≤ (S.getD i Z9).r ∧ (S.getD i Z9).r < 1003) := fun i hi => by
  have q := hok i hi
  unfold Z2P Z0Y at q
  simp only [Bool.and_eq_true, decide_eq_true_eq] at q
  have q2 := h _ (Z9t q.2.2)
  have q3 := q.2.1.2
  simp only [q3] at q2
  exact q2
 have hlt : ∀ i, i + 1 < S.length → (S.getD i Z9).r < (S.getD (i + 1) Z9).r := fun i hi => by
  have q := hok (i + 1) hi
  unfold Z2P at q
  simp only [Bool.and_eq_true, Bool.or_eq_true, Bool.not_eq_true', decide_eq_false_iff_not, Nat.add_sub_cancel] at q
  rcases q.1.1 with q | q
  ·omega
  ·omega
 have hi : ∀ i, i < S.length → ((S.getD i Z9).r < 4 → (i : Int) ≤ (S.getD i Z9).r) ∧ (1000 ≤ (S.getD i Z9).r → (i : Int) ≤ (S.getD i Z9).r - 996) := by
  intro i
  induction i with
  | zero => intro h0; have := hs 0 h0; omega
  | succ i ih =>
   intro h1
   have q1 := ih (by omega); have q2 := hs i (by omega); have q3 := hs (i + 1) h1; have q4 := hlt i h1
   omega
 rcases Nat.lt_or_ge 12 S.length with g | g
 ·have q1 := hi 12 g; have q2 := hs 12 g; omega
 ·exact g
end
end Go.Proofs.YtoaifondpohniaaGreat
