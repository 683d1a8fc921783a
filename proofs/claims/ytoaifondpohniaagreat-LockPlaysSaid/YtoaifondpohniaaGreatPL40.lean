/- WHAT IS PROVED: contracts and plain laws of TabP. Conditions: stated with each. -/
import Derived.Test.YtoaifondpohniaaGreatPL04
import Derived.Test.YtoaifondpohniaaGreatPL26
import Derived.Test.YtoaifondpohniaaGreatPL37
set_option maxHeartbeats 4000000
set_option maxRecDepth 100000
namespace Go.Proofs.YtoaifondpohniaaGreat
open Go.RowKit
abbrev Z5I (p0 : Int) (p1 : Int) (p2 : Int) (p3 : Option Addr) (p4 : Nat) (p5 : Nat) : List Value := ([(.int .i64 p0), (.int .i64 p1), (.int .i64 p2), (.slice p3 p4 p5)] : List Value)
abbrev Z2g (p0 : Option Addr) (p1 : List CeR) (p2 : Nat) : Ck := Zk 53 38 (.slice p0 p1.length p2) p1.length (p1.flatMap Z03)
abbrev Z5J (p0 : Option Addr) (p1 : Nat) (p2 : Nat) : List Value := ([(.slice p0 p1 p2)] : List Value)
abbrev Z3i (p0 : Option Addr) (p1 : List Signed) (p2 : Nat) : Ck := Zk 114 2 (.slice p0 p1.length p2) p1.length (p1.flatMap Z1N)
abbrev Z4h : List Value := ([(.int .i64 (0)), (.int .i64 (0)), (.int .u64 (0)), (.slice none 0 0), (.int .i64 (0)), (.int .i64 (0))] : List Value)
abbrev ZaB (p0 : Int) (p1 : Int) (p2 : Int) : List Value := ([(.int .i64 p0), (.int .i64 p1), (.int .u64 p2), (.slice none 0 0), (.int .i64 (0)), (.int .i64 (0))] : List Value)
abbrev Z4N (p0 : Int) (p1 : Int) (p2 : Int) (p3 : Option Addr) (p4 : Nat) (p5 : Nat) : List Value := ([(.int .i64 p0), (.int .i64 p1), (.int .u64 p2), (.slice p3 p4 p5), (.int .i64 (0)), (.int .i64 (0))] : List Value)
abbrev Z4i (p0 : CeR) : List Value := ([(.int .i64 p0.x.cl), (.int .i64 p0.x.seq)] : List Value) ++ hc p0.x.h ++ ([(.int .i64 p0.x.len), (.int .i64 p0.x.sb), (.int .i64 p0.x.sm), (.slice p0.sa p0.S.length p0.sc)] : List Value)
abbrev ZcA (p0 : Option Addr) (p1 : List UInt8) (p2 : Nat) : Ck := Zk 5 1 (.slice p0 p1.length p2) p1.length (p1.flatMap ZE)
abbrev Z72 (p0 : Int) (p1 : Int) (p2 : Int) (p3 : Option Addr) (p4 : Nat) (p5 : Nat) (p6 : Int) : List Value := ([(.int .i64 p0), (.int .i64 p1), (.int .u64 p2), (.slice p3 p4 p5), (.int .i64 p0), (.int .i64 p6)] : List Value)
theorem Z7Q (w : World) (t : Nat) (F Cn rp : Int) (la : Option Addr) (lc : Nat) (L : List CeR) (B : List Ck) (r : Nat) (ra : Option Addr) (rc : Nat) (Lb : List Signed) (hA : (ZL [Z0 t 45 [.int .i64 F, .int .i64 Cn, .int .i64 rp, .slice la (L).length lc], Zk 53 38 (.slice la (L).length lc) (L).length ((L).flatMap Z03), ZY B, Z0 r 98 [.slice ra (Lb).length rc], Zk 114 2 (.slice ra (Lb).length rc) (Lb).length ((Lb).flatMap Z1N)]).ok w) (hlL : L.length ≤ 64) (hcT : ∀ c ∈ L, CeT B c) (hrp : 0 ≤ rp ∧ rp ≤ 1000000) (hnb : Lb.Nodup) (hlb : Lb.length ≤ 100000) (ep last tm : Int) (hep : 0 ≤ ep ∧ ep ≤ 1048576) (htm : 0 ≤ last ∧ last < tm ∧ tm < 18446744073709551615) :
  Calls Tryz.prog 14 #[(.pointer (some ⟨t, 0, none⟩)), (.pointer (some ⟨r, 0, none⟩)), (.int .i64 (ep)), (.int .u64 (last)), (.int .u64 (tm))] w fun e w' => ∃ ca cc ra' rc', e = .returned (.tuple #[.agg ⟨Z9u ⟨rp, ep, tm, ca, cc, rp, ZB (Zp Lb (⟨rp, Z0f (⟨rp, ep, tm, ca, cc, 0, 0, (Z0a L last tm)⟩ : PrR)⟩ : Signed)) (⟨rp, Z0f (⟨rp, ep, tm, ca, cc, 0, 0, (Z0a L last tm)⟩ : PrR)⟩ : Signed), (Z0a L last tm)⟩⟩, (.int .i64 (0))]) ∧ Sat w [Z0 t 45 [.int .i64 F, .int .i64 Cn, .int .i64 rp, .slice la (L).length lc], Zk 53 38 (.slice la (L).length lc) (L).length ((L).flatMap Z03), ZY B, Z0 r 98 [.slice ra' (Zp Lb (⟨rp, Z0f (⟨rp, ep, tm, ca, cc, 0, 0, (Z0a L last tm)⟩ : PrR)⟩ : Signed)).length rc'], Zk 114 2 (.slice ra' (Zp Lb (⟨rp, Z0f (⟨rp, ep, tm, ca, cc, 0, 0, (Z0a L last tm)⟩ : PrR)⟩ : Signed)).length rc') (Zp Lb (⟨rp, Z0f (⟨rp, ep, tm, ca, cc, 0, 0, (Z0a L last tm)⟩ : PrR)⟩ : Signed)).length ((Zp Lb (⟨rp, Z0f (⟨rp, ep, tm, ca, cc, 0, 0, (Z0a L last tm)⟩ : PrR)⟩ : Signed)).flatMap Z1N), Zk 53 38 (.slice ca (Z0a L last tm).length cc) (Z0a L last tm).length ((Z0a L last tm).flatMap Z03), Z7 w (ZL [Z0 t 45 [.int .i64 F, .int .i64 Cn, .int .i64 rp, .slice la (L).length lc], Zk 53 38 (.slice la (L).length lc) (L).length ((L).flatMap Z03), ZY B, Z0 r 98 [.slice ra (Lb).length rc], Zk 114 2 (.slice ra (Lb).length rc) (Lb).length ((Lb).flatMap Z1N)]).fp] w' := by
 have H := Sat.start0 w
 have H := Sat.start _ hA
 refine Zh Tryz.func14 rfl 84 rfl (Nat.le_of_ble_eq_true rfl) ?_
 apply zsl
 refine zwd fun Kq kq => ?_
 refine zda (Z4h) H ?_
 intro b2 w3 H4
 refine kq _ _ ?_
 clear kq Kq
 refine wv 11 (.int .i64 (0)) ?_
 apply znt
 apply Zd
 apply zsl
 refine wv 15 (.int .i64 (ep)) ?_
 refine wv 16 (.bool (decide (ep < 0))) ?_
 refine wv 17 (.bool (decide (ep < 0))) ?_
 have b5 : (decide (ep < 0)) = false := by exact decide_eq_false (by omega)
 refine ZJ 17 (.bool false) (congrArg Value.bool b5) ?_
 have g6 := of_decide_eq_false b5
 refine wy 2 17 false 18 (.int .i64 (ep)) ?_
 refine wy 2 17 false 19 (.bool (decide (ep > 1048576))) ?_
 refine wv 20 (.bool (decide (ep > 1048576))) ?_
 apply znt
 have b7 : (decide (ep > 1048576)) = false := by exact decide_eq_false (by omega)
 have g8 := of_decide_eq_false b7
 refine Z1w _ b7 ?_
 apply ZW
 apply ztn
 apply Zd
 apply zsl
 refine wv 22 (.int .u64 (tm)) ?_
 refine wv 23 (.int .u64 (last)) ?_
 refine wv 24 (.bool (decide (tm ≤ last))) ?_
 refine wv 25 (.bool (decide (tm ≤ last))) ?_
 have b9 : (decide (tm ≤ last)) = false := by exact decide_eq_false (by omega)
 refine ZJ 25 (.bool false) (congrArg Value.bool b9) ?_
 have g10 := of_decide_eq_false b9
 refine wy 3 25 false 26 (.int .u64 (tm)) ?_
 refine wy 3 25 false 27 (.bool (decide (tm = 18446744073709551615))) ?_
 refine wv 28 (.bool (decide (tm = 18446744073709551615))) ?_
 apply znt
 have b11 : (decide (tm = 18446744073709551615)) = false := by exact decide_eq_false (by omega)
 have g12 := of_decide_eq_false b11
 refine Z1w _ b11 ?_
 apply ZW
 apply ztn
 apply zsl
 refine wv 30 (pt t 0) ?_
 refine wv 31 (pt t 0) ?_
 refine wv 32 (pt t 2) ?_
 refine zw1 33 (.int .i64 (rp)) (H4.cell 0 rfl rfl) ?_
 refine wv 34 (.int .i64 (ep)) ?_
 refine wv 35 (.int .u64 (tm)) ?_
 refine wv 36 (.agg ⟨(ZaB rp ep tm)⟩) ?_
 refine zwd fun Kq kq => ?_
 refine zda (Z4h) H4 ?_
 intro b14 w15 H16
 refine kq _ _ ?_
 clear kq Kq
 refine zwd fun Kq kq => ?_
 refine Z1F (ZaB rp ep tm) H16 7 ?_
 intro w18 H19
 refine kq _ _ ?_
 clear kq Kq
 apply znt
 apply Zd
 apply zsl
 refine wv 37 (pt t 0) ?_
 refine wv 38 (pt t 0) ?_
 refine wv 39 (pt t 3) ?_
 refine zw1 40 (.slice la L.length lc) (H19.cell 0 rfl rfl) ?_
 refine wv 41 (.int .i64 ((L.length : Int))) ?_
 refine wv 42 (.int .i64 (0)) ?_
 apply znt
 apply ZM
 have H21 := H19.addNil 53 38
 refine Z0b ([13, 14] ++ List.range' 42 32) (fun F_ W_ m_ => ∃ (i : Nat) (ca : Option Addr) (cc : Nat) (D : List CeR), F_ 42 = (.int .i64 ((i : Int))) ∧ (i ≤ L.length) ∧ (D = Z0a (L.take i) last tm) ∧ Sat w [Z0 t 45 (Z5I F Cn rp la L.length lc), (Z2g la L lc), ZY B, Z0 r 98 (Z5J ra Lb.length rc), (Z3i ra Lb rc), Z7 w (ZL [Z0 t 45 [.int .i64 F, .int .i64 Cn, .int .i64 rp, .slice la (L).length lc], (Z2g la L lc), ZY B, Z0 r 98 [.slice ra (Lb).length rc], (Z3i ra Lb rc)]).fp, Z0 b2 34 (Z4h), Z0 b14 34 (Z4N rp ep tm ca D.length cc), (Z2g ca D cc)] W_ ∧ m_ = L.length - i) _ ⟨0, none, 0, [], (show ((.int .i64 (0)) : Value) = _ by first | rfl | go_num), (Nat.zero_le _), rfl, H21, rfl⟩ ?_
 rintro g22 w23 _ ⟨i, ca, cc, D, v25, hi, hD, H24, rfl⟩
 refine Zl 42 _ v25 ?_
 have hDl : D.length ≤ 64 := by rw [hD]; have q := Z7c (L := L.take i) (last := last) (tm := tm); rw [List.length_take] at q; omega
 apply zsl
 refine wv 43 (.bool (decide ((i : Int) < (L.length : Int)))) ?_
 apply znt
 apply Zd
 refine (Zr (decide ((i : Int) < (L.length : Int)))).elim (fun b27 => ?_) (fun b27 => ?_)
 ·have g28 := of_decide_eq_true b27
  refine Z1V _ b27 ?_
  apply ZW
  apply ztn
  apply Zd
  apply ZM
  apply zsl
  refine wv 44 (.int .i64 ((i : Int))) ?_
  refine wv 13 (.int .i64 ((i : Int))) ?_
  apply Z2Q
  refine wv 45 (pt t 0) ?_
  refine wv 46 (pt t 0) ?_
  refine wv 47 (pt t 3) ?_
  refine zw1 48 (.slice la L.length lc) (H24.cell 0 rfl rfl) ?_
  refine wv 49 (.int .i64 ((i : Int))) ?_
  obtain ⟨g30, c31, e32⟩ := Z1D (H24.at 1 rfl) (by omega)
  obtain ⟨x33, h34⟩ := Z3E (show i < L.length by omega)
  refine wv 50 (.pointer (some ⟨g30, 0 + ((i : Int)).toNat * 38, none⟩)) ?_ (hr := Z0r (E := 53) (by kernel_rfl) (by kernel_rfl) (Nat.le_of_ble_eq_true rfl) rfl e32 rfl (by omega) (by omega))
  refine wv 51 (.agg ⟨(Z4i x33)⟩) ?_ (hr := Z0k (vs := (Z4i x33)) rfl (by kernel_rfl) (by kernel_rfl) (Nat.le_of_ble_eq_true (by kernel_rfl)) (Z2u (H24.at 1 rfl) e32 Z0l h34 0 (show 0 + ((i : Int)).toNat * 38 = i * 38 + 0 by omega) (by kernel_rfl) (by kernel_rfl)))
  refine zwd fun Kq kq => ?_
  refine zdq 52 (Z39 w23 x33.x x33.sa x33.sc x33.S (Z21 (c := x33) (H24.at 2 rfl) (hcT _ (List.mem_of_getElem? h34)).bag) (hcT _ (List.mem_of_getElem? h34)).len) H24 ?_
  intro w36 H37
  refine kq _ _ ?_
  clear kq Kq
  refine wv 14 (.int .u64 (ZA x33.S)) ?_
  apply Z2Q
  refine wv 53 (.int .u64 (ZA x33.S)) ?_
  refine wv 54 (.int .u64 (last)) ?_
  refine wv 55 (.bool (decide ((ZA x33.S) > last))) ?_
  refine wv 56 (.bool (decide ((ZA x33.S) > last))) ?_
  refine (Zr (decide ((ZA x33.S) > last))).elim (fun b39 => ?_) (fun b39 => ?_)
  ·have g40 := of_decide_eq_true b39
   refine ZJ 56 (.bool true) (congrArg Value.bool b39) ?_
   refine wy 3 56 true 57 (.int .u64 (ZA x33.S)) ?_
   refine wy 3 56 true 58 (.int .u64 (tm)) ?_
   refine wy 3 56 true 59 (.bool (decide ((ZA x33.S) ≤ tm))) ?_
   refine wv 60 (.bool (decide ((ZA x33.S) ≤ tm))) ?_
   apply znt
   refine (Zr (decide ((ZA x33.S) ≤ tm))).elim (fun b42 => ?_) (fun b42 => ?_)
   ·have g43 := of_decide_eq_true b42
    refine Z1V _ b42 ?_
    refine Z1o H37 [Z0 t 45 (Z5I F Cn rp la L.length lc), (Z2g la L lc), ZY B, Z0 r 98 (Z5J ra Lb.length rc), (Z3i ra Lb rc), Z7 w (ZL [Z0 t 45 [.int .i64 F, .int .i64 Cn, .int .i64 rp, .slice la (L).length lc], (Z2g la L lc), ZY B, Z0 r 98 [.slice ra (Lb).length rc], (Z3i ra Lb rc)]).fp, Z0 b2 34 (Z4h), Z0 b14 34 (Z4N rp ep tm ca D.length cc)] [12] 13 rfl (by kernel_rfl) (fun Hx => (Hx.pk [0, 1, 2, 3, 4, 5, 6, 7])) ?_
    intro w45 H46 S47
    refine zkp 0 S47 61 (pt b14 3) ?_
    refine zkv 1 S47 62 (.slice ca D.length cc) ?_ (he := fun _ H' => (Z8 rfl (by kernel_rfl) (H'.cell 7 rfl rfl)))
    refine zkp 2 S47 63 (pt t 0) ?_
    refine zkp 3 S47 64 (pt t 0) ?_
    refine zkp 4 S47 65 (pt t 3) ?_
    refine zkv 5 S47 66 (.slice la L.length lc) ?_ (he := fun _ H' => (Z8 rfl (by kernel_rfl) (H'.cell 0 rfl rfl)))
    refine zkp 6 S47 67 (.int .i64 ((i : Int))) ?_
    refine Z0Y 7 rfl (by kernel_rfl) (by kernel_rfl) (by kernel_rfl) (fun _ _ _ h => h) S47 (Z1 rfl) rfl (d := 68) (v := (.pointer (some ⟨g30, 0 + ((i : Int)).toNat * 38, none⟩))) rfl (fun _ => (Z0r (E := 53) (by kernel_rfl) (by kernel_rfl) (Nat.le_of_ble_eq_true rfl) rfl e32 rfl (by omega) (by omega))) ?_
    refine zkv 8 S47 69 (.agg ⟨(Z4i x33)⟩) ?_ (he := fun _ H' => (Z0k (vs := (Z4i x33)) rfl (by kernel_rfl) (by kernel_rfl) (Nat.le_of_ble_eq_true (by kernel_rfl)) (Z2u (H'.at 1 rfl) e32 Z0l h34 0 (show 0 + ((i : Int)).toNat * 38 = i * 38 + 0 by omega) (by kernel_rfl) (by kernel_rfl))))
    refine Z3M 9 fun Kq kq => ?_
    refine Z45 53 38 96 (.agg ⟨(([(.int .i64 (0)), (.int .i64 (0))] : List Value) ++ hc Z04 ++ ([(.int .i64 (0)), (.int .i64 (0)), (.int .i64 (0)), (.slice none 0 0)] : List Value))⟩) [(0, (.agg ⟨(Z4i x33)⟩))] (Z4i x33) H46 ?_
    intro b49 w50 H51
    have H52 := H51.ct 9 rfl (Zk 53 38 (.slice (some ⟨b49, 0, none⟩) 1 1) 1 ([x33].flatMap Z03)) (by rw [(show ((Z4i x33) : List Value) = [x33].flatMap Z03 by kernel_rfl)])
    have S53 := H52.pk [0, 1, 2, 3, 4, 5, 6, 7]
    refine kq _ _ S53 ?_
    clear kq Kq
    refine Z3M 10 fun Kq kq => ?_
    refine Z11 (T := 32) (e := 53) (size := 38) (bytes := 96) rfl H52 (by kernel_rfl) 8 9 rfl rfl rfl rfl (Z0Q Z03 Z2E [x33]) (by omega) (by omega) ?_
    intro v55 w56 H57
    have H60 := H57.ct 8 rfl (Zk 53 38 v55 ((D ++ [x33]).length) ((D ++ [x33]).flatMap Z03)) ja
    obtain ⟨a58, c59, rfl⟩ := Z6 (H60.at 8 rfl)
    have S61 := H60.pk [0, 1, 2, 3, 4, 5, 6, 7]
    refine kq _ _ S61 ?_
    clear kq Kq
    refine zkp 11 S61 72 (pt b14 3) ?_
    refine Z3j 12 (Sat w [Z0 t 45 (Z5I F Cn rp la L.length lc), (Z2g la L lc), ZY B, Z0 r 98 (Z5J ra Lb.length rc), (Z3i ra Lb rc), Z7 w (ZL [Z0 t 45 [.int .i64 F, .int .i64 Cn, .int .i64 rp, .slice la (L).length lc], (Z2g la L lc), ZY B, Z0 r 98 [.slice ra (Lb).length rc], (Z3i ra Lb rc)]).fp, Z0 b2 34 (Z4h)]) rfl (by kernel_rfl) (Z1 rfl) rfl (fun Kq kq => ?_)
    refine zds (Z5J a58 ((D ++ [x33]).length) c59) (Z4N rp ep tm a58 ((D ++ [x33]).length) c59) H60 7 ?_
    intro w63 H64
    have S66 := H64.pk [0, 1, 2, 3, 4, 5, 6]
    refine kq _ _ S66 ?_
    clear kq Kq
    refine zhf ?_
    apply Zw
    apply ztn
    apply Zq
    refine zwi 73 ((i : Int) + 1) ?_
    refine wv 42 (.int .i64 ((i : Int) + 1)) ?_
    apply Zn
    have H67 := H64.pk [0, 1, 2, 3, 4, 5, 6, 7, 8]
    refine ZF ?_ _ ⟨(i + 1), a58, c59, (D ++ [x33]), rfl, (by omega), (Z9e hD h34 b39 b42), H67, rfl⟩ (by omega)
    exact zs
   have g68 := of_decide_eq_false b42
   refine Z1w _ b42 ?_
   apply ZW
   apply Zw
   apply ztn
   apply Zq
   refine zwi 73 ((i : Int) + 1) ?_
   refine wv 42 (.int .i64 ((i : Int) + 1)) ?_
   apply Zn
   refine ZF ?_ _ ⟨(i + 1), ca, cc, D, rfl, (by omega), (Z9d hD h34 b42), H37, rfl⟩ (by omega)
   exact zs
  have g70 := of_decide_eq_false b39
  refine ZJ 56 (.bool false) (congrArg Value.bool b39) ?_
  iterate 3 refine wn 3 56 true ?_
  refine wv 60 (.bool false) ?_
  apply znt
  refine Z1g rfl ?_
  apply ZW
  apply Zw
  apply ztn
  apply Zq
  refine zwi 73 ((i : Int) + 1) ?_
  refine wv 42 (.int .i64 ((i : Int) + 1)) ?_
  apply Zn
  refine ZF ?_ _ ⟨(i + 1), ca, cc, D, rfl, (by omega), (Z9c hD h34 b39), H37, rfl⟩ (by omega)
  exact zs
 have g72 := of_decide_eq_false b27
 refine Z1w _ b27 ?_
 apply zxb
 apply ztn
 apply Zd
 have hDf : D = Z0a L last tm := by rw [hD, List.take_of_length_le (by omega)]
 refine Z1o H24 [Z0 t 45 (Z5I F Cn rp la L.length lc), (Z2g la L lc), ZY B, Z7 w (ZL [Z0 t 45 [.int .i64 F, .int .i64 Cn, .int .i64 rp, .slice la (L).length lc], (Z2g la L lc), ZY B, Z0 r 98 [.slice ra (Lb).length rc], (Z3i ra Lb rc)]).fp, Z0 b2 34 (Z4h), Z0 b14 34 (Z4N rp ep tm ca D.length cc), (Z2g ca D cc)] [9] 10 rfl (by kernel_rfl) (fun Hx => (Hx.pk [0, 1, 2, 5, 6, 7, 8])) ?_
 intro w74 H75 S76
 refine zkp 0 S76 74 (pt r 0) ?_
 refine zkp 1 S76 75 (pt t 0) ?_
 refine zkp 2 S76 76 (pt t 0) ?_
 refine zkp 3 S76 77 (pt t 2) ?_
 refine zkv 4 S76 78 (.int .i64 (rp)) ?_ (he := fun _ H' => (Z8 rfl (by kernel_rfl) (H'.cell 0 rfl rfl)))
 refine zkv 5 S76 79 (.agg ⟨(Z4N rp ep tm ca D.length cc)⟩) ?_ (he := fun _ H' => (Zi (vs := (Z4N rp ep tm ca D.length cc)) rfl (by kernel_rfl) (by kernel_rfl) (by exact Nat.le_of_ble_eq_true (by kernel_rfl)) (H'.at 5 rfl) (by kernel_rfl)))
 refine Z3M 6 fun Kq kq => ?_
 refine zdc 80 (Z5f w74 (⟨rp, ep, tm, ca, cc, 0, 0, D⟩ : PrR) (ListAt.row Z0l (by decide) (H75.at 8 rfl)) (fun i hi => (hcT _ (Z42 (L := L) (last := last) (tm := tm) (by rw [← hDf]; exact Z3D hi))).cb (H75.at 2 rfl)) hDl ⟨by show rp ≤ _; omega, by show ep ≤ _; omega, by show 0 ≤ tm; omega, by show tm < _; omega⟩) ?_
 rintro _ w78 ⟨u79, rfl, k80, p81, q82⟩
 have H83 := H75.addU p81 k80 q82
 obtain ⟨a84, c85, rfl⟩ := Z6 (H83.at 9 rfl)
 refine ⟨_, rfl, ?_⟩
 have hpl := Z7N (p := (⟨rp, ep, tm, ca, cc, 0, 0, D⟩ : PrR)) (fun c hm => Nat.le_trans (hcT _ (Z42 (L := L) (last := last) (tm := tm) (by rw [← hDf]; exact hm))).len (by decide)) hDl
 have S86 := H83.pk [0, 1, 2, 5, 6, 7, 8]
 refine kq _ _ S86 ?_
 clear kq Kq
 refine Z3M 7 fun Kq kq => ?_
 refine zdc 81 (Z2z w78 r ra rc Lb (.slice a84 ((Z0f (⟨rp, ep, tm, ca, cc, 0, 0, D⟩ : PrR)).length) c85) (Z0f (⟨rp, ep, tm, ca, cc, 0, 0, D⟩ : PrR)) (H83.fn [3, 4, 9]) (by omega) hnb rp) ?_
 rintro _ w88 ⟨a90, c91, rfl, T89⟩
 have H92 := H83.tl [Z0 r 98 (Z5J a90 ((Zp Lb (⟨rp, (Z0f (⟨rp, ep, tm, ca, cc, 0, 0, D⟩ : PrR))⟩ : Signed)).length) c91), (Z3i a90 (Zp Lb (⟨rp, (Z0f (⟨rp, ep, tm, ca, cc, 0, 0, D⟩ : PrR))⟩ : Signed)) c91), (ZcA a84 (Z0f (⟨rp, ep, tm, ca, cc, 0, 0, D⟩ : PrR)) c85)] [3, 4, 9] [0, 1, 2, 5, 6, 7, 8] T89 [3, 4, 5, 0, 1, 6, 7, 8, 9, 2]
 refine ⟨_, rfl, ?_⟩
 have S93 := H92.pk [0, 1, 2, 5, 6, 7, 8]
 refine kq _ _ S93 ?_
 clear kq Kq
 refine zkp 8 S93 82 (pt b14 4) ?_
 refine Z3j 9 (Sat w [Z0 t 45 (Z5I F Cn rp la L.length lc), (Z2g la L lc), ZY B, Z7 w (ZL [Z0 t 45 [.int .i64 F, .int .i64 Cn, .int .i64 rp, .slice la (L).length lc], (Z2g la L lc), ZY B, Z0 r 98 [.slice ra (Lb).length rc], (Z3i ra Lb rc)]).fp, Z0 b2 34 (Z4h), (Z2g ca D cc)]) rfl (by kernel_rfl) (Z1 rfl) rfl (fun Kq kq => ?_)
 refine zds ([(.int .i64 (rp)), (.int .i64 (ZB (Zp Lb (⟨rp, (Z0f (⟨rp, ep, tm, ca, cc, 0, 0, D⟩ : PrR))⟩ : Signed)) (⟨rp, (Z0f (⟨rp, ep, tm, ca, cc, 0, 0, D⟩ : PrR))⟩ : Signed)))] : List Value) (Z72 rp ep tm ca D.length cc (ZB (Zp Lb (⟨rp, (Z0f (⟨rp, ep, tm, ca, cc, 0, 0, D⟩ : PrR))⟩ : Signed)) (⟨rp, (Z0f (⟨rp, ep, tm, ca, cc, 0, 0, D⟩ : PrR))⟩ : Signed))) H92 7 ?_
 intro w95 H96
 have S98 := H96.pk [0, 1, 2, 5, 6, 8]
 refine kq _ _ S98 ?_
 clear kq Kq
 refine zhf ?_
 apply ztn
 apply zsl
 refine zwN 83 (Z72 rp ep tm ca D.length cc (ZB (Zp Lb (⟨rp, (Z0f (⟨rp, ep, tm, ca, cc, 0, 0, D⟩ : PrR))⟩ : Signed)) (⟨rp, (Z0f (⟨rp, ep, tm, ca, cc, 0, 0, D⟩ : PrR))⟩ : Signed))) (H96.at 7 rfl) ?_
 refine zwd fun Kq kq => ?_
 refine Z1F (Z72 rp ep tm ca D.length cc (ZB (Zp Lb (⟨rp, (Z0f (⟨rp, ep, tm, ca, cc, 0, 0, D⟩ : PrR))⟩ : Signed)) (⟨rp, (Z0f (⟨rp, ep, tm, ca, cc, 0, 0, D⟩ : PrR))⟩ : Signed))) H96 6 ?_
 intro w100 H101
 refine kq _ _ ?_
 clear kq Kq
 refine wv 11 (.int .i64 (0)) ?_
 apply znt
 apply ZI
 refine Z4r rfl (ZZ (vs := (Z72 rp ep tm ca D.length cc (ZB (Zp Lb (⟨rp, (Z0f (⟨rp, ep, tm, ca, cc, 0, 0, D⟩ : PrR))⟩ : Signed)) (⟨rp, (Z0f (⟨rp, ep, tm, ca, cc, 0, 0, D⟩ : PrR))⟩ : Signed)))) rfl (by kernel_rfl) (by kernel_rfl) (by exact Nat.le_of_ble_eq_true (by kernel_rfl)) (H101.at 6 rfl) (by kernel_rfl)) (ZT (v := (.int .i64 (0))) rfl) ?_
 subst hDf
 exact ⟨ca, cc, a90, c91, rfl, H101.pk [0, 1, 2, 3, 4, 8, 5]⟩
end Go.Proofs.YtoaifondpohniaaGreat
