/- WHAT IS PROVED: contracts and plain laws of LtP, LtM, Make10M. Conditions: stated with each. -/
import Derived.Test.YtoaifondpohniaaGreatPL04
import Derived.Test.YtoaifondpohniaaGreatPL13
import Derived.Test.YtoaifondpohniaaGreatPL30
import Derived.Test.YtoaifondpohniaaGreatPL31
import Derived.Test.YtoaifondpohniaaGreatPL32
set_option maxHeartbeats 4000000
set_option maxRecDepth 100000
namespace Go.Proofs.YtoaifondpohniaaGreat
open Go.RowKit
abbrev Zav (p0 : Int) (p1 : Int) (p2 : Int) (p3 : Nat) : List Value := ([(.int .i64 p0), (.int .i64 p1), (.int .i64 p2), (.map (some p3))] : List Value)
abbrev Zc9 (p0 : Nat) : List Value := ([(.map (some p0))] : List Value)
abbrev Z7B (p0 : Nat) (p1 : List Signed) : Ck := ZQ p0 Zz (Value.int .i64) (ZS p1)
abbrev Z7C : List Value := ([(.int .i64 (0)), (.int .i64 (0)), (.int .u64 (0)), (.slice none 0 0), (.int .i64 (0)), (.int .i64 (0))] : List Value)
abbrev Zca (p0 : Int) (p1 : Int) (p2 : Int) : List Value := ([(.int .i64 p0), (.int .i64 p1), (.int .u64 p2), (.slice none 0 0), (.int .i64 (0)), (.int .i64 (0))] : List Value)
abbrev Z6t (p0 : Option Addr) (p1 : List CeR) (p2 : Nat) : Ck := Zk 53 38 (.slice p0 p1.length p2) p1.length (p1.flatMap Z03)
abbrev Z7D (p0 : Int) (p1 : Int) (p2 : Int) (p3 : Option Addr) (p4 : Nat) (p5 : Nat) : List Value := ([(.int .i64 p0), (.int .i64 p1), (.int .u64 p2), (.slice p3 p4 p5), (.int .i64 (0)), (.int .i64 (0))] : List Value)
abbrev Z55 (p0 : CeR) : List Value := ([(.int .i64 p0.x.cl), (.int .i64 p0.x.seq)] : List Value) ++ hc p0.x.h ++ ([(.int .i64 p0.x.len), (.int .i64 p0.x.sb), (.int .i64 p0.x.sm), (.slice p0.sa p0.S.length p0.sc)] : List Value)
abbrev Zcb : List Value := ([(.int .i64 (0)), (.int .i64 (0))] : List Value) ++ hc Z04 ++ ([(.int .i64 (0)), (.int .i64 (0)), (.int .i64 (0)), (.slice none 0 0)] : List Value)
abbrev kLtP_9 (p0 : Option Addr) (p1 : List UInt8) (p2 : Nat) : Ck := Zk 5 1 (.slice p0 p1.length p2) p1.length (p1.flatMap ZE)
abbrev Z6Y (p0 : Int) (p1 : Int) (p2 : Int) (p3 : Option Addr) (p4 : Nat) (p5 : Nat) (p6 : Int) : List Value := ([(.int .i64 p0), (.int .i64 p1), (.int .u64 p2), (.slice p3 p4 p5), (.int .i64 p0), (.int .i64 p6)] : List Value)
theorem Zcw {M : List (NmD × CeR)} {ss : List NmD} {D : List CeR} {B Bh : List Ck} (h : HvC M ss D) (hs : ss.Perm (M.map (·.1))) (hM : ∀ q ∈ M, CeT B q.2) (hin : ∀ c ∈ D, stC c ∈ Bh) : ∀ c ∈ D, CeT Bh c := fun c hc => by
 have hm : Z3g c ∈ D.map Z3g := List.mem_map_of_mem hc
 rw [h] at hm
 obtain ⟨n, hn, e⟩ := List.mem_map.1 hm
 have hk : n ∈ M.map (·.1) := hs.subset hn
 have hsome : (Zm M n).isSome = true := by
  cases q : Zm M n with
  | none => exact absurd hk (Z4Q.1 q)
  | some v => rfl
 have hT := Z75 hM hsome
 unfold Z3g at e
 simp only [Prod.mk.injEq] at e
 exact ⟨e.1 ▸ hT.x, e.2 ▸ hT.S, e.2 ▸ hT.len, hin c hc⟩
theorem Z4y (w : World) (t tm : Nat) (F Cn rp : Int) (M : List (NmD × CeR)) (B : List Ck) (b mb : Nat) (Lb : List Signed) (hA : (ZL [Z0 t 121 [.int .i64 F, .int .i64 Cn, .int .i64 rp, .map (some tm)], ZQ tm nmV ceV M, ZY B, Z0 b 110 [.map (some mb)], ZQ mb Zz (Value.int .i64) (ZS Lb)]).ok w) (hcT : ∀ q ∈ M, CeT B q.2) (hlM : M.length ≤ 64) (hrp : 0 ≤ rp ∧ rp ≤ 1000000) (_hnb : Lb.Nodup) (hlb : Lb.length ≤ 100000) (ep last til : Int) (hep : 0 ≤ ep ∧ ep ≤ 1048576) (htm : 0 ≤ last ∧ last < til ∧ til < 18446744073709551615) :
  Calls Tryz.prog 29 #[(.pointer (some ⟨t, 0, none⟩)), (.pointer (some ⟨b, 0, none⟩)), (.int .i64 (ep)), (.int .u64 (last)), (.int .u64 (til))] w fun e w' => ∃ ca cc L Bh ss, e = .returned (.tuple #[.agg ⟨Z9u ⟨rp, ep, til, ca, cc, rp, ZB (Zp Lb (⟨rp, Z0f (⟨rp, ep, til, ca, cc, 0, 0, (Z0a L last til)⟩ : PrR)⟩ : Signed)) (⟨rp, Z0f (⟨rp, ep, til, ca, cc, 0, 0, (Z0a L last til)⟩ : PrR)⟩ : Signed), (Z0a L last til)⟩⟩, (.int .i64 (0))]) ∧ ss.Perm (M.map (·.1)) ∧ (ss.Pairwise fun a b => ¬ Z5c b a) ∧ HvC M ss L ∧ (∀ c ∈ L, CeT Bh c) ∧ Sat w [Z0 t 121 [.int .i64 F, .int .i64 Cn, .int .i64 rp, .map (some tm)], ZQ tm nmV ceV M, ZY B, Z0 b 110 [.map (some mb)], ZQ mb Zz (Value.int .i64) (ZS (Zp Lb (⟨rp, Z0f (⟨rp, ep, til, ca, cc, 0, 0, (Z0a L last til)⟩ : PrR)⟩ : Signed))), Zk 53 38 (.slice ca (Z0a L last til).length cc) (Z0a L last til).length ((Z0a L last til).flatMap Z03), ZY Bh, Z7 w (ZL [Z0 t 121 [.int .i64 F, .int .i64 Cn, .int .i64 rp, .map (some tm)], ZQ tm nmV ceV M, ZY B, Z0 b 110 [.map (some mb)], ZQ mb Zz (Value.int .i64) (ZS Lb)]).fp] w' := by
 have H := Sat.start0 w
 have H := Sat.start _ hA
 refine Zh Tryz.func29 rfl 74 rfl (Nat.le_of_ble_eq_true rfl) ?_
 apply zsl
 refine zwd fun Kq kq => ?_
 refine zda (Z7C) H ?_
 intro b2 w3 H4
 refine kq _ _ ?_
 clear kq Kq
 refine wv 11 (.int .i64 (0)) ?_
 apply znt
 apply Zd
 apply ZM
 apply zsl
 refine wv 17 (.int .i64 (ep)) ?_
 refine wv 18 (.bool (decide (ep < 0))) ?_
 refine wv 19 (.bool (decide (ep < 0))) ?_
 have b5 : (decide (ep < 0)) = false := by exact decide_eq_false (by omega)
 refine ZJ 19 (.bool false) (congrArg Value.bool b5) ?_
 have g6 := of_decide_eq_false b5
 refine wy 2 19 false 20 (.int .i64 (ep)) ?_
 refine wy 2 19 false 21 (.bool (decide (ep > 1048576))) ?_
 refine wv 22 (.bool (decide (ep > 1048576))) ?_
 refine wv 16 (.bool (decide (ep > 1048576))) ?_
 apply znt
 have b7 : (decide (ep > 1048576)) = false := by exact decide_eq_false (by omega)
 have g8 := of_decide_eq_false b7
 refine Z1w _ b7 ?_
 apply zsl
 refine wv 25 (.int .u64 (til)) ?_
 refine wv 26 (.int .u64 (last)) ?_
 refine wv 27 (.bool (decide (til ≤ last))) ?_
 refine wv 28 (.bool (decide (til ≤ last))) ?_
 have b9 : (decide (til ≤ last)) = false := by exact decide_eq_false (by omega)
 refine ZJ 28 (.bool false) (congrArg Value.bool b9) ?_
 have g10 := of_decide_eq_false b9
 refine wy 3 28 false 29 (.int .u64 (til)) ?_
 refine wy 3 28 false 30 (.bool (decide (til = 18446744073709551615))) ?_
 refine wv 31 (.bool (decide (til = 18446744073709551615))) ?_
 refine wv 24 (.bool (decide (til = 18446744073709551615))) ?_
 apply znt
 have b11 : (decide (til = 18446744073709551615)) = false := by exact decide_eq_false (by omega)
 have g12 := of_decide_eq_false b11
 refine Z1w _ b11 ?_
 apply ZW
 apply Zw
 apply ztn
 apply zsl
 refine wv 33 (pt t 0) ?_
 refine wv 34 (pt t 0) ?_
 refine wv 35 (pt t 2) ?_
 refine zw1 36 (.int .i64 (rp)) (H4.cell 0 rfl rfl) ?_
 refine wv 37 (.int .i64 (ep)) ?_
 refine wv 38 (.int .u64 (til)) ?_
 refine wv 39 (.agg ⟨(Zca rp ep til)⟩) ?_
 refine zwd fun Kq kq => ?_
 refine zda (Z7C) H4 ?_
 intro b14 w15 H16
 refine kq _ _ ?_
 clear kq Kq
 refine zwd fun Kq kq => ?_
 refine Z1F (Zca rp ep til) H16 7 ?_
 intro w18 H19
 refine kq _ _ ?_
 clear kq Kq
 apply znt
 apply Zd
 apply zsl
 refine wv 40 (pt t 0) ?_
 refine zwd fun Kq kq => ?_
 refine zdc 41 (Z6A w18 t tm F Cn rp M (H19.at 0 rfl) (H19.at 1 rfl) (fun q hq => ⟨(H19.at 2 rfl : (ZY B).ok _) _ (hcT q hq).bag, (hcT q hq).len⟩) hlM) ?_
 rintro _ w22 ⟨la, lc, L, Bh, ss, rfl, s23, p24, o25, i26, k27, u28, q29⟩
 have H30 := H19.addU u28 k27 q29
 have H31 := H30.open 8 rfl
 refine ⟨_, rfl, ?_⟩
 have hcD := Zcw o25 s23 hcT i26
 have hlL : L.length ≤ 64 := by have q1 := Z8l o25; have q2 := s23.length_eq; rw [List.length_map] at q2; omega
 refine kq _ _ ?_
 clear kq Kq
 refine wv 42 (.int .i64 ((L.length : Int))) ?_
 refine wv 43 (.int .i64 (0)) ?_
 apply znt
 apply ZM
 have H32 := H31.addNil 53 38
 refine Z0b ([14, 15] ++ List.range' 43 21) (fun F_ W_ m_ => ∃ (i : Nat) (ca : Option Addr) (cc : Nat) (D : List CeR), F_ 43 = (.int .i64 ((i : Int))) ∧ (i ≤ L.length) ∧ (D = Z0a (L.take i) last til) ∧ Sat w [Z0 t 121 (Zav F Cn rp tm), ZQ tm nmV ceV M, ZY B, Z0 b 110 (Zc9 mb), (Z7B mb Lb), Z7 w (ZL [Z0 t 121 [.int .i64 F, .int .i64 Cn, .int .i64 rp, .map (some tm)], ZQ tm nmV ceV M, ZY B, Z0 b 110 [.map (some mb)], (Z7B mb Lb)]).fp, Z0 b2 34 (Z7C), Z0 b14 34 (Z7D rp ep til ca D.length cc), (Z6t la L lc), ZY Bh, (Z6t ca D cc)] W_ ∧ m_ = L.length - i) _ ⟨0, none, 0, [], (show ((.int .i64 (0)) : Value) = _ by first | rfl | go_num), (Nat.zero_le _), rfl, H32, rfl⟩ ?_
 rintro g33 w34 _ ⟨i, ca, cc, D, v36, hi, hD, H35, rfl⟩
 refine Zl 43 _ v36 ?_
 have hDl : D.length ≤ 64 := by rw [hD]; have q := Z7c (L := L.take i) (last := last) (tm := til); rw [List.length_take] at q; omega
 apply zsl
 refine wv 44 (.bool (decide ((i : Int) < (L.length : Int)))) ?_
 apply znt
 apply Zd
 refine (Zr (decide ((i : Int) < (L.length : Int)))).elim (fun b38 => ?_) (fun b38 => ?_)
 ·have g39 := of_decide_eq_true b38
  refine Z1V _ b38 ?_
  apply ZW
  apply ztn
  apply Zd
  apply ZM
  apply zsl
  obtain ⟨g41, c42, e43⟩ := Z1D (H35.at 8 rfl) (by omega)
  obtain ⟨x44, h45⟩ := Z3E (show i < L.length by omega)
  refine wv 45 (.pointer (some ⟨g41, 0 + ((i : Int)).toNat * 38, none⟩)) ?_ (hr := Z0r (E := 53) (by kernel_rfl) (by kernel_rfl) (Nat.le_of_ble_eq_true rfl) rfl e43 rfl (by omega) (by omega))
  refine wv 46 (.agg ⟨(Z55 x44)⟩) ?_ (hr := Z0k (vs := (Z55 x44)) rfl (by kernel_rfl) (by kernel_rfl) (Nat.le_of_ble_eq_true (by kernel_rfl)) (Z2u (H35.at 8 rfl) e43 Z0l h45 0 (show 0 + ((i : Int)).toNat * 38 = i * 38 + 0 by omega) (by kernel_rfl) (by kernel_rfl)))
  refine zwd fun Kq kq => ?_
  refine zda (Zcb) H35 ?_
  intro b47 w48 H49
  refine kq _ _ ?_
  clear kq Kq
  refine zwd fun Kq kq => ?_
  refine Z1F (Z55 x44) H49 11 ?_
  intro w51 H52
  refine kq _ _ ?_
  clear kq Kq
  apply Z2Q
  refine zwN 47 (Z55 x44) (H52.at 11 rfl) ?_
  refine zwd fun Kq kq => ?_
  refine zdq 48 (Z3c w51 x44.x x44.sa x44.sc x44.S (Z21 (c := x44) (H52.at 9 rfl) (hcD _ (List.mem_of_getElem? h45)).bag) (hcD _ (List.mem_of_getElem? h45)).len) H52 ?_
  intro w55 H56
  refine kq _ _ ?_
  clear kq Kq
  refine wv 15 (.int .u64 (ZA x44.S)) ?_
  apply Z2Q
  refine wv 49 (.int .u64 (ZA x44.S)) ?_
  refine wv 50 (.int .u64 (last)) ?_
  refine wv 51 (.bool (decide ((ZA x44.S) > last))) ?_
  refine wv 52 (.bool (decide ((ZA x44.S) > last))) ?_
  refine (Zr (decide ((ZA x44.S) > last))).elim (fun b58 => ?_) (fun b58 => ?_)
  ·have g59 := of_decide_eq_true b58
   refine ZJ 52 (.bool true) (congrArg Value.bool b58) ?_
   refine wy 3 52 true 53 (.int .u64 (ZA x44.S)) ?_
   refine wy 3 52 true 54 (.int .u64 (til)) ?_
   refine wy 3 52 true 55 (.bool (decide ((ZA x44.S) ≤ til))) ?_
   refine wv 56 (.bool (decide ((ZA x44.S) ≤ til))) ?_
   apply znt
   refine (Zr (decide ((ZA x44.S) ≤ til))).elim (fun b61 => ?_) (fun b61 => ?_)
   ·have g62 := of_decide_eq_true b61
    refine Z1V _ b61 ?_
    apply Zq
    refine wv 57 (pt b14 3) ?_
    refine zw1 58 (.slice ca D.length cc) (H56.cell 7 rfl rfl) ?_
    refine zwN 59 (Z55 x44) (H56.at 11 rfl) ?_
    refine zwd fun Kq kq => ?_
    refine Z45 53 38 96 (.agg ⟨(Zcb)⟩) [(0, (.agg ⟨(Z55 x44)⟩))] (Z55 x44) H56 ?_
    intro b65 w66 H67
    have H68 := H67.ct 12 rfl (Zk 53 38 (.slice (some ⟨b65, 0, none⟩) 1 1) 1 ([x44].flatMap Z03)) (by rw [(show ((Z55 x44) : List Value) = [x44].flatMap Z03 by kernel_rfl)])
    refine kq _ _ ?_
    clear kq Kq
    refine zwd fun Kq kq => ?_
    refine Z11 (T := 32) (e := 53) (size := 38) (bytes := 96) rfl H68 (by kernel_rfl) 10 12 rfl rfl rfl rfl (Z0Q Z03 Z2E [x44]) (by omega) (by omega) ?_
    intro v70 w71 H72
    have H75 := H72.ct 10 rfl (Zk 53 38 v70 ((D ++ [x44]).length) ((D ++ [x44]).flatMap Z03)) ja
    obtain ⟨a73, c74, rfl⟩ := Z6 (H75.at 10 rfl)
    refine kq _ _ ?_
    clear kq Kq
    refine wv 62 (pt b14 3) ?_
    refine zwd fun Kq kq => ?_
    refine zds ([(.slice a73 ((D ++ [x44]).length) c74)] : List Value) (Z7D rp ep til a73 ((D ++ [x44]).length) c74) H75 7 ?_
    intro w77 H78
    refine kq _ _ ?_
    clear kq Kq
    apply Zn
    apply Zw
    apply ztn
    apply Zq
    refine zwi 63 ((i : Int) + 1) ?_
    refine wv 43 (.int .i64 ((i : Int) + 1)) ?_
    apply Zn
    have H80 := H78.pk [0, 1, 2, 3, 4, 5, 6, 7, 8, 9, 10]
    refine ZF ?_ _ ⟨(i + 1), a73, c74, (D ++ [x44]), rfl, (by omega), (Z9e hD h45 b58 b61), H80, rfl⟩ (by omega)
    exact zs
   have g81 := of_decide_eq_false b61
   refine Z1w _ b61 ?_
   apply ZW
   apply Zw
   apply ztn
   apply Zq
   refine zwi 63 ((i : Int) + 1) ?_
   refine wv 43 (.int .i64 ((i : Int) + 1)) ?_
   apply Zn
   have H83 := H56.pk [0, 1, 2, 3, 4, 5, 6, 7, 8, 9, 10]
   refine ZF ?_ _ ⟨(i + 1), ca, cc, D, rfl, (by omega), (Z9d hD h45 b61), H83, rfl⟩ (by omega)
   exact zs
  have g84 := of_decide_eq_false b58
  refine ZJ 52 (.bool false) (congrArg Value.bool b58) ?_
  iterate 3 refine wn 3 52 true ?_
  refine wv 56 (.bool false) ?_
  apply znt
  refine Z1g rfl ?_
  apply ZW
  apply Zw
  apply ztn
  apply Zq
  refine zwi 63 ((i : Int) + 1) ?_
  refine wv 43 (.int .i64 ((i : Int) + 1)) ?_
  apply Zn
  have H86 := H56.pk [0, 1, 2, 3, 4, 5, 6, 7, 8, 9, 10]
  refine ZF ?_ _ ⟨(i + 1), ca, cc, D, rfl, (by omega), (Z9c hD h45 b58), H86, rfl⟩ (by omega)
  exact zs
 have g87 := of_decide_eq_false b38
 refine Z1w _ b38 ?_
 apply zxb
 apply ztn
 apply Zd
 have hDf : D = Z0a L last til := by rw [hD, List.take_of_length_le (by omega)]
 refine Z1o H35 [Z0 t 121 (Zav F Cn rp tm), ZQ tm nmV ceV M, ZY B, Z7 w (ZL [Z0 t 121 [.int .i64 F, .int .i64 Cn, .int .i64 rp, .map (some tm)], ZQ tm nmV ceV M, ZY B, Z0 b 110 [.map (some mb)], (Z7B mb Lb)]).fp, Z0 b2 34 (Z7C), Z0 b14 34 (Z7D rp ep til ca D.length cc), (Z6t la L lc), ZY Bh, (Z6t ca D cc)] [9] 10 rfl (by kernel_rfl) (fun Hx => (Hx.pk [0, 1, 2, 5, 6, 7, 8, 9, 10])) ?_
 intro w89 H90 S91
 refine zkp 0 S91 64 (pt b 0) ?_
 refine zkp 1 S91 65 (pt t 0) ?_
 refine zkp 2 S91 66 (pt t 0) ?_
 refine zkp 3 S91 67 (pt t 2) ?_
 refine zkv 4 S91 68 (.int .i64 (rp)) ?_ (he := fun _ H' => (Z8 rfl (by kernel_rfl) (H'.cell 0 rfl rfl)))
 refine zkv 5 S91 69 (.agg ⟨(Z7D rp ep til ca D.length cc)⟩) ?_ (he := fun _ H' => (Zi (vs := (Z7D rp ep til ca D.length cc)) rfl (by kernel_rfl) (by kernel_rfl) (by exact Nat.le_of_ble_eq_true (by kernel_rfl)) (H'.at 5 rfl) (by kernel_rfl)))
 refine Z3M 6 fun Kq kq => ?_
 refine zdc 70 (Z5h w89 (⟨rp, ep, til, ca, cc, 0, 0, D⟩ : PrR) (ListAt.row Z0l (by decide) (H90.at 10 rfl)) (fun i hi => (hcD _ (Z42 (L := L) (last := last) (tm := til) (by rw [← hDf]; exact Z3D hi))).cb (H90.at 9 rfl)) hDl ⟨by show rp ≤ _; omega, by show ep ≤ _; omega, by show 0 ≤ til; omega, by show til < _; omega⟩) ?_
 rintro _ w93 ⟨u94, rfl, k95, p96, q97⟩
 have H98 := H90.addU p96 k95 q97
 obtain ⟨a99, c100, rfl⟩ := Z6 (H98.at 11 rfl)
 refine ⟨_, rfl, ?_⟩
 have hpl := Z7N (p := (⟨rp, ep, til, ca, cc, 0, 0, D⟩ : PrR)) (fun c hm => Nat.le_trans (hcD _ (Z42 (L := L) (last := last) (tm := til) (by rw [← hDf]; exact hm))).len (by decide)) hDl
 have S101 := H98.pk [0, 1, 2, 5, 6, 7, 8, 9, 10]
 refine kq _ _ S101 ?_
 clear kq Kq
 refine Z3M 7 fun Kq kq => ?_
 refine zdc 71 (Z3L w93 b mb Lb (.slice a99 ((Z0f (⟨rp, ep, til, ca, cc, 0, 0, D⟩ : PrR)).length) c100) (Z0f (⟨rp, ep, til, ca, cc, 0, 0, D⟩ : PrR)) (H98.fn [3, 4, 11]) (by omega) rp) ?_
 rintro _ w103 ⟨rfl, T104⟩
 have H105 := H98.tl [Z0 b 110 (Zc9 mb), (Z7B mb (Zp Lb (⟨rp, (Z0f (⟨rp, ep, til, ca, cc, 0, 0, D⟩ : PrR))⟩ : Signed))), (kLtP_9 a99 (Z0f (⟨rp, ep, til, ca, cc, 0, 0, D⟩ : PrR)) c100)] [3, 4, 11] [0, 1, 2, 5, 6, 7, 8, 9, 10] T104 [3, 4, 5, 0, 1, 6, 7, 8, 9, 10, 11, 2]
 refine ⟨_, rfl, ?_⟩
 have S106 := H105.pk [0, 1, 2, 5, 6, 7, 8, 9, 10]
 refine kq _ _ S106 ?_
 clear kq Kq
 refine zkp 8 S106 72 (pt b14 4) ?_
 refine Z3j 9 (Sat w [Z0 t 121 (Zav F Cn rp tm), ZQ tm nmV ceV M, ZY B, Z7 w (ZL [Z0 t 121 [.int .i64 F, .int .i64 Cn, .int .i64 rp, .map (some tm)], ZQ tm nmV ceV M, ZY B, Z0 b 110 [.map (some mb)], (Z7B mb Lb)]).fp, Z0 b2 34 (Z7C), (Z6t la L lc), ZY Bh, (Z6t ca D cc)]) rfl (by kernel_rfl) (Z1 rfl) rfl (fun Kq kq => ?_)
 refine zds ([(.int .i64 (rp)), (.int .i64 (ZB (Zp Lb (⟨rp, (Z0f (⟨rp, ep, til, ca, cc, 0, 0, D⟩ : PrR))⟩ : Signed)) (⟨rp, (Z0f (⟨rp, ep, til, ca, cc, 0, 0, D⟩ : PrR))⟩ : Signed)))] : List Value) (Z6Y rp ep til ca D.length cc (ZB (Zp Lb (⟨rp, (Z0f (⟨rp, ep, til, ca, cc, 0, 0, D⟩ : PrR))⟩ : Signed)) (⟨rp, (Z0f (⟨rp, ep, til, ca, cc, 0, 0, D⟩ : PrR))⟩ : Signed))) H105 7 ?_
 intro w108 H109
 have S111 := H109.pk [0, 1, 2, 5, 6, 8, 9, 10]
 refine kq _ _ S111 ?_
 clear kq Kq
 refine zhf ?_
 apply ztn
 apply zsl
 refine zwN 73 (Z6Y rp ep til ca D.length cc (ZB (Zp Lb (⟨rp, (Z0f (⟨rp, ep, til, ca, cc, 0, 0, D⟩ : PrR))⟩ : Signed)) (⟨rp, (Z0f (⟨rp, ep, til, ca, cc, 0, 0, D⟩ : PrR))⟩ : Signed))) (H109.at 7 rfl) ?_
 refine zwd fun Kq kq => ?_
 refine Z1F (Z6Y rp ep til ca D.length cc (ZB (Zp Lb (⟨rp, (Z0f (⟨rp, ep, til, ca, cc, 0, 0, D⟩ : PrR))⟩ : Signed)) (⟨rp, (Z0f (⟨rp, ep, til, ca, cc, 0, 0, D⟩ : PrR))⟩ : Signed))) H109 6 ?_
 intro w113 H114
 refine kq _ _ ?_
 clear kq Kq
 refine wv 11 (.int .i64 (0)) ?_
 apply znt
 apply ZI
 refine Z4r rfl (ZZ (vs := (Z6Y rp ep til ca D.length cc (ZB (Zp Lb (⟨rp, (Z0f (⟨rp, ep, til, ca, cc, 0, 0, D⟩ : PrR))⟩ : Signed)) (⟨rp, (Z0f (⟨rp, ep, til, ca, cc, 0, 0, D⟩ : PrR))⟩ : Signed)))) rfl (by kernel_rfl) (by kernel_rfl) (by exact Nat.le_of_ble_eq_true (by kernel_rfl)) (H114.at 6 rfl) (by kernel_rfl)) (ZT (v := (.int .i64 (0))) rfl) ?_
 subst hDf
 exact ⟨ca, cc, L, Bh, ss, rfl, s23, p24, o25, hcD, H114.pk [0, 1, 2, 3, 4, 10, 9, 5]⟩
section
variable {B B' : List Ck} {M M' : List (NmD × CeR)} {x c : CeR} {R : Prop} {ss ss1 ss2 : List NmD} {D D1 D2 L1 L2 L3 : List CeR} {i j : Nat} {n m : NmD}
structure TabOk (B : List Ck) (M : List (NmD × CeR)) : Prop where
 T : ∀ q ∈ M, CeT B q.2
 K : ∀ q ∈ M, q.1 = nmX q.2
 N : (M.map (·.1)).Nodup
theorem TabOk.nil : TabOk [] [] := ⟨fun _ hq => absurd hq List.not_mem_nil, fun _ hq => absurd hq List.not_mem_nil, List.nodup_nil⟩
theorem TabOk.more (h : TabOk B M) (A : Ck) : TabOk (A :: B) M := ⟨fun q hq => (h.T q hq).more A, h.K, h.N⟩
theorem Z5K (hn : (Zm M n).isSome = false) : n ∉ M.map (·.1) := Z4Q.1 (by cases e : Zm M n with | none => rfl | some v => rw [e] at hn; cases hn)
theorem Z3X (hn : (Zm M n).isSome = false) : Z3q M n c = M ++ [(n, c)] := by unfold Z3q; rw [if_neg (Z5K hn)]
theorem TabOk.put (h : TabOk B M) (hn : (Zm M (nmX x)).isSome = false) (hx : CeT B x) (sa : Option Addr) (sc : Nat) : TabOk (stC ⟨x.x, sa, sc, x.S⟩ :: B) (Z3q M (nmX x) ⟨x.x, sa, sc, x.S⟩) := by
 rw [Z3X hn]
 refine ⟨fun q hq => ?_, fun q hq => ?_, ?_⟩
 ·rcases List.mem_append.1 hq with hq | hq
  ·exact (h.T q hq).more _
  ·rw [List.mem_singleton.1 hq]; exact ⟨hx.x, hx.S, hx.len, List.mem_cons_self⟩
 ·rcases List.mem_append.1 hq with hq | hq
  ·exact h.K q hq
  ·rw [List.mem_singleton.1 hq]; rfl
 ·rw [List.map_append, List.nodup_append]
  refine ⟨h.N, by simp, fun a ha b hb e => ?_⟩
  simp only [List.map_cons, List.map_nil, List.mem_singleton] at hb
  exact Z5K hn (by rw [← hb, ← e]; exact ha)
theorem TabOk.took {E : Prop} (h : TabOk B M) (hx : CeT B x) (hd : (M' = M ∧ B' = B ∧ E) ∨ (R ∧ (Zm M (nmX x)).isSome = false ∧ ∃ (sa : Option Addr) (sc : Nat), M' = Z3q M (nmX x) ⟨x.x, sa, sc, x.S⟩ ∧ B' = stC ⟨x.x, sa, sc, x.S⟩ :: B)) : TabOk B' M' ∧ M'.length ≤ M.length + 1 := by
 rcases hd with ⟨rfl, rfl, _⟩ | ⟨_, hn, sa, sc, rfl, rfl⟩
 ·exact ⟨h, by omega⟩
 ·exact ⟨h.put hn hx sa sc, by rw [Z3X hn]; simp⟩
theorem rising (hn : ss.Nodup) (hs : ss.Pairwise fun a b => ¬ Z5c b a) (hi : ss[i]? = some n) (hj : ss[j]? = some m) (hij : i < j) : Z5c n m := by
 obtain ⟨hi', e1⟩ := List.getElem?_eq_some_iff.1 hi
 obtain ⟨hj', e2⟩ := List.getElem?_eq_some_iff.1 hj
 have h1 := List.pairwise_iff_getElem.1 hs i j hi' hj' hij
 have h2 := List.pairwise_iff_getElem.1 hn i j hi' hj' hij
 rw [e1, e2] at h1 h2
 unfold Z5c at *
 obtain ⟨nc, ns⟩ := n
 obtain ⟨mc, ms⟩ := m
 simp only [NmD.mk.injEq, ne_eq] at h2
 simp only at *
 omega
end
def isR (x : Zg) (r : Int) (s : Za) : Bool := decide (s.r = r) && Z2h s x
def Z3A (x : Zg) (L : List Za) (r : Nat) : Option Za := L.find? (isR x r)
def Z5T (x : Zg) (L : List Za) (n : Nat) : List Za := (List.range n).filterMap (Z3A x L)
theorem Z2G {x : Zg} {L : List Za} {r : Nat} {s : Za} (h : Z3A x L r = some s) : s.r = r ∧ Z2h s x = true ∧ s ∈ L := by
 have h1 := List.find?_some h
 have h2 := List.mem_of_find?_eq_some h
 simp only [isR, Bool.and_eq_true, decide_eq_true_eq] at h1
 exact ⟨h1.1, h1.2, h2⟩
theorem Z78 {x : Zg} {L : List Za} {n : Nat} {s : Za} : s ∈ Z5T x L n ↔ (0 ≤ s.r ∧ s.r < n) ∧ Z3A x L s.r.toNat = some s := by
 unfold Z5T
 rw [List.mem_filterMap]
 constructor
 ·rintro ⟨r, hr, hf⟩
  have := List.mem_range.1 hr
  obtain ⟨e, _, _⟩ := Z2G hf
  exact ⟨by omega, by rw [show s.r.toNat = r by omega]; exact hf⟩
 ·rintro ⟨hb, hf⟩
  exact ⟨s.r.toNat, List.mem_range.2 (by omega), hf⟩
theorem Z7T (x : Zg) (L : List Za) (n : Nat) : Z5T x L (n + 1) = Z5T x L n ++ (Z3A x L n).toList := by
 unfold Z5T
 rw [List.range_succ, List.filterMap_append]
 congr 1
theorem Z8x (x : Zg) (L : List Za) (n : Nat) : (Z5T x L n).Pairwise fun a b => a.r < b.r := by
 induction n with
 | zero => simp [Z5T]
 | succ n ih =>
  rw [Z7T]
  refine List.pairwise_append.2 ⟨ih, ?_, fun a ha b hb => ?_⟩
  ·cases Z3A x L n <;> simp
  ·have h1 := (Z78.1 ha).1
   cases hf : Z3A x L n with
   | none => rw [hf] at hb; simp at hb
   | some t =>
    rw [hf] at hb
    obtain rfl : b = t := by simpa using hb
    obtain ⟨e, _, _⟩ := Z2G hf
    omega
end Go.Proofs.YtoaifondpohniaaGreat
