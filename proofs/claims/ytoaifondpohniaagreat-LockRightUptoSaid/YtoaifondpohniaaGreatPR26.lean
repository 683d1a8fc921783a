/- WHAT IS PROVED: contracts and plain laws of LtP, LtM, Make10M. Conditions: stated with each. -/
import Derived.Test.YtoaifondpohniaaGreatPR04
import Derived.Test.YtoaifondpohniaaGreatPR11
import Derived.Test.YtoaifondpohniaaGreatPR24
import Derived.Test.YtoaifondpohniaaGreatPR25
set_option maxHeartbeats 4000000
set_option maxRecDepth 100000
namespace Go.Proofs.YtoaifondpohniaaGreat
open Go.RowKit
abbrev Zab (p0 : Int) (p1 : Int) (p2 : Int) (p3 : Nat) : List Value := ([(.int .i64 p0), (.int .i64 p1), (.int .i64 p2), (.map (some p3))] : List Value)
abbrev ZbV (p0 : Nat) : List Value := ([(.map (some p0))] : List Value)
abbrev Z7s (p0 : Nat) (p1 : List Signed) : Ck := Z3d p0 Z0e (Value.int .i64) (Z04 p1)
abbrev Z7t : List Value := ([(.int .i64 (0)), (.int .i64 (0)), (.int .u64 (0)), (.slice none 0 0), (.int .i64 (0)), (.int .i64 (0))] : List Value)
abbrev ZbW (p0 : Int) (p1 : Int) (p2 : Int) : List Value := ([(.int .i64 p0), (.int .i64 p1), (.int .u64 p2), (.slice none 0 0), (.int .i64 (0)), (.int .i64 (0))] : List Value)
abbrev Z6j (p0 : Option Addr) (p1 : List CeR) (p2 : Nat) : Ck := ZH 53 38 (.slice p0 p1.length p2) p1.length (p1.flatMap Z0h)
abbrev Z7u (p0 : Int) (p1 : Int) (p2 : Int) (p3 : Option Addr) (p4 : Nat) (p5 : Nat) : List Value := ([(.int .i64 p0), (.int .i64 p1), (.int .u64 p2), (.slice p3 p4 p5), (.int .i64 (0)), (.int .i64 (0))] : List Value)
abbrev Z55 (p0 : CeR) : List Value := ([(.int .i64 p0.x.cl), (.int .i64 p0.x.seq)] : List Value) ++ hc p0.x.h ++ ([(.int .i64 p0.x.len), (.int .i64 p0.x.sb), (.int .i64 p0.x.sm), (.slice p0.sa p0.S.length p0.sc)] : List Value)
abbrev ZbX : List Value := ([(.int .i64 (0)), (.int .i64 (0))] : List Value) ++ hc Z0d ++ ([(.int .i64 (0)), (.int .i64 (0)), (.int .i64 (0)), (.slice none 0 0)] : List Value)
abbrev kLtP_9 (p0 : Option Addr) (p1 : List UInt8) (p2 : Nat) : Ck := ZH 5 1 (.slice p0 p1.length p2) p1.length (p1.flatMap ZN)
abbrev Z6K (p0 : Int) (p1 : Int) (p2 : Int) (p3 : Option Addr) (p4 : Nat) (p5 : Nat) (p6 : Int) : List Value := ([(.int .i64 p0), (.int .i64 p1), (.int .u64 p2), (.slice p3 p4 p5), (.int .i64 p0), (.int .i64 p6)] : List Value)
theorem Zch {M : List (NmD × CeR)} {ss : List NmD} {D : List CeR} {B Bh : List Ck} (h : HvC M ss D) (hs : ss.Perm (M.map (·.1))) (hM : ∀ q ∈ M, CeT B q.2) (hin : ∀ c ∈ D, stC c ∈ Bh) : ∀ c ∈ D, CeT Bh c := fun c hc => by
 have hm : Z51 c ∈ D.map Z51 := List.mem_map_of_mem hc
 rw [h] at hm
 obtain ⟨n, hn, e⟩ := List.mem_map.1 hm
 have hk : n ∈ M.map (·.1) := hs.subset hn
 have hsome : (ZV M n).isSome = true := by
  cases q : ZV M n with
  | none => exact absurd hk (Z4Q.1 q)
  | some v => rfl
 have hT := Zbo hM hsome
 unfold Z51 at e
 simp only [Prod.mk.injEq] at e
 exact ⟨e.1 ▸ hT.x, e.2 ▸ hT.S, e.2 ▸ hT.len, hin c hc⟩
theorem Z6V (w : World) (t tm : Nat) (F Cn rp : Int) (M : List (NmD × CeR)) (B : List Ck) (b mb : Nat) (Lb : List Signed) (hA : (Z0c [Z0 t 121 [.int .i64 F, .int .i64 Cn, .int .i64 rp, .map (some tm)], Z3d tm nmV ceV M, Z0o B, Z0 b 110 [.map (some mb)], Z3d mb Z0e (Value.int .i64) (Z04 Lb)]).ok w) (hcT : ∀ q ∈ M, CeT B q.2) (hlM : M.length ≤ 64) (hrp : 0 ≤ rp ∧ rp ≤ 1000000) (_hnb : Lb.Nodup) (hlb : Lb.length ≤ 100000) (ep last til : Int) (hep : 0 ≤ ep ∧ ep ≤ 1048576) (htm : 0 ≤ last ∧ last < til ∧ til < 18446744073709551615) :
  Calls Tryz.prog 29 #[(.pointer (some ⟨t, 0, none⟩)), (.pointer (some ⟨b, 0, none⟩)), (.int .i64 (ep)), (.int .u64 (last)), (.int .u64 (til))] w fun e w' => ∃ ca cc L Bh ss, e = .returned (.tuple #[.agg ⟨encPr ⟨rp, ep, til, ca, cc, rp, Zu (Zk Lb (⟨rp, ZB (⟨rp, ep, til, ca, cc, 0, 0, (Z05 L last til)⟩ : PrR)⟩ : Signed)) (⟨rp, ZB (⟨rp, ep, til, ca, cc, 0, 0, (Z05 L last til)⟩ : PrR)⟩ : Signed), (Z05 L last til)⟩⟩, (.int .i64 (0))]) ∧ ss.Perm (M.map (·.1)) ∧ (ss.Pairwise fun a b => ¬ Z5Y b a) ∧ HvC M ss L ∧ (∀ c ∈ L, CeT Bh c) ∧ Sat w [Z0 t 121 [.int .i64 F, .int .i64 Cn, .int .i64 rp, .map (some tm)], Z3d tm nmV ceV M, Z0o B, Z0 b 110 [.map (some mb)], Z3d mb Z0e (Value.int .i64) (Z04 (Zk Lb (⟨rp, ZB (⟨rp, ep, til, ca, cc, 0, 0, (Z05 L last til)⟩ : PrR)⟩ : Signed))), ZH 53 38 (.slice ca (Z05 L last til).length cc) (Z05 L last til).length ((Z05 L last til).flatMap Z0h), Z0o Bh, Z6 w (Z0c [Z0 t 121 [.int .i64 F, .int .i64 Cn, .int .i64 rp, .map (some tm)], Z3d tm nmV ceV M, Z0o B, Z0 b 110 [.map (some mb)], Z3d mb Z0e (Value.int .i64) (Z04 Lb)]).fp] w' := by
 have H := Sat.start0 w
 have H := Sat.start _ hA
 refine Zp Tryz.func29 rfl 74 rfl (Nat.le_of_ble_eq_true rfl) ?_
 apply zsl
 refine zwd fun Kq kq => ?_
 refine zda (Z7t) H ?_
 intro b2 w3 H4
 refine kq _ _ ?_
 clear kq Kq
 refine wv 11 (.int .i64 (0)) ?_
 apply znt
 apply Zt
 apply ZG
 apply zsl
 refine wv 17 (.int .i64 (ep)) ?_
 refine wv 18 (.bool (decide (ep < 0))) ?_
 refine wv 19 (.bool (decide (ep < 0))) ?_
 have b5 : (decide (ep < 0)) = false := by exact decide_eq_false (by omega)
 refine ZI 19 (.bool false) (congrArg Value.bool b5) ?_
 have g6 := of_decide_eq_false b5
 refine wy 2 19 false 20 (.int .i64 (ep)) ?_
 refine wy 2 19 false 21 (.bool (decide (ep > 1048576))) ?_
 refine wv 22 (.bool (decide (ep > 1048576))) ?_
 refine wv 16 (.bool (decide (ep > 1048576))) ?_
 apply znt
 have b7 : (decide (ep > 1048576)) = false := by exact decide_eq_false (by omega)
 have g8 := of_decide_eq_false b7
 refine Z18 _ b7 ?_
 apply zsl
 refine wv 25 (.int .u64 (til)) ?_
 refine wv 26 (.int .u64 (last)) ?_
 refine wv 27 (.bool (decide (til ≤ last))) ?_
 refine wv 28 (.bool (decide (til ≤ last))) ?_
 have b9 : (decide (til ≤ last)) = false := by exact decide_eq_false (by omega)
 refine ZI 28 (.bool false) (congrArg Value.bool b9) ?_
 have g10 := of_decide_eq_false b9
 refine wy 3 28 false 29 (.int .u64 (til)) ?_
 refine wy 3 28 false 30 (.bool (decide (til = 18446744073709551615))) ?_
 refine wv 31 (.bool (decide (til = 18446744073709551615))) ?_
 refine wv 24 (.bool (decide (til = 18446744073709551615))) ?_
 apply znt
 have b11 : (decide (til = 18446744073709551615)) = false := by exact decide_eq_false (by omega)
 have g12 := of_decide_eq_false b11
 refine Z18 _ b11 ?_
 apply ZL
 apply Zq
 apply ztn
 apply zsl
 refine wv 33 (pt t 0) ?_
 refine wv 34 (pt t 0) ?_
 refine wv 35 (pt t 2) ?_
 refine zw1 36 (.int .i64 (rp)) (H4.cell 0 rfl rfl) ?_
 refine wv 37 (.int .i64 (ep)) ?_
 refine wv 38 (.int .u64 (til)) ?_
 refine wv 39 (.agg ⟨(ZbW rp ep til)⟩) ?_
 refine zwd fun Kq kq => ?_
 refine zda (Z7t) H4 ?_
 intro b14 w15 H16
 refine kq _ _ ?_
 clear kq Kq
 refine zwd fun Kq kq => ?_
 refine Z2k (ZbW rp ep til) H16 7 ?_
 intro w18 H19
 refine kq _ _ ?_
 clear kq Kq
 apply znt
 apply Zt
 apply zsl
 refine wv 40 (pt t 0) ?_
 refine zwd fun Kq kq => ?_
 refine zdc 41 (Z9l w18 t tm F Cn rp M (H19.at 0 rfl) (H19.at 1 rfl) (fun q hq => ⟨(H19.at 2 rfl : (Z0o B).ok _) _ (hcT q hq).bag, (hcT q hq).len⟩) hlM) ?_
 rintro _ w22 ⟨la, lc, L, Bh, ss, rfl, s23, p24, o25, i26, k27, u28, q29⟩
 have H30 := H19.addU u28 k27 q29
 have H31 := H30.open 8 rfl
 refine ⟨_, rfl, ?_⟩
 have hcD := Zch o25 s23 hcT i26
 have hlL : L.length ≤ 64 := by have q1 := Z8b o25; have q2 := s23.length_eq; rw [List.length_map] at q2; omega
 refine kq _ _ ?_
 clear kq Kq
 refine wv 42 (.int .i64 ((L.length : Int))) ?_
 refine wv 43 (.int .i64 (0)) ?_
 apply znt
 apply ZG
 have H32 := H31.addNil 53 38
 refine Z02 ([14, 15] ++ List.range' 43 21) (fun F_ W_ m_ => ∃ (i : Nat) (ca : Option Addr) (cc : Nat) (D : List CeR), F_ 43 = (.int .i64 ((i : Int))) ∧ (i ≤ L.length) ∧ (D = Z05 (L.take i) last til) ∧ Sat w [Z0 t 121 (Zab F Cn rp tm), Z3d tm nmV ceV M, Z0o B, Z0 b 110 (ZbV mb), (Z7s mb Lb), Z6 w (Z0c [Z0 t 121 [.int .i64 F, .int .i64 Cn, .int .i64 rp, .map (some tm)], Z3d tm nmV ceV M, Z0o B, Z0 b 110 [.map (some mb)], (Z7s mb Lb)]).fp, Z0 b2 34 (Z7t), Z0 b14 34 (Z7u rp ep til ca D.length cc), (Z6j la L lc), Z0o Bh, (Z6j ca D cc)] W_ ∧ m_ = L.length - i) _ ⟨0, none, 0, [], (show ((.int .i64 (0)) : Value) = _ by first | rfl | go_num), (Nat.zero_le _), rfl, H32, rfl⟩ ?_
 rintro g33 w34 _ ⟨i, ca, cc, D, v36, hi, hD, H35, rfl⟩
 refine ZF 43 _ v36 ?_
 have hDl : D.length ≤ 64 := by rw [hD]; have q := Z5k (L := L.take i) (last := last) (tm := til); rw [List.length_take] at q; omega
 apply zsl
 refine wv 44 (.bool (decide ((i : Int) < (L.length : Int)))) ?_
 apply znt
 apply Zt
 refine (Zl (decide ((i : Int) < (L.length : Int)))).elim (fun b38 => ?_) (fun b38 => ?_)
 ·have g39 := of_decide_eq_true b38
  refine Z1o _ b38 ?_
  apply ZL
  apply ztn
  apply Zt
  apply ZG
  apply zsl
  obtain ⟨g41, c42, e43⟩ := Z1n (H35.at 8 rfl) (by omega)
  obtain ⟨x44, h45⟩ := Z2j (show i < L.length by omega)
  refine wv 45 (.pointer (some ⟨g41, 0 + ((i : Int)).toNat * 38, none⟩)) ?_ (hr := Z0t (E := 53) (by kernel_rfl) (by kernel_rfl) (Nat.le_of_ble_eq_true rfl) rfl e43 rfl (by omega) (by omega))
  refine wv 46 (.agg ⟨(Z55 x44)⟩) ?_ (hr := Z0f (vs := (Z55 x44)) rfl (by kernel_rfl) (by kernel_rfl) (Nat.le_of_ble_eq_true (by kernel_rfl)) (Z2a (H35.at 8 rfl) e43 ZZ h45 0 (show 0 + ((i : Int)).toNat * 38 = i * 38 + 0 by omega) (by kernel_rfl) (by kernel_rfl)))
  refine zwd fun Kq kq => ?_
  refine zda (ZbX) H35 ?_
  intro b47 w48 H49
  refine kq _ _ ?_
  clear kq Kq
  refine zwd fun Kq kq => ?_
  refine Z2k (Z55 x44) H49 11 ?_
  intro w51 H52
  refine kq _ _ ?_
  clear kq Kq
  apply Z1y
  refine zwN 47 (Z55 x44) (H52.at 11 rfl) ?_
  refine zwd fun Kq kq => ?_
  refine zdq 48 (Z5W w51 x44.x x44.sa x44.sc x44.S (Z3S (c := x44) (H52.at 9 rfl) (hcD _ (List.mem_of_getElem? h45)).bag) (hcD _ (List.mem_of_getElem? h45)).len) H52 ?_
  intro w55 H56
  refine kq _ _ ?_
  clear kq Kq
  refine wv 15 (.int .u64 (ZK x44.S)) ?_
  apply Z1y
  refine wv 49 (.int .u64 (ZK x44.S)) ?_
  refine wv 50 (.int .u64 (last)) ?_
  refine wv 51 (.bool (decide ((ZK x44.S) > last))) ?_
  refine wv 52 (.bool (decide ((ZK x44.S) > last))) ?_
  refine (Zl (decide ((ZK x44.S) > last))).elim (fun b58 => ?_) (fun b58 => ?_)
  ·have g59 := of_decide_eq_true b58
   refine ZI 52 (.bool true) (congrArg Value.bool b58) ?_
   refine wy 3 52 true 53 (.int .u64 (ZK x44.S)) ?_
   refine wy 3 52 true 54 (.int .u64 (til)) ?_
   refine wy 3 52 true 55 (.bool (decide ((ZK x44.S) ≤ til))) ?_
   refine wv 56 (.bool (decide ((ZK x44.S) ≤ til))) ?_
   apply znt
   refine (Zl (decide ((ZK x44.S) ≤ til))).elim (fun b61 => ?_) (fun b61 => ?_)
   ·have g62 := of_decide_eq_true b61
    refine Z1o _ b61 ?_
    apply ZU
    refine wv 57 (pt b14 3) ?_
    refine zw1 58 (.slice ca D.length cc) (H56.cell 7 rfl rfl) ?_
    refine zwN 59 (Z55 x44) (H56.at 11 rfl) ?_
    refine zwd fun Kq kq => ?_
    refine Z3o 53 38 96 (.agg ⟨(ZbX)⟩) [(0, (.agg ⟨(Z55 x44)⟩))] (Z55 x44) H56 ?_
    intro b65 w66 H67
    have H68 := H67.ct 12 rfl (ZH 53 38 (.slice (some ⟨b65, 0, none⟩) 1 1) 1 ([x44].flatMap Z0h)) (by rw [(show ((Z55 x44) : List Value) = [x44].flatMap Z0h by kernel_rfl)])
    refine kq _ _ ?_
    clear kq Kq
    refine zwd fun Kq kq => ?_
    refine Z14 (T := 32) (e := 53) (size := 38) (bytes := 96) rfl H68 (by kernel_rfl) 10 12 rfl rfl rfl rfl (Z0U Z0h Z3r [x44]) (by omega) (by omega) ?_
    intro v70 w71 H72
    have H75 := H72.ct 10 rfl (ZH 53 38 v70 ((D ++ [x44]).length) ((D ++ [x44]).flatMap Z0h)) ja
    obtain ⟨a73, c74, rfl⟩ := Z1 (H75.at 10 rfl)
    refine kq _ _ ?_
    clear kq Kq
    refine wv 62 (pt b14 3) ?_
    refine zwd fun Kq kq => ?_
    refine zds ([(.slice a73 ((D ++ [x44]).length) c74)] : List Value) (Z7u rp ep til a73 ((D ++ [x44]).length) c74) H75 7 ?_
    intro w77 H78
    refine kq _ _ ?_
    clear kq Kq
    apply ZQ
    apply Zq
    apply ztn
    apply ZU
    refine zwi 63 ((i : Int) + 1) ?_
    refine wv 43 (.int .i64 ((i : Int) + 1)) ?_
    apply ZQ
    have H80 := H78.pk [0, 1, 2, 3, 4, 5, 6, 7, 8, 9, 10]
    refine Zw ?_ _ ⟨(i + 1), a73, c74, (D ++ [x44]), rfl, (by omega), (Z93 hD h45 b58 b61), H80, rfl⟩ (by omega)
    exact zs
   have g81 := of_decide_eq_false b61
   refine Z18 _ b61 ?_
   apply ZL
   apply Zq
   apply ztn
   apply ZU
   refine zwi 63 ((i : Int) + 1) ?_
   refine wv 43 (.int .i64 ((i : Int) + 1)) ?_
   apply ZQ
   have H83 := H56.pk [0, 1, 2, 3, 4, 5, 6, 7, 8, 9, 10]
   refine Zw ?_ _ ⟨(i + 1), ca, cc, D, rfl, (by omega), (Z92 hD h45 b61), H83, rfl⟩ (by omega)
   exact zs
  have g84 := of_decide_eq_false b58
  refine ZI 52 (.bool false) (congrArg Value.bool b58) ?_
  iterate 3 refine wn 3 52 true ?_
  refine wv 56 (.bool false) ?_
  apply znt
  refine Z3m rfl ?_
  apply ZL
  apply Zq
  apply ztn
  apply ZU
  refine zwi 63 ((i : Int) + 1) ?_
  refine wv 43 (.int .i64 ((i : Int) + 1)) ?_
  apply ZQ
  have H86 := H56.pk [0, 1, 2, 3, 4, 5, 6, 7, 8, 9, 10]
  refine Zw ?_ _ ⟨(i + 1), ca, cc, D, rfl, (by omega), (Z91 hD h45 b58), H86, rfl⟩ (by omega)
  exact zs
 have g87 := of_decide_eq_false b38
 refine Z18 _ b38 ?_
 apply zxb
 apply ztn
 apply Zt
 have hDf : D = Z05 L last til := by rw [hD, List.take_of_length_le (by omega)]
 refine Z1k H35 [Z0 t 121 (Zab F Cn rp tm), Z3d tm nmV ceV M, Z0o B, Z6 w (Z0c [Z0 t 121 [.int .i64 F, .int .i64 Cn, .int .i64 rp, .map (some tm)], Z3d tm nmV ceV M, Z0o B, Z0 b 110 [.map (some mb)], (Z7s mb Lb)]).fp, Z0 b2 34 (Z7t), Z0 b14 34 (Z7u rp ep til ca D.length cc), (Z6j la L lc), Z0o Bh, (Z6j ca D cc)] [9] 10 rfl (by kernel_rfl) (fun Hx => (Hx.pk [0, 1, 2, 5, 6, 7, 8, 9, 10])) ?_
 intro w89 H90 S91
 refine zkp 0 S91 64 (pt b 0) ?_
 refine zkp 1 S91 65 (pt t 0) ?_
 refine zkp 2 S91 66 (pt t 0) ?_
 refine zkp 3 S91 67 (pt t 2) ?_
 refine zkv 4 S91 68 (.int .i64 (rp)) ?_ (he := fun _ H' => (Z2 rfl (by kernel_rfl) (H'.cell 0 rfl rfl)))
 refine zkv 5 S91 69 (.agg ⟨(Z7u rp ep til ca D.length cc)⟩) ?_ (he := fun _ H' => (Zc (vs := (Z7u rp ep til ca D.length cc)) rfl (by kernel_rfl) (by kernel_rfl) (by exact Nat.le_of_ble_eq_true (by kernel_rfl)) (H'.at 5 rfl) (by kernel_rfl)))
 refine Z3p 6 fun Kq kq => ?_
 refine zdc 70 (Z3l w89 (⟨rp, ep, til, ca, cc, 0, 0, D⟩ : PrR) (ListAt.row ZZ (by decide) (H90.at 10 rfl)) (fun i hi => (hcD _ (Z3Q (L := L) (last := last) (tm := til) (by rw [← hDf]; exact Z1r hi))).cb (H90.at 9 rfl)) hDl ⟨by show rp ≤ _; omega, by show ep ≤ _; omega, by show 0 ≤ til; omega, by show til < _; omega⟩) ?_
 rintro _ w93 ⟨u94, rfl, k95, p96, q97⟩
 have H98 := H90.addU p96 k95 q97
 obtain ⟨a99, c100, rfl⟩ := Z1 (H98.at 11 rfl)
 refine ⟨_, rfl, ?_⟩
 have hpl := Z7C (p := (⟨rp, ep, til, ca, cc, 0, 0, D⟩ : PrR)) (fun c hm => Nat.le_trans (hcD _ (Z3Q (L := L) (last := last) (tm := til) (by rw [← hDf]; exact hm))).len (by decide)) hDl
 have S101 := H98.pk [0, 1, 2, 5, 6, 7, 8, 9, 10]
 refine kq _ _ S101 ?_
 clear kq Kq
 refine Z3p 7 fun Kq kq => ?_
 refine zdc 71 (Z31 w93 b mb Lb (.slice a99 ((ZB (⟨rp, ep, til, ca, cc, 0, 0, D⟩ : PrR)).length) c100) (ZB (⟨rp, ep, til, ca, cc, 0, 0, D⟩ : PrR)) (H98.fn [3, 4, 11]) (by omega) rp) ?_
 rintro _ w103 ⟨rfl, T104⟩
 have H105 := H98.tl [Z0 b 110 (ZbV mb), (Z7s mb (Zk Lb (⟨rp, (ZB (⟨rp, ep, til, ca, cc, 0, 0, D⟩ : PrR))⟩ : Signed))), (kLtP_9 a99 (ZB (⟨rp, ep, til, ca, cc, 0, 0, D⟩ : PrR)) c100)] [3, 4, 11] [0, 1, 2, 5, 6, 7, 8, 9, 10] T104 [3, 4, 5, 0, 1, 6, 7, 8, 9, 10, 11, 2]
 refine ⟨_, rfl, ?_⟩
 have S106 := H105.pk [0, 1, 2, 5, 6, 7, 8, 9, 10]
 refine kq _ _ S106 ?_
 clear kq Kq
 refine zkp 8 S106 72 (pt b14 4) ?_
 refine Z30 9 (Sat w [Z0 t 121 (Zab F Cn rp tm), Z3d tm nmV ceV M, Z0o B, Z6 w (Z0c [Z0 t 121 [.int .i64 F, .int .i64 Cn, .int .i64 rp, .map (some tm)], Z3d tm nmV ceV M, Z0o B, Z0 b 110 [.map (some mb)], (Z7s mb Lb)]).fp, Z0 b2 34 (Z7t), (Z6j la L lc), Z0o Bh, (Z6j ca D cc)]) rfl (by kernel_rfl) (Zs rfl) rfl (fun Kq kq => ?_)
 refine zds ([(.int .i64 (rp)), (.int .i64 (Zu (Zk Lb (⟨rp, (ZB (⟨rp, ep, til, ca, cc, 0, 0, D⟩ : PrR))⟩ : Signed)) (⟨rp, (ZB (⟨rp, ep, til, ca, cc, 0, 0, D⟩ : PrR))⟩ : Signed)))] : List Value) (Z6K rp ep til ca D.length cc (Zu (Zk Lb (⟨rp, (ZB (⟨rp, ep, til, ca, cc, 0, 0, D⟩ : PrR))⟩ : Signed)) (⟨rp, (ZB (⟨rp, ep, til, ca, cc, 0, 0, D⟩ : PrR))⟩ : Signed))) H105 7 ?_
 intro w108 H109
 have S111 := H109.pk [0, 1, 2, 5, 6, 8, 9, 10]
 refine kq _ _ S111 ?_
 clear kq Kq
 refine zhf ?_
 apply ztn
 apply zsl
 refine zwN 73 (Z6K rp ep til ca D.length cc (Zu (Zk Lb (⟨rp, (ZB (⟨rp, ep, til, ca, cc, 0, 0, D⟩ : PrR))⟩ : Signed)) (⟨rp, (ZB (⟨rp, ep, til, ca, cc, 0, 0, D⟩ : PrR))⟩ : Signed))) (H109.at 7 rfl) ?_
 refine zwd fun Kq kq => ?_
 refine Z2k (Z6K rp ep til ca D.length cc (Zu (Zk Lb (⟨rp, (ZB (⟨rp, ep, til, ca, cc, 0, 0, D⟩ : PrR))⟩ : Signed)) (⟨rp, (ZB (⟨rp, ep, til, ca, cc, 0, 0, D⟩ : PrR))⟩ : Signed))) H109 6 ?_
 intro w113 H114
 refine kq _ _ ?_
 clear kq Kq
 refine wv 11 (.int .i64 (0)) ?_
 apply znt
 apply ZA
 refine Z9g rfl (Z0i (vs := (Z6K rp ep til ca D.length cc (Zu (Zk Lb (⟨rp, (ZB (⟨rp, ep, til, ca, cc, 0, 0, D⟩ : PrR))⟩ : Signed)) (⟨rp, (ZB (⟨rp, ep, til, ca, cc, 0, 0, D⟩ : PrR))⟩ : Signed)))) rfl (by kernel_rfl) (by kernel_rfl) (by exact Nat.le_of_ble_eq_true (by kernel_rfl)) (H114.at 6 rfl) (by kernel_rfl)) (Z1m (v := (.int .i64 (0))) rfl) ?_
 subst hDf
 exact ⟨ca, cc, L, Bh, ss, rfl, s23, p24, o25, hcD, H114.pk [0, 1, 2, 3, 4, 10, 9, 5]⟩
section
variable {B B' : List Ck} {M M' : List (NmD × CeR)} {x c : CeR} {R : Prop} {ss ss1 ss2 : List NmD} {D D1 D2 L1 L2 L3 : List CeR} {i j : Nat} {n m : NmD}
structure TabOk (B : List Ck) (M : List (NmD × CeR)) : Prop where
 T : ∀ q ∈ M, CeT B q.2
 K : ∀ q ∈ M, q.1 = nmX q.2
 N : (M.map (·.1)).Nodup
theorem TabOk.nil : TabOk [] [] := ⟨fun _ hq => absurd hq List.not_mem_nil, fun _ hq => absurd hq List.not_mem_nil, List.nodup_nil⟩
theorem TabOk.more (h : TabOk B M) (A : Ck) : TabOk (A :: B) M := ⟨fun q hq => (h.T q hq).more A, h.K, h.N⟩
theorem Z5E (hn : (ZV M n).isSome = false) : n ∉ M.map (·.1) := Z4Q.1 (by cases e : ZV M n with | none => rfl | some v => rw [e] at hn; cases hn)
theorem Z6o (hn : (ZV M n).isSome = false) : Z4d M n c = M ++ [(n, c)] := by unfold Z4d; rw [if_neg (Z5E hn)]
theorem TabOk.put (h : TabOk B M) (hn : (ZV M (nmX x)).isSome = false) (hx : CeT B x) (sa : Option Addr) (sc : Nat) : TabOk (stC ⟨x.x, sa, sc, x.S⟩ :: B) (Z4d M (nmX x) ⟨x.x, sa, sc, x.S⟩) := by
 rw [Z6o hn]
 refine ⟨fun q hq => ?_, fun q hq => ?_, ?_⟩
 ·rcases List.mem_append.1 hq with hq | hq
  ·exact (h.T q hq).more _
  ·rw [List.mem_singleton.1 hq]; exact ⟨hx.x, hx.S, hx.len, List.mem_cons_self⟩
 ·rcases List.mem_append.1 hq with hq | hq
  ·exact h.K q hq
  ·rw [List.mem_singleton.1 hq]; rfl
 ·rw [List.map_append, List.nodup_append]
  refine ⟨h.N, by simp, fun a ha b hb e => ?_⟩
  simp only [List.map_cons, List.map_nil, List.mem_singleton] at hb
  exact Z5E hn (by rw [← hb, ← e]; exact ha)
theorem rising (hn : ss.Nodup) (hs : ss.Pairwise fun a b => ¬ Z5Y b a) (hi : ss[i]? = some n) (hj : ss[j]? = some m) (hij : i < j) : Z5Y n m := by
 obtain ⟨hi', e1⟩ := List.getElem?_eq_some_iff.1 hi
 obtain ⟨hj', e2⟩ := List.getElem?_eq_some_iff.1 hj
 have h1 := List.pairwise_iff_getElem.1 hs i j hi' hj' hij
 have h2 := List.pairwise_iff_getElem.1 hn i j hi' hj' hij
 rw [e1, e2] at h1 h2
 unfold Z5Y at *
 obtain ⟨nc, ns⟩ := n
 obtain ⟨mc, ms⟩ := m
 simp only [NmD.mk.injEq, ne_eq] at h2
 simp only at *
 omega
end
def isR (x : Zg) (r : Int) (s : Z5) : Bool := decide (s.r = r) && Z1Z s x
def Z4m (x : Zg) (L : List Z5) (r : Nat) : Option Z5 := L.find? (isR x r)
def ZbD (x : Zg) (L : List Z5) (n : Nat) : List Z5 := (List.range n).filterMap (Z4m x L)
theorem Z36 {x : Zg} {L : List Z5} {r : Nat} {s : Z5} (h : Z4m x L r = some s) : s.r = r ∧ Z1Z s x = true ∧ s ∈ L := by
 have h1 := List.find?_some h
 have h2 := List.mem_of_find?_eq_some h
 simp only [isR, Bool.and_eq_true, decide_eq_true_eq] at h1
 exact ⟨h1.1, h1.2, h2⟩
theorem Z90 {x : Zg} {L : List Z5} {n : Nat} {s : Z5} : s ∈ ZbD x L n ↔ (0 ≤ s.r ∧ s.r < n) ∧ Z4m x L s.r.toNat = some s := by
 unfold ZbD
 rw [List.mem_filterMap]
 constructor
 ·rintro ⟨r, hr, hf⟩
  have := List.mem_range.1 hr
  obtain ⟨e, _, _⟩ := Z36 hf
  exact ⟨by omega, by rw [show s.r.toNat = r by omega]; exact hf⟩
 ·rintro ⟨hb, hf⟩
  exact ⟨s.r.toNat, List.mem_range.2 (by omega), hf⟩
theorem ZaJ (x : Zg) (L : List Z5) (n : Nat) : ZbD x L (n + 1) = ZbD x L n ++ (Z4m x L n).toList := by
 unfold ZbD
 rw [List.range_succ, List.filterMap_append]
 congr 1
end Go.Proofs.YtoaifondpohniaaGreat
