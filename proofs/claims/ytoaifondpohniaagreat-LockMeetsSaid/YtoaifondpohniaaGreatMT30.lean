/- WHAT IS PROVED: contracts and plain laws of LtP. Conditions: stated with each. -/
import Derived.Test.YtoaifondpohniaaGreatMT27
import Derived.Test.YtoaifondpohniaaGreatMT28
import Derived.Test.YtoaifondpohniaaGreatMT29
set_option maxHeartbeats 4000000
set_option maxRecDepth 100000
namespace Go.Proofs.YtoaifondpohniaaGreat
open Go.RowKit
theorem Z9x {M : List (NmD × CeR)} {ss : List NmD} {D : List CeR} {B Bh : List Ck} (h : HvC M ss D) (hs : ss.Perm (M.map (·.1))) (hM : ∀ q ∈ M, CeT B q.2) (hin : ∀ c ∈ D, stC c ∈ Bh) : ∀ c ∈ D, CeT Bh c := fun c hc => by
 have hm : Z9o c ∈ D.map Z9o := List.mem_map_of_mem hc
 rw [h] at hm
 obtain ⟨n, hn, e⟩ := List.mem_map.1 hm
 have hk : n ∈ M.map (·.1) := hs.subset hn
 have hsome : (Z6 M n).isSome = true := by
  cases q : Z6 M n with
  | none => exact absurd hk (Z51.1 q)
  | some v => rfl
 have hT := Z5h hM hsome
 unfold Z9o at e
 simp only [Prod.mk.injEq] at e
 exact ⟨e.1 ▸ hT.x, e.2 ▸ hT.S, e.2 ▸ hT.len, hin c hc⟩
theorem Z1w (w : World) (t tm : Nat) (F Cn rp : Int) (M : List (NmD × CeR)) (B : List Ck) (b mb : Nat) (Lb : List Signed) (hA : (ZI [Z1 t 121 [.int .i64 F, .int .i64 Cn, .int .i64 rp, .map (some tm)], ZA tm nmV ceV M, ZL B, Z1 b 110 [.map (some mb)], ZA mb Z7 (Value.int .i64) (Zh Lb)]).ok w) (hcT : ∀ q ∈ M, CeT B q.2) (hlM : M.length ≤ 64) (hrp : 0 ≤ rp ∧ rp ≤ 1000000) (_hnb : Lb.Nodup) (hlb : Lb.length ≤ 100000) (ep last til : Int) (hep : 0 ≤ ep ∧ ep ≤ 1048576) (htm : 0 ≤ last ∧ last < til ∧ til < 18446744073709551615) :
  Calls Tryz.prog 29 #[(.pointer (some ⟨t, 0, none⟩)), (.pointer (some ⟨b, 0, none⟩)), (.int .i64 (ep)), (.int .u64 (last)), (.int .u64 (til))] w fun e w' => ∃ ca cc L Bh ss, e = .returned (.tuple #[.agg ⟨encPr ⟨rp, ep, til, ca, cc, rp, Zm (Zg Lb (⟨rp, ZB (⟨rp, ep, til, ca, cc, 0, 0, (Zo L last til)⟩ : PrR)⟩ : Signed)) (⟨rp, ZB (⟨rp, ep, til, ca, cc, 0, 0, (Zo L last til)⟩ : PrR)⟩ : Signed), (Zo L last til)⟩⟩, (.int .i64 (0))]) ∧ ss.Perm (M.map (·.1)) ∧ (ss.Pairwise fun a b => ¬ Z7t b a) ∧ HvC M ss L ∧ (∀ c ∈ L, CeT Bh c) ∧ Sat w [Z1 t 121 [.int .i64 F, .int .i64 Cn, .int .i64 rp, .map (some tm)], ZA tm nmV ceV M, ZL B, Z1 b 110 [.map (some mb)], ZA mb Z7 (Value.int .i64) (Zh (Zg Lb (⟨rp, ZB (⟨rp, ep, til, ca, cc, 0, 0, (Zo L last til)⟩ : PrR)⟩ : Signed))), Zd 53 38 (.slice ca (Zo L last til).length cc) (Zo L last til).length ((Zo L last til).flatMap Z01), ZL Bh, Z5 w (ZI [Z1 t 121 [.int .i64 F, .int .i64 Cn, .int .i64 rp, .map (some tm)], ZA tm nmV ceV M, ZL B, Z1 b 110 [.map (some mb)], ZA mb Z7 (Value.int .i64) (Zh Lb)]).fp] w' := by
 have H := Sat.start0 w
 have H : Sat w [Z1 t 121 ([(.int .i64 (F)), (.int .i64 (Cn)), (.int .i64 (rp)), (.map (some tm))] : List Value), ZA tm nmV ceV M, ZL B, Z1 b 110 ([(.map (some mb))] : List Value), ZA mb Z7 (Value.int .i64) (Zh Lb), Z5 w (ZI [Z1 t 121 [.int .i64 F, .int .i64 Cn, .int .i64 rp, .map (some tm)], ZA tm nmV ceV M, ZL B, Z1 b 110 [.map (some mb)], ZA mb Z7 (Value.int .i64) (Zh Lb)]).fp] w := Sat.start _ hA
 refine Zr Tryz.func29 rfl 74 rfl (Nat.le_of_ble_eq_true rfl) ?_
 refine Zb ?_
 refine Zl ?_
 refine ZQ (Z0 rfl) (fun K1 hK1 => ?_)
 refine Z19 (zs := ([(.int .i64 (0)), (.int .i64 (0)), (.int .u64 (0)), (.slice none 0 0), (.int .i64 (0)), (.int .i64 (0))] : List Value)) (z := (.agg ⟨([(.int .i64 (0)), (.int .i64 (0)), (.int .u64 (0)), (.slice none 0 0), (.int .i64 (0)), (.int .i64 (0))] : List Value)⟩)) rfl H (by kernel_rfl) (by kernel_rfl) ?_
 intro b2 w3 (H4 : Sat w [Z1 t 121 ([(.int .i64 (F)), (.int .i64 (Cn)), (.int .i64 (rp)), (.map (some tm))] : List Value), ZA tm nmV ceV M, ZL B, Z1 b 110 ([(.map (some mb))] : List Value), ZA mb Z7 (Value.int .i64) (Zh Lb), Z5 w (ZI [Z1 t 121 [.int .i64 F, .int .i64 Cn, .int .i64 rp, .map (some tm)], ZA tm nmV ceV M, ZL B, Z1 b 110 [.map (some mb)], ZA mb Z7 (Value.int .i64) (Zh Lb)]).fp, Z1 b2 34 ([(.int .i64 (0)), (.int .i64 (0)), (.int .u64 (0)), (.slice none 0 0), (.int .i64 (0)), (.int .i64 (0))] : List Value)] w3)
 refine hK1 _ _ ?_
 clear hK1 K1
 refine Z3 (Z0 rfl) (d := 11) (v := (.int .i64 (0))) rfl (by kernel_rfl) ?_
 refine Zi ?_
 refine Z4 ?_
 refine Zb ?_
 refine ZO ?_
 refine Zb ?_
 refine Zl ?_
 refine Z3 (Z0 rfl) (d := 17) (v := (.int .i64 (ep))) rfl (by kernel_rfl) ?_
 refine Z3 (Z0 rfl) (d := 18) (v := (.bool (decide (ep < 0)))) rfl (by kernel_rfl) ?_
 refine Z3 (Z0 rfl) (d := 19) (v := (.bool (decide (ep < 0)))) rfl (by kernel_rfl) ?_
 have b5 : (decide (ep < 0)) = false := by exact decide_eq_false (by omega)
 refine ZV 19 (.bool false) (congrArg Value.bool b5) ?_
 have g6 := of_decide_eq_false b5
 refine Z3 (Zu 2 19 false rfl (by kernel_rfl) rfl (by kernel_rfl)) (d := 20) (v := (.int .i64 (ep))) rfl (by kernel_rfl) ?_
 refine Z3 (Zu 2 19 false rfl (by kernel_rfl) rfl (by kernel_rfl)) (d := 21) (v := (.bool (decide (ep > 1048576)))) rfl (by kernel_rfl) ?_
 refine Z3 (Z0 rfl) (d := 22) (v := (.bool (decide (ep > 1048576)))) rfl (by kernel_rfl) ?_
 refine Z3 (Z0 rfl) (d := 16) (v := (.bool (decide (ep > 1048576)))) rfl (by kernel_rfl) ?_
 refine Zi ?_
 refine Z4 ?_
 have b7 : (decide (ep > 1048576)) = false := by exact decide_eq_false (by omega)
 refine Zj 16 (.bool false) (congrArg Value.bool b7) ?_
 have g8 := of_decide_eq_false b7
 refine Z0r rfl ?_
 refine Zb ?_
 refine Zl ?_
 refine Z3 (Z0 rfl) (d := 25) (v := (.int .u64 (til))) rfl (by kernel_rfl) ?_
 refine Z3 (Z0 rfl) (d := 26) (v := (.int .u64 (last))) rfl (by kernel_rfl) ?_
 refine Z3 (Z0 rfl) (d := 27) (v := (.bool (decide (til ≤ last)))) rfl (by kernel_rfl) ?_
 refine Z3 (Z0 rfl) (d := 28) (v := (.bool (decide (til ≤ last)))) rfl (by kernel_rfl) ?_
 have b9 : (decide (til ≤ last)) = false := by exact decide_eq_false (by omega)
 refine ZV 28 (.bool false) (congrArg Value.bool b9) ?_
 have g10 := of_decide_eq_false b9
 refine Z3 (Zu 3 28 false rfl (by kernel_rfl) rfl (by kernel_rfl)) (d := 29) (v := (.int .u64 (til))) rfl (by kernel_rfl) ?_
 refine Z3 (Zu 3 28 false rfl (by kernel_rfl) rfl (by kernel_rfl)) (d := 30) (v := (.bool (decide (til = 18446744073709551615)))) rfl (by kernel_rfl) ?_
 refine Z3 (Z0 rfl) (d := 31) (v := (.bool (decide (til = 18446744073709551615)))) rfl (by kernel_rfl) ?_
 refine Z3 (Z0 rfl) (d := 24) (v := (.bool (decide (til = 18446744073709551615)))) rfl (by kernel_rfl) ?_
 refine Zi ?_
 refine Z4 ?_
 have b11 : (decide (til = 18446744073709551615)) = false := by exact decide_eq_false (by omega)
 refine Zj 24 (.bool false) (congrArg Value.bool b11) ?_
 have g12 := of_decide_eq_false b11
 refine Z0r rfl ?_
 refine ZZ ?_
 refine ZE ?_
 refine Z4 ?_
 refine Zb ?_
 refine Zl ?_
 refine Z3 (Z0 rfl) (d := 33) (v := (.pointer (some ⟨t, 0, none⟩))) rfl (by kernel_rfl) ?_
 refine Z3 (Z0 rfl) (d := 34) (v := (.pointer (some ⟨t, 0, none⟩))) rfl (by kernel_rfl) ?_
 refine Z3 (Z0 rfl) (d := 35) (v := (.pointer (some ⟨t, 2, none⟩))) rfl (by kernel_rfl) ?_
 refine Z3 (Z0 rfl) (d := 36) (v := (.int .i64 (rp))) rfl (Za rfl (by kernel_rfl) (H4.cell 0 rfl rfl)) ?_
 refine Z3 (Z0 rfl) (d := 37) (v := (.int .i64 (ep))) rfl (by kernel_rfl) ?_
 refine Z3 (Z0 rfl) (d := 38) (v := (.int .u64 (til))) rfl (by kernel_rfl) ?_
 refine Z3 (Z0 rfl) (d := 39) (v := (.agg ⟨([(.int .i64 (rp)), (.int .i64 (ep)), (.int .u64 (til)), (.slice none 0 0), (.int .i64 (0)), (.int .i64 (0))] : List Value)⟩)) rfl (by kernel_rfl) ?_
 refine ZQ (Z0 rfl) (fun K13 hK13 => ?_)
 refine Z19 (zs := ([(.int .i64 (0)), (.int .i64 (0)), (.int .u64 (0)), (.slice none 0 0), (.int .i64 (0)), (.int .i64 (0))] : List Value)) (z := (.agg ⟨([(.int .i64 (0)), (.int .i64 (0)), (.int .u64 (0)), (.slice none 0 0), (.int .i64 (0)), (.int .i64 (0))] : List Value)⟩)) rfl H4 (by kernel_rfl) (by kernel_rfl) ?_
 intro b14 w15 (H16 : Sat w [Z1 t 121 ([(.int .i64 (F)), (.int .i64 (Cn)), (.int .i64 (rp)), (.map (some tm))] : List Value), ZA tm nmV ceV M, ZL B, Z1 b 110 ([(.map (some mb))] : List Value), ZA mb Z7 (Value.int .i64) (Zh Lb), Z5 w (ZI [Z1 t 121 [.int .i64 F, .int .i64 Cn, .int .i64 rp, .map (some tm)], ZA tm nmV ceV M, ZL B, Z1 b 110 [.map (some mb)], ZA mb Z7 (Value.int .i64) (Zh Lb)]).fp, Z1 b2 34 ([(.int .i64 (0)), (.int .i64 (0)), (.int .u64 (0)), (.slice none 0 0), (.int .i64 (0)), (.int .i64 (0))] : List Value), Z1 b14 34 ([(.int .i64 (0)), (.int .i64 (0)), (.int .u64 (0)), (.slice none 0 0), (.int .i64 (0)), (.int .i64 (0))] : List Value)] w15)
 refine hK13 _ _ ?_
 clear hK13 K13
 refine ZQ (Z0 rfl) (fun K17 hK17 => ?_)
 refine Z0q (vs := ([(.int .i64 (rp)), (.int .i64 (ep)), (.int .u64 (til)), (.slice none 0 0), (.int .i64 (0)), (.int .i64 (0))] : List Value)) (cs' := ([(.int .i64 (rp)), (.int .i64 (ep)), (.int .u64 (til)), (.slice none 0 0), (.int .i64 (0)), (.int .i64 (0))] : List Value)) rfl H16 7 rfl rfl rfl rfl (by kernel_rfl) (Nat.le_of_ble_eq_true (by kernel_rfl)) (Nat.le_of_ble_eq_true (by kernel_rfl)) (by kernel_rfl) (by kernel_rfl) ?_
 intro w18 (H19 : Sat w [Z1 t 121 ([(.int .i64 (F)), (.int .i64 (Cn)), (.int .i64 (rp)), (.map (some tm))] : List Value), ZA tm nmV ceV M, ZL B, Z1 b 110 ([(.map (some mb))] : List Value), ZA mb Z7 (Value.int .i64) (Zh Lb), Z5 w (ZI [Z1 t 121 [.int .i64 F, .int .i64 Cn, .int .i64 rp, .map (some tm)], ZA tm nmV ceV M, ZL B, Z1 b 110 [.map (some mb)], ZA mb Z7 (Value.int .i64) (Zh Lb)]).fp, Z1 b2 34 ([(.int .i64 (0)), (.int .i64 (0)), (.int .u64 (0)), (.slice none 0 0), (.int .i64 (0)), (.int .i64 (0))] : List Value), Z1 b14 34 ([(.int .i64 (rp)), (.int .i64 (ep)), (.int .u64 (til)), (.slice none 0 0), (.int .i64 (0)), (.int .i64 (0))] : List Value)] w18)
 refine hK17 _ _ ?_
 clear hK17 K17
 refine Zi ?_
 refine Z4 ?_
 refine Zb ?_
 refine Zb ?_
 refine Zl ?_
 refine Z3 (Z0 rfl) (d := 40) (v := (.pointer (some ⟨t, 0, none⟩))) rfl (by kernel_rfl) ?_
 refine ZQ (Z0 rfl) (fun K21 hK21 => ?_)
 refine ZX (d := 41) rfl (by kernel_rfl) (Z7n w18 t tm F Cn rp M (H19.at 0 rfl) (H19.at 1 rfl) (fun q hq => ⟨(H19.at 2 rfl : (ZL B).ok _) _ (hcT q hq).bag, (hcT q hq).len⟩) hlM) ?_
 rintro _ w22 ⟨la, lc, L, Bh, ss, rfl, s23, p24, o25, i26, k27, u28, q29⟩
 have H30 : Sat w [Z1 t 121 ([(.int .i64 (F)), (.int .i64 (Cn)), (.int .i64 (rp)), (.map (some tm))] : List Value), ZA tm nmV ceV M, ZL B, Z1 b 110 ([(.map (some mb))] : List Value), ZA mb Z7 (Value.int .i64) (Zh Lb), Z5 w (ZI [Z1 t 121 [.int .i64 F, .int .i64 Cn, .int .i64 rp, .map (some tm)], ZA tm nmV ceV M, ZL B, Z1 b 110 [.map (some mb)], ZA mb Z7 (Value.int .i64) (Zh Lb)]).fp, Z1 b2 34 ([(.int .i64 (0)), (.int .i64 (0)), (.int .u64 (0)), (.slice none 0 0), (.int .i64 (0)), (.int .i64 (0))] : List Value), Z1 b14 34 ([(.int .i64 (rp)), (.int .i64 (ep)), (.int .u64 (til)), (.slice none 0 0), (.int .i64 (0)), (.int .i64 (0))] : List Value), ZI [Zd 53 38 (.slice la L.length lc) L.length (L.flatMap Z01), ZL Bh]] w22 := H19.addU u28 k27 q29
 have H31 : Sat w [Z1 t 121 ([(.int .i64 (F)), (.int .i64 (Cn)), (.int .i64 (rp)), (.map (some tm))] : List Value), ZA tm nmV ceV M, ZL B, Z1 b 110 ([(.map (some mb))] : List Value), ZA mb Z7 (Value.int .i64) (Zh Lb), Z5 w (ZI [Z1 t 121 [.int .i64 F, .int .i64 Cn, .int .i64 rp, .map (some tm)], ZA tm nmV ceV M, ZL B, Z1 b 110 [.map (some mb)], ZA mb Z7 (Value.int .i64) (Zh Lb)]).fp, Z1 b2 34 ([(.int .i64 (0)), (.int .i64 (0)), (.int .u64 (0)), (.slice none 0 0), (.int .i64 (0)), (.int .i64 (0))] : List Value), Z1 b14 34 ([(.int .i64 (rp)), (.int .i64 (ep)), (.int .u64 (til)), (.slice none 0 0), (.int .i64 (0)), (.int .i64 (0))] : List Value), Zd 53 38 (.slice la L.length lc) L.length (L.flatMap Z01), ZL Bh] w22 := H30.open 8 rfl
 refine ⟨_, rfl, ?_⟩
 have hcD := Z9x o25 s23 hcT i26
 have hlL : L.length ≤ 64 := by have q1 := Z5l o25; have q2 := s23.length_eq; rw [List.length_map] at q2; omega
 refine hK21 _ _ ?_
 clear hK21 K21
 refine Z3 (Z0 rfl) (d := 42) (v := (.int .i64 ((L.length : Int)))) rfl (by kernel_rfl) ?_
 refine Z3 (Z0 rfl) (d := 43) (v := (.int .i64 (0))) rfl (by kernel_rfl) ?_
 refine Zi ?_
 refine Z4 ?_
 refine ZO ?_
 have H32 := H31.addNil 53 38
 refine Z0c [14, 15, 43, 44, 45, 46, 47, 48, 49, 50, 51, 52, 53, 54, 55, 56, 57, 58, 59, 60, 61, 62, 63] (fun F_ W_ m_ => ∃ (i : Nat) (ca : Option Addr) (cc : Nat) (D : List CeR), F_ 43 = (.int .i64 ((i : Int))) ∧ (i ≤ L.length) ∧ (D = Zo (L.take i) last til) ∧ Sat w [Z1 t 121 ([(.int .i64 (F)), (.int .i64 (Cn)), (.int .i64 (rp)), (.map (some tm))] : List Value), ZA tm nmV ceV M, ZL B, Z1 b 110 ([(.map (some mb))] : List Value), ZA mb Z7 (Value.int .i64) (Zh Lb), Z5 w (ZI [Z1 t 121 [.int .i64 F, .int .i64 Cn, .int .i64 rp, .map (some tm)], ZA tm nmV ceV M, ZL B, Z1 b 110 [.map (some mb)], ZA mb Z7 (Value.int .i64) (Zh Lb)]).fp, Z1 b2 34 ([(.int .i64 (0)), (.int .i64 (0)), (.int .u64 (0)), (.slice none 0 0), (.int .i64 (0)), (.int .i64 (0))] : List Value), Z1 b14 34 ([(.int .i64 (rp)), (.int .i64 (ep)), (.int .u64 (til)), (.slice ca D.length cc), (.int .i64 (0)), (.int .i64 (0))] : List Value), Zd 53 38 (.slice la L.length lc) L.length (L.flatMap Z01), ZL Bh, Zd 53 38 (.slice ca D.length cc) D.length (D.flatMap Z01)] W_ ∧ m_ = L.length - i) _ ⟨0, none, 0, [], (show ((.int .i64 (0)) : Value) = _ by first | rfl | go_num), (Nat.zero_le _), rfl, H32, rfl⟩ ?_
 rintro g33 w34 _ ⟨i, ca, cc, D, v36, hi, hD, H35, rfl⟩
 refine Zj 43 _ v36 ?_
 have hDl : D.length ≤ 64 := by rw [hD]; have q := Z6R (L := L.take i) (last := last) (tm := til); rw [List.length_take] at q; omega
 refine Zb ?_
 refine Zl ?_
 refine Z3 (Z0 rfl) (d := 44) (v := (.bool (decide ((i : Int) < (L.length : Int))))) rfl (by kernel_rfl) ?_
 refine Zi ?_
 refine Z4 ?_
 refine Zb ?_
 refine (ZD (decide ((i : Int) < (L.length : Int)))).elim (fun b38 => ?_) (fun b38 => ?_)
 ·have g39 := of_decide_eq_true b38
  refine Zj 44 (.bool true) (congrArg Value.bool b38) ?_
  have g40 := of_decide_eq_true b38
  refine Z0p rfl ?_
  refine ZZ ?_
  refine Z4 ?_
  refine Zb ?_
  refine ZO ?_
  refine Zb ?_
  refine Zl ?_
  obtain ⟨g41, c42, e43⟩ := Z0P (H35.at 8 rfl) (by omega)
  obtain ⟨x44, h45⟩ := Z2a (show i < L.length by omega)
  refine Z3 (Z0 rfl) (d := 45) (v := (.pointer (some ⟨g41, 0 + ((i : Int)).toNat * 38, none⟩))) rfl (Z0I (E := 53) (by kernel_rfl) (by kernel_rfl) (Nat.le_of_ble_eq_true rfl) rfl e43 rfl (by omega) (by omega)) ?_
  refine Z3 (Z0 rfl) (d := 46) (v := (.agg ⟨(([(.int .i64 (x44.x.cl)), (.int .i64 (x44.x.seq))] : List Value) ++ hc x44.x.h ++ ([(.int .i64 (x44.x.len)), (.int .i64 (x44.x.sb)), (.int .i64 (x44.x.sm)), (.slice x44.sa x44.S.length x44.sc)] : List Value))⟩)) rfl (Z1C (vs := (([(.int .i64 (x44.x.cl)), (.int .i64 (x44.x.seq))] : List Value) ++ hc x44.x.h ++ ([(.int .i64 (x44.x.len)), (.int .i64 (x44.x.sb)), (.int .i64 (x44.x.sm)), (.slice x44.sa x44.S.length x44.sc)] : List Value))) rfl (by kernel_rfl) (by kernel_rfl) (Nat.le_of_ble_eq_true (by kernel_rfl)) (Z6G (H35.at 8 rfl) e43 Z2E h45 0 (show 0 + ((i : Int)).toNat * 38 = i * 38 + 0 by omega) (by kernel_rfl) (by kernel_rfl))) ?_
  refine ZQ (Z0 rfl) (fun K46 hK46 => ?_)
  refine Z19 (zs := (([(.int .i64 (0)), (.int .i64 (0))] : List Value) ++ hc Zt ++ ([(.int .i64 (0)), (.int .i64 (0)), (.int .i64 (0)), (.slice none 0 0)] : List Value))) (z := (.agg ⟨(([(.int .i64 (0)), (.int .i64 (0))] : List Value) ++ hc Zt ++ ([(.int .i64 (0)), (.int .i64 (0)), (.int .i64 (0)), (.slice none 0 0)] : List Value))⟩)) rfl H35 (by kernel_rfl) (by kernel_rfl) ?_
  intro b47 w48 (H49 : Sat w [Z1 t 121 ([(.int .i64 (F)), (.int .i64 (Cn)), (.int .i64 (rp)), (.map (some tm))] : List Value), ZA tm nmV ceV M, ZL B, Z1 b 110 ([(.map (some mb))] : List Value), ZA mb Z7 (Value.int .i64) (Zh Lb), Z5 w (ZI [Z1 t 121 [.int .i64 F, .int .i64 Cn, .int .i64 rp, .map (some tm)], ZA tm nmV ceV M, ZL B, Z1 b 110 [.map (some mb)], ZA mb Z7 (Value.int .i64) (Zh Lb)]).fp, Z1 b2 34 ([(.int .i64 (0)), (.int .i64 (0)), (.int .u64 (0)), (.slice none 0 0), (.int .i64 (0)), (.int .i64 (0))] : List Value), Z1 b14 34 ([(.int .i64 (rp)), (.int .i64 (ep)), (.int .u64 (til)), (.slice ca D.length cc), (.int .i64 (0)), (.int .i64 (0))] : List Value), Zd 53 38 (.slice la L.length lc) L.length (L.flatMap Z01), ZL Bh, Zd 53 38 (.slice ca D.length cc) D.length (D.flatMap Z01), Z1 b47 53 (([(.int .i64 (0)), (.int .i64 (0))] : List Value) ++ hc Zt ++ ([(.int .i64 (0)), (.int .i64 (0)), (.int .i64 (0)), (.slice none 0 0)] : List Value))] w48)
  refine hK46 _ _ ?_
  clear hK46 K46
  refine ZQ (Z0 rfl) (fun K50 hK50 => ?_)
  refine Z0q (vs := (([(.int .i64 (x44.x.cl)), (.int .i64 (x44.x.seq))] : List Value) ++ hc x44.x.h ++ ([(.int .i64 (x44.x.len)), (.int .i64 (x44.x.sb)), (.int .i64 (x44.x.sm)), (.slice x44.sa x44.S.length x44.sc)] : List Value))) (cs' := (([(.int .i64 (x44.x.cl)), (.int .i64 (x44.x.seq))] : List Value) ++ hc x44.x.h ++ ([(.int .i64 (x44.x.len)), (.int .i64 (x44.x.sb)), (.int .i64 (x44.x.sm)), (.slice x44.sa x44.S.length x44.sc)] : List Value))) rfl H49 11 rfl rfl rfl rfl (by kernel_rfl) (Nat.le_of_ble_eq_true (by kernel_rfl)) (Nat.le_of_ble_eq_true (by kernel_rfl)) (by kernel_rfl) (by kernel_rfl) ?_
  intro w51 (H52 : Sat w [Z1 t 121 ([(.int .i64 (F)), (.int .i64 (Cn)), (.int .i64 (rp)), (.map (some tm))] : List Value), ZA tm nmV ceV M, ZL B, Z1 b 110 ([(.map (some mb))] : List Value), ZA mb Z7 (Value.int .i64) (Zh Lb), Z5 w (ZI [Z1 t 121 [.int .i64 F, .int .i64 Cn, .int .i64 rp, .map (some tm)], ZA tm nmV ceV M, ZL B, Z1 b 110 [.map (some mb)], ZA mb Z7 (Value.int .i64) (Zh Lb)]).fp, Z1 b2 34 ([(.int .i64 (0)), (.int .i64 (0)), (.int .u64 (0)), (.slice none 0 0), (.int .i64 (0)), (.int .i64 (0))] : List Value), Z1 b14 34 ([(.int .i64 (rp)), (.int .i64 (ep)), (.int .u64 (til)), (.slice ca D.length cc), (.int .i64 (0)), (.int .i64 (0))] : List Value), Zd 53 38 (.slice la L.length lc) L.length (L.flatMap Z01), ZL Bh, Zd 53 38 (.slice ca D.length cc) D.length (D.flatMap Z01), Z1 b47 53 (([(.int .i64 (x44.x.cl)), (.int .i64 (x44.x.seq))] : List Value) ++ hc x44.x.h ++ ([(.int .i64 (x44.x.len)), (.int .i64 (x44.x.sb)), (.int .i64 (x44.x.sm)), (.slice x44.sa x44.S.length x44.sc)] : List Value))] w51)
  refine hK50 _ _ ?_
  clear hK50 K50
  refine Zi ?_
  refine Z4 ?_
  refine Zb ?_
  refine Zl ?_
  refine Z3 (Z0 rfl) (d := 47) (v := (.agg ⟨(([(.int .i64 (x44.x.cl)), (.int .i64 (x44.x.seq))] : List Value) ++ hc x44.x.h ++ ([(.int .i64 (x44.x.len)), (.int .i64 (x44.x.sb)), (.int .i64 (x44.x.sm)), (.slice x44.sa x44.S.length x44.sc)] : List Value))⟩)) rfl (Zs (vs := (([(.int .i64 (x44.x.cl)), (.int .i64 (x44.x.seq))] : List Value) ++ hc x44.x.h ++ ([(.int .i64 (x44.x.len)), (.int .i64 (x44.x.sb)), (.int .i64 (x44.x.sm)), (.slice x44.sa x44.S.length x44.sc)] : List Value))) rfl (by kernel_rfl) (by kernel_rfl) (by exact Nat.le_of_ble_eq_true (by kernel_rfl)) (H52.at 11 rfl) (by kernel_rfl)) ?_
  refine ZQ (Z0 rfl) (fun K54 hK54 => ?_)
  refine ZX (d := 48) rfl (by kernel_rfl) (Z1y w51 x44.x x44.sa x44.sc x44.S (Z3g (c := x44) (H52.at 9 rfl) (hcD _ (List.mem_of_getElem? h45)).bag) (hcD _ (List.mem_of_getElem? h45)).len) ?_
  rintro _ w55 ⟨rfl, u57⟩
  have H56 := H52.keepU u57
  refine ⟨_, rfl, ?_⟩
  refine hK54 _ _ ?_
  clear hK54 K54
  refine Z3 (Z0 rfl) (d := 15) (v := (.int .u64 (Z8 x44.S))) rfl (by kernel_rfl) ?_
  refine Zi ?_
  refine Z4 ?_
  refine Zb ?_
  refine Zl ?_
  refine Z3 (Z0 rfl) (d := 49) (v := (.int .u64 (Z8 x44.S))) rfl (by kernel_rfl) ?_
  refine Z3 (Z0 rfl) (d := 50) (v := (.int .u64 (last))) rfl (by kernel_rfl) ?_
  refine Z3 (Z0 rfl) (d := 51) (v := (.bool (decide ((Z8 x44.S) > last)))) rfl (by kernel_rfl) ?_
  refine Z3 (Z0 rfl) (d := 52) (v := (.bool (decide ((Z8 x44.S) > last)))) rfl (by kernel_rfl) ?_
  refine (ZD (decide ((Z8 x44.S) > last))).elim (fun b58 => ?_) (fun b58 => ?_)
  ·have g59 := of_decide_eq_true b58
   refine ZV 52 (.bool true) (congrArg Value.bool b58) ?_
   have g60 := of_decide_eq_true b58
   refine Z3 (Zu 3 52 true rfl (by kernel_rfl) rfl (by kernel_rfl)) (d := 53) (v := (.int .u64 (Z8 x44.S))) rfl (by kernel_rfl) ?_
   refine Z3 (Zu 3 52 true rfl (by kernel_rfl) rfl (by kernel_rfl)) (d := 54) (v := (.int .u64 (til))) rfl (by kernel_rfl) ?_
   refine Z3 (Zu 3 52 true rfl (by kernel_rfl) rfl (by kernel_rfl)) (d := 55) (v := (.bool (decide ((Z8 x44.S) ≤ til)))) rfl (by kernel_rfl) ?_
   refine Z3 (Z0 rfl) (d := 56) (v := (.bool (decide ((Z8 x44.S) ≤ til)))) rfl (by kernel_rfl) ?_
   refine Zi ?_
   refine Z4 ?_
   refine (ZD (decide ((Z8 x44.S) ≤ til))).elim (fun b61 => ?_) (fun b61 => ?_)
   ·have g62 := of_decide_eq_true b61
    refine Zj 56 (.bool true) (congrArg Value.bool b61) ?_
    have g63 := of_decide_eq_true b61
    refine Z0p rfl ?_
    refine Zl ?_
    refine Z3 (Z0 rfl) (d := 57) (v := (.pointer (some ⟨b14, 3, none⟩))) rfl (by kernel_rfl) ?_
    refine Z3 (Z0 rfl) (d := 58) (v := (.slice ca D.length cc)) rfl (Za rfl (by kernel_rfl) (H56.cell 7 rfl rfl)) ?_
    refine Z3 (Z0 rfl) (d := 59) (v := (.agg ⟨(([(.int .i64 (x44.x.cl)), (.int .i64 (x44.x.seq))] : List Value) ++ hc x44.x.h ++ ([(.int .i64 (x44.x.len)), (.int .i64 (x44.x.sb)), (.int .i64 (x44.x.sm)), (.slice x44.sa x44.S.length x44.sc)] : List Value))⟩)) rfl (Zs (vs := (([(.int .i64 (x44.x.cl)), (.int .i64 (x44.x.seq))] : List Value) ++ hc x44.x.h ++ ([(.int .i64 (x44.x.len)), (.int .i64 (x44.x.sb)), (.int .i64 (x44.x.sm)), (.slice x44.sa x44.S.length x44.sc)] : List Value))) rfl (by kernel_rfl) (by kernel_rfl) (by exact Nat.le_of_ble_eq_true (by kernel_rfl)) (H56.at 11 rfl) (by kernel_rfl)) ?_
    refine ZQ (Z0 rfl) (fun K64 hK64 => ?_)
    refine Z05 (e := 53) (size := 38) (bytes := 96) (z := (.agg ⟨(([(.int .i64 (0)), (.int .i64 (0))] : List Value) ++ hc Zt ++ ([(.int .i64 (0)), (.int .i64 (0)), (.int .i64 (0)), (.slice none 0 0)] : List Value))⟩)) (pvs := [(0, (.agg ⟨(([(.int .i64 (x44.x.cl)), (.int .i64 (x44.x.seq))] : List Value) ++ hc x44.x.h ++ ([(.int .i64 (x44.x.len)), (.int .i64 (x44.x.sb)), (.int .i64 (x44.x.sm)), (.slice x44.sa x44.S.length x44.sc)] : List Value))⟩))]) (vs := (([(.int .i64 (x44.x.cl)), (.int .i64 (x44.x.seq))] : List Value) ++ hc x44.x.h ++ ([(.int .i64 (x44.x.len)), (.int .i64 (x44.x.sb)), (.int .i64 (x44.x.sm)), (.slice x44.sa x44.S.length x44.sc)] : List Value))) rfl H56 (by kernel_rfl) (by kernel_rfl) (by kernel_rfl) (by kernel_rfl) (by kernel_rfl) rfl rfl ?_
    intro b65 w66 (H67 : Sat w [Z1 t 121 ([(.int .i64 (F)), (.int .i64 (Cn)), (.int .i64 (rp)), (.map (some tm))] : List Value), ZA tm nmV ceV M, ZL B, Z1 b 110 ([(.map (some mb))] : List Value), ZA mb Z7 (Value.int .i64) (Zh Lb), Z5 w (ZI [Z1 t 121 [.int .i64 F, .int .i64 Cn, .int .i64 rp, .map (some tm)], ZA tm nmV ceV M, ZL B, Z1 b 110 [.map (some mb)], ZA mb Z7 (Value.int .i64) (Zh Lb)]).fp, Z1 b2 34 ([(.int .i64 (0)), (.int .i64 (0)), (.int .u64 (0)), (.slice none 0 0), (.int .i64 (0)), (.int .i64 (0))] : List Value), Z1 b14 34 ([(.int .i64 (rp)), (.int .i64 (ep)), (.int .u64 (til)), (.slice ca D.length cc), (.int .i64 (0)), (.int .i64 (0))] : List Value), Zd 53 38 (.slice la L.length lc) L.length (L.flatMap Z01), ZL Bh, Zd 53 38 (.slice ca D.length cc) D.length (D.flatMap Z01), Z1 b47 53 (([(.int .i64 (x44.x.cl)), (.int .i64 (x44.x.seq))] : List Value) ++ hc x44.x.h ++ ([(.int .i64 (x44.x.len)), (.int .i64 (x44.x.sb)), (.int .i64 (x44.x.sm)), (.slice x44.sa x44.S.length x44.sc)] : List Value)), Zd 53 38 (.slice (some ⟨b65, 0, none⟩) 1 1) 1 (([(.int .i64 (x44.x.cl)), (.int .i64 (x44.x.seq))] : List Value) ++ hc x44.x.h ++ ([(.int .i64 (x44.x.len)), (.int .i64 (x44.x.sb)), (.int .i64 (x44.x.sm)), (.slice x44.sa x44.S.length x44.sc)] : List Value))] w66)
    have H68 : Sat w [Z1 t 121 ([(.int .i64 (F)), (.int .i64 (Cn)), (.int .i64 (rp)), (.map (some tm))] : List Value), ZA tm nmV ceV M, ZL B, Z1 b 110 ([(.map (some mb))] : List Value), ZA mb Z7 (Value.int .i64) (Zh Lb), Z5 w (ZI [Z1 t 121 [.int .i64 F, .int .i64 Cn, .int .i64 rp, .map (some tm)], ZA tm nmV ceV M, ZL B, Z1 b 110 [.map (some mb)], ZA mb Z7 (Value.int .i64) (Zh Lb)]).fp, Z1 b2 34 ([(.int .i64 (0)), (.int .i64 (0)), (.int .u64 (0)), (.slice none 0 0), (.int .i64 (0)), (.int .i64 (0))] : List Value), Z1 b14 34 ([(.int .i64 (rp)), (.int .i64 (ep)), (.int .u64 (til)), (.slice ca D.length cc), (.int .i64 (0)), (.int .i64 (0))] : List Value), Zd 53 38 (.slice la L.length lc) L.length (L.flatMap Z01), ZL Bh, Zd 53 38 (.slice ca D.length cc) D.length (D.flatMap Z01), Z1 b47 53 (([(.int .i64 (x44.x.cl)), (.int .i64 (x44.x.seq))] : List Value) ++ hc x44.x.h ++ ([(.int .i64 (x44.x.len)), (.int .i64 (x44.x.sb)), (.int .i64 (x44.x.sm)), (.slice x44.sa x44.S.length x44.sc)] : List Value)), Zd 53 38 (.slice (some ⟨b65, 0, none⟩) 1 1) 1 ([x44].flatMap Z01)] w66 := H67.cast (by rw [(show ((([(.int .i64 (x44.x.cl)), (.int .i64 (x44.x.seq))] : List Value) ++ hc x44.x.h ++ ([(.int .i64 (x44.x.len)), (.int .i64 (x44.x.sb)), (.int .i64 (x44.x.sm)), (.slice x44.sa x44.S.length x44.sc)] : List Value)) : List Value) = [x44].flatMap Z01 by kernel_rfl)])
    refine hK64 _ _ ?_
    clear hK64 K64
    refine ZQ (Z0 rfl) (fun K69 hK69 => ?_)
    refine Z17 (T := 32) (e := 53) (size := 38) (bytes := 96) rfl H68 (by kernel_rfl) 10 12 rfl rfl rfl rfl (Z0Z Z01 Z60 [x44]) (by omega) (by omega) ?_
    intro v70 w71 (H72 : Sat w [Z1 t 121 ([(.int .i64 (F)), (.int .i64 (Cn)), (.int .i64 (rp)), (.map (some tm))] : List Value), ZA tm nmV ceV M, ZL B, Z1 b 110 ([(.map (some mb))] : List Value), ZA mb Z7 (Value.int .i64) (Zh Lb), Z5 w (ZI [Z1 t 121 [.int .i64 F, .int .i64 Cn, .int .i64 rp, .map (some tm)], ZA tm nmV ceV M, ZL B, Z1 b 110 [.map (some mb)], ZA mb Z7 (Value.int .i64) (Zh Lb)]).fp, Z1 b2 34 ([(.int .i64 (0)), (.int .i64 (0)), (.int .u64 (0)), (.slice none 0 0), (.int .i64 (0)), (.int .i64 (0))] : List Value), Z1 b14 34 ([(.int .i64 (rp)), (.int .i64 (ep)), (.int .u64 (til)), (.slice ca D.length cc), (.int .i64 (0)), (.int .i64 (0))] : List Value), Zd 53 38 (.slice la L.length lc) L.length (L.flatMap Z01), ZL Bh, Zd 53 38 v70 (D.length + 1) ((D.flatMap Z01) ++ ([x44].flatMap Z01)), Z1 b47 53 (([(.int .i64 (x44.x.cl)), (.int .i64 (x44.x.seq))] : List Value) ++ hc x44.x.h ++ ([(.int .i64 (x44.x.len)), (.int .i64 (x44.x.sb)), (.int .i64 (x44.x.sm)), (.slice x44.sa x44.S.length x44.sc)] : List Value)), Zd 53 38 (.slice (some ⟨b65, 0, none⟩) 1 1) 1 ([x44].flatMap Z01)] w71)
    have H75 : Sat w [Z1 t 121 ([(.int .i64 (F)), (.int .i64 (Cn)), (.int .i64 (rp)), (.map (some tm))] : List Value), ZA tm nmV ceV M, ZL B, Z1 b 110 ([(.map (some mb))] : List Value), ZA mb Z7 (Value.int .i64) (Zh Lb), Z5 w (ZI [Z1 t 121 [.int .i64 F, .int .i64 Cn, .int .i64 rp, .map (some tm)], ZA tm nmV ceV M, ZL B, Z1 b 110 [.map (some mb)], ZA mb Z7 (Value.int .i64) (Zh Lb)]).fp, Z1 b2 34 ([(.int .i64 (0)), (.int .i64 (0)), (.int .u64 (0)), (.slice none 0 0), (.int .i64 (0)), (.int .i64 (0))] : List Value), Z1 b14 34 ([(.int .i64 (rp)), (.int .i64 (ep)), (.int .u64 (til)), (.slice ca D.length cc), (.int .i64 (0)), (.int .i64 (0))] : List Value), Zd 53 38 (.slice la L.length lc) L.length (L.flatMap Z01), ZL Bh, Zd 53 38 v70 ((D ++ [x44]).length) ((D ++ [x44]).flatMap Z01), Z1 b47 53 (([(.int .i64 (x44.x.cl)), (.int .i64 (x44.x.seq))] : List Value) ++ hc x44.x.h ++ ([(.int .i64 (x44.x.len)), (.int .i64 (x44.x.sb)), (.int .i64 (x44.x.sm)), (.slice x44.sa x44.S.length x44.sc)] : List Value)), Zd 53 38 (.slice (some ⟨b65, 0, none⟩) 1 1) 1 ([x44].flatMap Z01)] w71 := H72.cast (by simp only [List.length_append, List.flatMap_append] <;> rfl)
    obtain ⟨a73, c74, rfl⟩ := Z9 (H75.at 10 rfl)
    refine hK69 _ _ ?_
    clear hK69 K69
    refine Z3 (Z0 rfl) (d := 62) (v := (.pointer (some ⟨b14, 3, none⟩))) rfl (by kernel_rfl) ?_
    refine ZQ (Z0 rfl) (fun K76 hK76 => ?_)
    refine Z0q (vs := ([(.slice a73 ((D ++ [x44]).length) c74)] : List Value)) (cs' := ([(.int .i64 (rp)), (.int .i64 (ep)), (.int .u64 (til)), (.slice a73 ((D ++ [x44]).length) c74), (.int .i64 (0)), (.int .i64 (0))] : List Value)) rfl H75 7 rfl rfl rfl rfl (by kernel_rfl) (Nat.le_of_ble_eq_true (by kernel_rfl)) (Nat.le_of_ble_eq_true (by kernel_rfl)) (by kernel_rfl) (by kernel_rfl) ?_
    intro w77 (H78 : Sat w [Z1 t 121 ([(.int .i64 (F)), (.int .i64 (Cn)), (.int .i64 (rp)), (.map (some tm))] : List Value), ZA tm nmV ceV M, ZL B, Z1 b 110 ([(.map (some mb))] : List Value), ZA mb Z7 (Value.int .i64) (Zh Lb), Z5 w (ZI [Z1 t 121 [.int .i64 F, .int .i64 Cn, .int .i64 rp, .map (some tm)], ZA tm nmV ceV M, ZL B, Z1 b 110 [.map (some mb)], ZA mb Z7 (Value.int .i64) (Zh Lb)]).fp, Z1 b2 34 ([(.int .i64 (0)), (.int .i64 (0)), (.int .u64 (0)), (.slice none 0 0), (.int .i64 (0)), (.int .i64 (0))] : List Value), Z1 b14 34 ([(.int .i64 (rp)), (.int .i64 (ep)), (.int .u64 (til)), (.slice a73 ((D ++ [x44]).length) c74), (.int .i64 (0)), (.int .i64 (0))] : List Value), Zd 53 38 (.slice la L.length lc) L.length (L.flatMap Z01), ZL Bh, Zd 53 38 (.slice a73 ((D ++ [x44]).length) c74) ((D ++ [x44]).length) ((D ++ [x44]).flatMap Z01), Z1 b47 53 (([(.int .i64 (x44.x.cl)), (.int .i64 (x44.x.seq))] : List Value) ++ hc x44.x.h ++ ([(.int .i64 (x44.x.len)), (.int .i64 (x44.x.sb)), (.int .i64 (x44.x.sm)), (.slice x44.sa x44.S.length x44.sc)] : List Value)), Zd 53 38 (.slice (some ⟨b65, 0, none⟩) 1 1) 1 ([x44].flatMap Z01)] w77)
    refine hK76 _ _ ?_
    clear hK76 K76
    refine Zi ?_
    refine ZE ?_
    refine Z4 ?_
    refine Zl ?_
    refine Z3 (Z0 rfl) (d := 63) (v := (.int .i64 ((i : Int) + 1))) rfl (Z0l (z := (i : Int) + 1) (by kernel_rfl) (IntWalk.i64_in _ (by omega))) ?_
    refine Z3 (Z0 rfl) (d := 43) (v := (.int .i64 ((i : Int) + 1))) rfl (by kernel_rfl) ?_
    refine Zi ?_
    have H80 : Sat w [Z1 t 121 ([(.int .i64 (F)), (.int .i64 (Cn)), (.int .i64 (rp)), (.map (some tm))] : List Value), ZA tm nmV ceV M, ZL B, Z1 b 110 ([(.map (some mb))] : List Value), ZA mb Z7 (Value.int .i64) (Zh Lb), Z5 w (ZI [Z1 t 121 [.int .i64 F, .int .i64 Cn, .int .i64 rp, .map (some tm)], ZA tm nmV ceV M, ZL B, Z1 b 110 [.map (some mb)], ZA mb Z7 (Value.int .i64) (Zh Lb)]).fp, Z1 b2 34 ([(.int .i64 (0)), (.int .i64 (0)), (.int .u64 (0)), (.slice none 0 0), (.int .i64 (0)), (.int .i64 (0))] : List Value), Z1 b14 34 ([(.int .i64 (rp)), (.int .i64 (ep)), (.int .u64 (til)), (.slice a73 ((D ++ [x44]).length) c74), (.int .i64 (0)), (.int .i64 (0))] : List Value), Zd 53 38 (.slice la L.length lc) L.length (L.flatMap Z01), ZL Bh, Zd 53 38 (.slice a73 ((D ++ [x44]).length) c74) ((D ++ [x44]).length) ((D ++ [x44]).flatMap Z01)] w77 := H78.pick [0, 1, 2, 3, 4, 5, 6, 7, 8, 9, 10] (by decide)
    refine ZH ?_ _ ⟨(i + 1), a73, c74, (D ++ [x44]), (show ((.int .i64 ((i : Int) + 1)) : Value) = _ by first | rfl | go_num), (by omega), (Z8I hD h45 b58 b61), H80, rfl⟩ (by omega)
    exact (Z2 rfl (Z2 rfl (Z2 rfl (Z2 rfl (Z2 rfl (Z2 rfl (Z2 rfl (Z2 rfl (Z2 rfl (Z2 rfl (Z2 rfl (Z2 rfl (Z2 rfl (Z2 rfl (Z2 rfl (Z2 rfl (Z2 rfl (Z2 rfl (Z2 rfl (Z2 rfl (Z2 rfl (Z2 rfl (Z2 rfl (Z2 rfl (Z2 rfl (Z2 rfl (Z2 rfl (Z0S))))))))))))))))))))))))))))
   ·have g81 := of_decide_eq_false b61
    refine Zj 56 (.bool false) (congrArg Value.bool b61) ?_
    have g82 := of_decide_eq_false b61
    refine Z0r rfl ?_
    refine ZZ ?_
    refine ZE ?_
    refine Z4 ?_
    refine Zl ?_
    refine Z3 (Z0 rfl) (d := 63) (v := (.int .i64 ((i : Int) + 1))) rfl (Z0l (z := (i : Int) + 1) (by kernel_rfl) (IntWalk.i64_in _ (by omega))) ?_
    refine Z3 (Z0 rfl) (d := 43) (v := (.int .i64 ((i : Int) + 1))) rfl (by kernel_rfl) ?_
    refine Zi ?_
    have H83 : Sat w [Z1 t 121 ([(.int .i64 (F)), (.int .i64 (Cn)), (.int .i64 (rp)), (.map (some tm))] : List Value), ZA tm nmV ceV M, ZL B, Z1 b 110 ([(.map (some mb))] : List Value), ZA mb Z7 (Value.int .i64) (Zh Lb), Z5 w (ZI [Z1 t 121 [.int .i64 F, .int .i64 Cn, .int .i64 rp, .map (some tm)], ZA tm nmV ceV M, ZL B, Z1 b 110 [.map (some mb)], ZA mb Z7 (Value.int .i64) (Zh Lb)]).fp, Z1 b2 34 ([(.int .i64 (0)), (.int .i64 (0)), (.int .u64 (0)), (.slice none 0 0), (.int .i64 (0)), (.int .i64 (0))] : List Value), Z1 b14 34 ([(.int .i64 (rp)), (.int .i64 (ep)), (.int .u64 (til)), (.slice ca D.length cc), (.int .i64 (0)), (.int .i64 (0))] : List Value), Zd 53 38 (.slice la L.length lc) L.length (L.flatMap Z01), ZL Bh, Zd 53 38 (.slice ca D.length cc) D.length (D.flatMap Z01)] w55 := H56.pick [0, 1, 2, 3, 4, 5, 6, 7, 8, 9, 10] (by decide)
    refine ZH ?_ _ ⟨(i + 1), ca, cc, D, (show ((.int .i64 ((i : Int) + 1)) : Value) = _ by first | rfl | go_num), (by omega), (Z8x hD h45 b61), H83, rfl⟩ (by omega)
    exact (Z2 rfl (Z2 rfl (Z2 rfl (Z2 rfl (Z2 rfl (Z2 rfl (Z2 rfl (Z2 rfl (Z2 rfl (Z2 rfl (Z2 rfl (Z2 rfl (Z2 rfl (Z2 rfl (Z2 rfl (Z2 rfl (Z2 rfl (Z2 rfl (Z2 rfl (Z2 rfl (Z2 rfl (Z0S))))))))))))))))))))))
  ·have g84 := of_decide_eq_false b58
   refine ZV 52 (.bool false) (congrArg Value.bool b58) ?_
   have g85 := of_decide_eq_false b58
   refine ZC (Zn 3 52 true rfl (by kernel_rfl) rfl (by kernel_rfl)) rfl ?_
   refine ZC (Zn 3 52 true rfl (by kernel_rfl) rfl (by kernel_rfl)) rfl ?_
   refine ZC (Zn 3 52 true rfl (by kernel_rfl) rfl (by kernel_rfl)) rfl ?_
   refine Z3 (Z0 rfl) (d := 56) (v := (.bool false)) rfl (by kernel_rfl) ?_
   refine Zi ?_
   refine Z4 ?_
   refine Z0r rfl ?_
   refine ZZ ?_
   refine ZE ?_
   refine Z4 ?_
   refine Zl ?_
   refine Z3 (Z0 rfl) (d := 63) (v := (.int .i64 ((i : Int) + 1))) rfl (Z0l (z := (i : Int) + 1) (by kernel_rfl) (IntWalk.i64_in _ (by omega))) ?_
   refine Z3 (Z0 rfl) (d := 43) (v := (.int .i64 ((i : Int) + 1))) rfl (by kernel_rfl) ?_
   refine Zi ?_
   have H86 : Sat w [Z1 t 121 ([(.int .i64 (F)), (.int .i64 (Cn)), (.int .i64 (rp)), (.map (some tm))] : List Value), ZA tm nmV ceV M, ZL B, Z1 b 110 ([(.map (some mb))] : List Value), ZA mb Z7 (Value.int .i64) (Zh Lb), Z5 w (ZI [Z1 t 121 [.int .i64 F, .int .i64 Cn, .int .i64 rp, .map (some tm)], ZA tm nmV ceV M, ZL B, Z1 b 110 [.map (some mb)], ZA mb Z7 (Value.int .i64) (Zh Lb)]).fp, Z1 b2 34 ([(.int .i64 (0)), (.int .i64 (0)), (.int .u64 (0)), (.slice none 0 0), (.int .i64 (0)), (.int .i64 (0))] : List Value), Z1 b14 34 ([(.int .i64 (rp)), (.int .i64 (ep)), (.int .u64 (til)), (.slice ca D.length cc), (.int .i64 (0)), (.int .i64 (0))] : List Value), Zd 53 38 (.slice la L.length lc) L.length (L.flatMap Z01), ZL Bh, Zd 53 38 (.slice ca D.length cc) D.length (D.flatMap Z01)] w55 := H56.pick [0, 1, 2, 3, 4, 5, 6, 7, 8, 9, 10] (by decide)
   refine ZH ?_ _ ⟨(i + 1), ca, cc, D, (show ((.int .i64 ((i : Int) + 1)) : Value) = _ by first | rfl | go_num), (by omega), (Z90 hD h45 b58), H86, rfl⟩ (by omega)
   exact (Z2 rfl (Z2 rfl (Z2 rfl (Z2 rfl (Z2 rfl (Z2 rfl (Z2 rfl (Z2 rfl (Z2 rfl (Z2 rfl (Z2 rfl (Z2 rfl (Z2 rfl (Z2 rfl (Z2 rfl (Z2 rfl (Z2 rfl (Z2 rfl (Z2 rfl (Z2 rfl (Z0S)))))))))))))))))))))
 ·have g87 := of_decide_eq_false b38
  refine Zj 44 (.bool false) (congrArg Value.bool b38) ?_
  have g88 := of_decide_eq_false b38
  refine Z0r rfl ?_
  refine Z2i ?_
  refine Z0Y ?_
  refine Z10 ?_
  refine Z1u ?_
  refine Z4 ?_
  refine Zb ?_
  have hDf : D = Zo L last til := by rw [hD, List.take_of_length_le (by omega)]
  refine Z1v H35 [Z1 t 121 ([(.int .i64 (F)), (.int .i64 (Cn)), (.int .i64 (rp)), (.map (some tm))] : List Value), ZA tm nmV ceV M, ZL B, Z5 w (ZI [Z1 t 121 [.int .i64 F, .int .i64 Cn, .int .i64 rp, .map (some tm)], ZA tm nmV ceV M, ZL B, Z1 b 110 [.map (some mb)], ZA mb Z7 (Value.int .i64) (Zh Lb)]).fp, Z1 b2 34 ([(.int .i64 (0)), (.int .i64 (0)), (.int .u64 (0)), (.slice none 0 0), (.int .i64 (0)), (.int .i64 (0))] : List Value), Z1 b14 34 ([(.int .i64 (rp)), (.int .i64 (ep)), (.int .u64 (til)), (.slice ca D.length cc), (.int .i64 (0)), (.int .i64 (0))] : List Value), Zd 53 38 (.slice la L.length lc) L.length (L.flatMap Z01), ZL Bh, Zd 53 38 (.slice ca D.length cc) D.length (D.flatMap Z01)] [9] 10 rfl (by kernel_rfl) (fun Hx => (Hx.pick [0, 1, 2, 5, 6, 7, 8, 9, 10] (by decide))) ?_
  intro w89 H90 S91
  refine Z0g 0 rfl (by kernel_rfl) (by kernel_rfl) (by kernel_rfl) (fun _ _ _ h => h) S91 (Z0 rfl) rfl (d := 64) (v := (.pointer (some ⟨b, 0, none⟩))) rfl (fun _ => (by kernel_rfl)) ?_
  refine Z0g 1 rfl (by kernel_rfl) (by kernel_rfl) (by kernel_rfl) (fun _ _ _ h => h) S91 (Z0 rfl) rfl (d := 65) (v := (.pointer (some ⟨t, 0, none⟩))) rfl (fun _ => (by kernel_rfl)) ?_
  refine Z0g 2 rfl (by kernel_rfl) (by kernel_rfl) (by kernel_rfl) (fun _ _ _ h => h) S91 (Z0 rfl) rfl (d := 66) (v := (.pointer (some ⟨t, 0, none⟩))) rfl (fun _ => (by kernel_rfl)) ?_
  refine Z0g 3 rfl (by kernel_rfl) (by kernel_rfl) (by kernel_rfl) (fun _ _ _ h => h) S91 (Z0 rfl) rfl (d := 67) (v := (.pointer (some ⟨t, 2, none⟩))) rfl (fun _ => (by kernel_rfl)) ?_
  refine Z3e 4 rfl (by kernel_rfl) (by kernel_rfl) (by kernel_rfl) (fun _ _ _ h => h) S91 (Z0 rfl) rfl (by kernel_rfl) (d := 68) (v := (.int .i64 (rp))) rfl (fun _ H' => (Za rfl (by kernel_rfl) (H'.cell 0 rfl rfl))) ?_
  refine Z3e 5 rfl (by kernel_rfl) (by kernel_rfl) (by kernel_rfl) (fun _ _ _ h => h) S91 (Z0 rfl) rfl (by kernel_rfl) (d := 69) (v := (.agg ⟨([(.int .i64 (rp)), (.int .i64 (ep)), (.int .u64 (til)), (.slice ca D.length cc), (.int .i64 (0)), (.int .i64 (0))] : List Value)⟩)) rfl (fun _ H' => (Zs (vs := ([(.int .i64 (rp)), (.int .i64 (ep)), (.int .u64 (til)), (.slice ca D.length cc), (.int .i64 (0)), (.int .i64 (0))] : List Value)) rfl (by kernel_rfl) (by kernel_rfl) (by exact Nat.le_of_ble_eq_true (by kernel_rfl)) (H'.at 5 rfl) (by kernel_rfl))) ?_
  refine Z7r 6 rfl (by kernel_rfl) (Z0 rfl) rfl (fun K92 hK92 => ?_)
  refine ZX (d := 70) rfl (by kernel_rfl) (Z2B w89 (⟨rp, ep, til, ca, cc, 0, 0, D⟩ : PrR) (ListAt.row Z2E (by decide) (H90.at 10 rfl)) (fun i hi => (hcD _ (Z2O (L := L) (last := last) (tm := til) (by rw [← hDf]; exact Z3i hi))).cb (H90.at 9 rfl)) hDl ⟨by show rp ≤ _; omega, by show ep ≤ _; omega, by show 0 ≤ til; omega, by show til < _; omega⟩) ?_
  rintro _ w93 ⟨u94, rfl, k95, p96, q97⟩
  have H98 : Sat w [Z1 t 121 ([(.int .i64 (F)), (.int .i64 (Cn)), (.int .i64 (rp)), (.map (some tm))] : List Value), ZA tm nmV ceV M, ZL B, Z1 b 110 ([(.map (some mb))] : List Value), ZA mb Z7 (Value.int .i64) (Zh Lb), Z5 w (ZI [Z1 t 121 [.int .i64 F, .int .i64 Cn, .int .i64 rp, .map (some tm)], ZA tm nmV ceV M, ZL B, Z1 b 110 [.map (some mb)], ZA mb Z7 (Value.int .i64) (Zh Lb)]).fp, Z1 b2 34 ([(.int .i64 (0)), (.int .i64 (0)), (.int .u64 (0)), (.slice none 0 0), (.int .i64 (0)), (.int .i64 (0))] : List Value), Z1 b14 34 ([(.int .i64 (rp)), (.int .i64 (ep)), (.int .u64 (til)), (.slice ca D.length cc), (.int .i64 (0)), (.int .i64 (0))] : List Value), Zd 53 38 (.slice la L.length lc) L.length (L.flatMap Z01), ZL Bh, Zd 53 38 (.slice ca D.length cc) D.length (D.flatMap Z01), Zd 5 1 u94 ((ZB (⟨rp, ep, til, ca, cc, 0, 0, D⟩ : PrR)).length) ((ZB (⟨rp, ep, til, ca, cc, 0, 0, D⟩ : PrR)).flatMap Zw)] w93 := H90.addU p96 k95 q97
  obtain ⟨a99, c100, rfl⟩ := Z9 (H98.at 11 rfl)
  refine ⟨_, rfl, ?_⟩
  have hpl := Z7Y (p := (⟨rp, ep, til, ca, cc, 0, 0, D⟩ : PrR)) (fun c hm => Nat.le_trans (hcD _ (Z2O (L := L) (last := last) (tm := til) (by rw [← hDf]; exact hm))).len (by decide)) hDl
  have S101 := H98.pick [0, 1, 2, 5, 6, 7, 8, 9, 10] (by decide)
  refine hK92 _ _ S101 ?_
  clear hK92 K92
  refine Z7r 7 rfl (by kernel_rfl) (Z0 rfl) rfl (fun K102 hK102 => ?_)
  refine ZX (d := 71) rfl (by kernel_rfl) (Z2K w93 b mb Lb (.slice a99 ((ZB (⟨rp, ep, til, ca, cc, 0, 0, D⟩ : PrR)).length) c100) (ZB (⟨rp, ep, til, ca, cc, 0, 0, D⟩ : PrR)) (H98.fin [3, 4, 11] (by decide) rfl) (by omega) rp) ?_
  rintro _ w103 ⟨rfl, T104⟩
  have H105 : Sat w [Z1 t 121 ([(.int .i64 (F)), (.int .i64 (Cn)), (.int .i64 (rp)), (.map (some tm))] : List Value), ZA tm nmV ceV M, ZL B, Z1 b 110 ([(.map (some mb))] : List Value), ZA mb Z7 (Value.int .i64) (Zh (Zg Lb (⟨rp, (ZB (⟨rp, ep, til, ca, cc, 0, 0, D⟩ : PrR))⟩ : Signed))), Z5 w (ZI [Z1 t 121 [.int .i64 F, .int .i64 Cn, .int .i64 rp, .map (some tm)], ZA tm nmV ceV M, ZL B, Z1 b 110 [.map (some mb)], ZA mb Z7 (Value.int .i64) (Zh Lb)]).fp, Z1 b2 34 ([(.int .i64 (0)), (.int .i64 (0)), (.int .u64 (0)), (.slice none 0 0), (.int .i64 (0)), (.int .i64 (0))] : List Value), Z1 b14 34 ([(.int .i64 (rp)), (.int .i64 (ep)), (.int .u64 (til)), (.slice ca D.length cc), (.int .i64 (0)), (.int .i64 (0))] : List Value), Zd 53 38 (.slice la L.length lc) L.length (L.flatMap Z01), ZL Bh, Zd 53 38 (.slice ca D.length cc) D.length (D.flatMap Z01), Zd 5 1 (.slice a99 ((ZB (⟨rp, ep, til, ca, cc, 0, 0, D⟩ : PrR)).length) c100) ((ZB (⟨rp, ep, til, ca, cc, 0, 0, D⟩ : PrR)).length) ((ZB (⟨rp, ep, til, ca, cc, 0, 0, D⟩ : PrR)).flatMap Zw)] w103 := (Sat.turnL (L' := [Z1 b 110 ([(.map (some mb))] : List Value), ZA mb Z7 (Value.int .i64) (Zh (Zg Lb (⟨rp, (ZB (⟨rp, ep, til, ca, cc, 0, 0, D⟩ : PrR))⟩ : Signed))), Zd 5 1 (.slice a99 ((ZB (⟨rp, ep, til, ca, cc, 0, 0, D⟩ : PrR)).length) c100) ((ZB (⟨rp, ep, til, ca, cc, 0, 0, D⟩ : PrR)).length) ((ZB (⟨rp, ep, til, ca, cc, 0, 0, D⟩ : PrR)).flatMap Zw)]) (R := [Z1 t 121 ([(.int .i64 (F)), (.int .i64 (Cn)), (.int .i64 (rp)), (.map (some tm))] : List Value), ZA tm nmV ceV M, ZL B, Z5 w (ZI [Z1 t 121 [.int .i64 F, .int .i64 Cn, .int .i64 rp, .map (some tm)], ZA tm nmV ceV M, ZL B, Z1 b 110 [.map (some mb)], ZA mb Z7 (Value.int .i64) (Zh Lb)]).fp, Z1 b2 34 ([(.int .i64 (0)), (.int .i64 (0)), (.int .u64 (0)), (.slice none 0 0), (.int .i64 (0)), (.int .i64 (0))] : List Value), Z1 b14 34 ([(.int .i64 (rp)), (.int .i64 (ep)), (.int .u64 (til)), (.slice ca D.length cc), (.int .i64 (0)), (.int .i64 (0))] : List Value), Zd 53 38 (.slice la L.length lc) L.length (L.flatMap Z01), ZL Bh, Zd 53 38 (.slice ca D.length cc) D.length (D.flatMap Z01)]) H98 [3, 4, 11] [0, 1, 2, 5, 6, 7, 8, 9, 10] (by decide) (by kernel_rfl) rfl T104).pick [3, 4, 5, 0, 1, 6, 7, 8, 9, 10, 11, 2] (by decide)
  refine ⟨_, rfl, ?_⟩
  have S106 := H105.pick [0, 1, 2, 5, 6, 7, 8, 9, 10] (by decide)
  refine hK102 _ _ S106 ?_
  clear hK102 K102
  refine Z0g 8 rfl (by kernel_rfl) (by kernel_rfl) (by kernel_rfl) (fun _ _ _ h => h) S106 (Z0 rfl) rfl (d := 72) (v := (.pointer (some ⟨b14, 4, none⟩))) rfl (fun _ => (by kernel_rfl)) ?_
  refine Z3l 9 (Sat w [Z1 t 121 ([(.int .i64 (F)), (.int .i64 (Cn)), (.int .i64 (rp)), (.map (some tm))] : List Value), ZA tm nmV ceV M, ZL B, Z5 w (ZI [Z1 t 121 [.int .i64 F, .int .i64 Cn, .int .i64 rp, .map (some tm)], ZA tm nmV ceV M, ZL B, Z1 b 110 [.map (some mb)], ZA mb Z7 (Value.int .i64) (Zh Lb)]).fp, Z1 b2 34 ([(.int .i64 (0)), (.int .i64 (0)), (.int .u64 (0)), (.slice none 0 0), (.int .i64 (0)), (.int .i64 (0))] : List Value), Zd 53 38 (.slice la L.length lc) L.length (L.flatMap Z01), ZL Bh, Zd 53 38 (.slice ca D.length cc) D.length (D.flatMap Z01)]) rfl (by kernel_rfl) (Z0 rfl) rfl (fun K107 hK107 => ?_)
  refine Z0q (vs := ([(.int .i64 (rp)), (.int .i64 (Zm (Zg Lb (⟨rp, (ZB (⟨rp, ep, til, ca, cc, 0, 0, D⟩ : PrR))⟩ : Signed)) (⟨rp, (ZB (⟨rp, ep, til, ca, cc, 0, 0, D⟩ : PrR))⟩ : Signed)))] : List Value)) (cs' := ([(.int .i64 (rp)), (.int .i64 (ep)), (.int .u64 (til)), (.slice ca D.length cc), (.int .i64 (rp)), (.int .i64 (Zm (Zg Lb (⟨rp, (ZB (⟨rp, ep, til, ca, cc, 0, 0, D⟩ : PrR))⟩ : Signed)) (⟨rp, (ZB (⟨rp, ep, til, ca, cc, 0, 0, D⟩ : PrR))⟩ : Signed)))] : List Value)) rfl H105 7 rfl rfl rfl rfl (by kernel_rfl) (Nat.le_of_ble_eq_true (by kernel_rfl)) (Nat.le_of_ble_eq_true (by kernel_rfl)) (by kernel_rfl) (by kernel_rfl) ?_
  intro w108 (H109 : Sat w [Z1 t 121 ([(.int .i64 (F)), (.int .i64 (Cn)), (.int .i64 (rp)), (.map (some tm))] : List Value), ZA tm nmV ceV M, ZL B, Z1 b 110 ([(.map (some mb))] : List Value), ZA mb Z7 (Value.int .i64) (Zh (Zg Lb (⟨rp, (ZB (⟨rp, ep, til, ca, cc, 0, 0, D⟩ : PrR))⟩ : Signed))), Z5 w (ZI [Z1 t 121 [.int .i64 F, .int .i64 Cn, .int .i64 rp, .map (some tm)], ZA tm nmV ceV M, ZL B, Z1 b 110 [.map (some mb)], ZA mb Z7 (Value.int .i64) (Zh Lb)]).fp, Z1 b2 34 ([(.int .i64 (0)), (.int .i64 (0)), (.int .u64 (0)), (.slice none 0 0), (.int .i64 (0)), (.int .i64 (0))] : List Value), Z1 b14 34 ([(.int .i64 (rp)), (.int .i64 (ep)), (.int .u64 (til)), (.slice ca D.length cc), (.int .i64 (rp)), (.int .i64 (Zm (Zg Lb (⟨rp, (ZB (⟨rp, ep, til, ca, cc, 0, 0, D⟩ : PrR))⟩ : Signed)) (⟨rp, (ZB (⟨rp, ep, til, ca, cc, 0, 0, D⟩ : PrR))⟩ : Signed)))] : List Value), Zd 53 38 (.slice la L.length lc) L.length (L.flatMap Z01), ZL Bh, Zd 53 38 (.slice ca D.length cc) D.length (D.flatMap Z01), Zd 5 1 (.slice a99 ((ZB (⟨rp, ep, til, ca, cc, 0, 0, D⟩ : PrR)).length) c100) ((ZB (⟨rp, ep, til, ca, cc, 0, 0, D⟩ : PrR)).length) ((ZB (⟨rp, ep, til, ca, cc, 0, 0, D⟩ : PrR)).flatMap Zw)] w108)
  have S111 := H109.pick [0, 1, 2, 5, 6, 8, 9, 10] (by decide)
  refine hK107 _ _ S111 ?_
  clear hK107 K107
  refine Z20 (by kernel_rfl) ?_
  refine Z4 ?_
  refine Zb ?_
  refine Zl ?_
  refine Z3 (Z0 rfl) (d := 73) (v := (.agg ⟨([(.int .i64 (rp)), (.int .i64 (ep)), (.int .u64 (til)), (.slice ca D.length cc), (.int .i64 (rp)), (.int .i64 (Zm (Zg Lb (⟨rp, (ZB (⟨rp, ep, til, ca, cc, 0, 0, D⟩ : PrR))⟩ : Signed)) (⟨rp, (ZB (⟨rp, ep, til, ca, cc, 0, 0, D⟩ : PrR))⟩ : Signed)))] : List Value)⟩)) rfl (Zs (vs := ([(.int .i64 (rp)), (.int .i64 (ep)), (.int .u64 (til)), (.slice ca D.length cc), (.int .i64 (rp)), (.int .i64 (Zm (Zg Lb (⟨rp, (ZB (⟨rp, ep, til, ca, cc, 0, 0, D⟩ : PrR))⟩ : Signed)) (⟨rp, (ZB (⟨rp, ep, til, ca, cc, 0, 0, D⟩ : PrR))⟩ : Signed)))] : List Value)) rfl (by kernel_rfl) (by kernel_rfl) (by exact Nat.le_of_ble_eq_true (by kernel_rfl)) (H109.at 7 rfl) (by kernel_rfl)) ?_
  refine ZQ (Z0 rfl) (fun K112 hK112 => ?_)
  refine Z0q (vs := ([(.int .i64 (rp)), (.int .i64 (ep)), (.int .u64 (til)), (.slice ca D.length cc), (.int .i64 (rp)), (.int .i64 (Zm (Zg Lb (⟨rp, (ZB (⟨rp, ep, til, ca, cc, 0, 0, D⟩ : PrR))⟩ : Signed)) (⟨rp, (ZB (⟨rp, ep, til, ca, cc, 0, 0, D⟩ : PrR))⟩ : Signed)))] : List Value)) (cs' := ([(.int .i64 (rp)), (.int .i64 (ep)), (.int .u64 (til)), (.slice ca D.length cc), (.int .i64 (rp)), (.int .i64 (Zm (Zg Lb (⟨rp, (ZB (⟨rp, ep, til, ca, cc, 0, 0, D⟩ : PrR))⟩ : Signed)) (⟨rp, (ZB (⟨rp, ep, til, ca, cc, 0, 0, D⟩ : PrR))⟩ : Signed)))] : List Value)) rfl H109 6 rfl rfl rfl rfl (by kernel_rfl) (Nat.le_of_ble_eq_true (by kernel_rfl)) (Nat.le_of_ble_eq_true (by kernel_rfl)) (by kernel_rfl) (by kernel_rfl) ?_
  intro w113 (H114 : Sat w [Z1 t 121 ([(.int .i64 (F)), (.int .i64 (Cn)), (.int .i64 (rp)), (.map (some tm))] : List Value), ZA tm nmV ceV M, ZL B, Z1 b 110 ([(.map (some mb))] : List Value), ZA mb Z7 (Value.int .i64) (Zh (Zg Lb (⟨rp, (ZB (⟨rp, ep, til, ca, cc, 0, 0, D⟩ : PrR))⟩ : Signed))), Z5 w (ZI [Z1 t 121 [.int .i64 F, .int .i64 Cn, .int .i64 rp, .map (some tm)], ZA tm nmV ceV M, ZL B, Z1 b 110 [.map (some mb)], ZA mb Z7 (Value.int .i64) (Zh Lb)]).fp, Z1 b2 34 ([(.int .i64 (rp)), (.int .i64 (ep)), (.int .u64 (til)), (.slice ca D.length cc), (.int .i64 (rp)), (.int .i64 (Zm (Zg Lb (⟨rp, (ZB (⟨rp, ep, til, ca, cc, 0, 0, D⟩ : PrR))⟩ : Signed)) (⟨rp, (ZB (⟨rp, ep, til, ca, cc, 0, 0, D⟩ : PrR))⟩ : Signed)))] : List Value), Z1 b14 34 ([(.int .i64 (rp)), (.int .i64 (ep)), (.int .u64 (til)), (.slice ca D.length cc), (.int .i64 (rp)), (.int .i64 (Zm (Zg Lb (⟨rp, (ZB (⟨rp, ep, til, ca, cc, 0, 0, D⟩ : PrR))⟩ : Signed)) (⟨rp, (ZB (⟨rp, ep, til, ca, cc, 0, 0, D⟩ : PrR))⟩ : Signed)))] : List Value), Zd 53 38 (.slice la L.length lc) L.length (L.flatMap Z01), ZL Bh, Zd 53 38 (.slice ca D.length cc) D.length (D.flatMap Z01), Zd 5 1 (.slice a99 ((ZB (⟨rp, ep, til, ca, cc, 0, 0, D⟩ : PrR)).length) c100) ((ZB (⟨rp, ep, til, ca, cc, 0, 0, D⟩ : PrR)).length) ((ZB (⟨rp, ep, til, ca, cc, 0, 0, D⟩ : PrR)).flatMap Zw)] w113)
  refine hK112 _ _ ?_
  clear hK112 K112
  refine Z3 (Z0 rfl) (d := 11) (v := (.int .i64 (0))) rfl (by kernel_rfl) ?_
  refine Zi ?_
  refine Z4 ?_
  refine ZY ?_
  refine Z7s rfl (Z0e (vs := ([(.int .i64 (rp)), (.int .i64 (ep)), (.int .u64 (til)), (.slice ca D.length cc), (.int .i64 (rp)), (.int .i64 (Zm (Zg Lb (⟨rp, (ZB (⟨rp, ep, til, ca, cc, 0, 0, D⟩ : PrR))⟩ : Signed)) (⟨rp, (ZB (⟨rp, ep, til, ca, cc, 0, 0, D⟩ : PrR))⟩ : Signed)))] : List Value)) rfl (by kernel_rfl) (by kernel_rfl) (by exact Nat.le_of_ble_eq_true (by kernel_rfl)) (H114.at 6 rfl) (by kernel_rfl)) (ZJ (v := (.int .i64 (0))) rfl) ?_
  subst hDf
  exact ⟨ca, cc, L, Bh, ss, rfl, s23, p24, o25, hcD, H114.pick [0, 1, 2, 3, 4, 10, 9, 5] (by decide)⟩
end Go.Proofs.YtoaifondpohniaaGreat
