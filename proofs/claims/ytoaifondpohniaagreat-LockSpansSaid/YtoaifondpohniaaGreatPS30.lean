/- WHAT IS PROVED: contracts and plain laws of LtP. Conditions: stated with each. -/
import Derived.Test.YtoaifondpohniaaGreatPS27
import Derived.Test.YtoaifondpohniaaGreatPS28
import Derived.Test.YtoaifondpohniaaGreatPS29
set_option maxHeartbeats 4000000
set_option maxRecDepth 100000
namespace Go.Proofs.YtoaifondpohniaaGreat
open Go.RowKit
theorem Z6G {M : List (NmD × CeR)} {ss : List NmD} {D : List CeR} {B Bh : List Ck} (h : HvC M ss D) (hs : ss.Perm (M.map (·.1))) (hM : ∀ q ∈ M, CeT B q.2) (hin : ∀ c ∈ D, stC c ∈ Bh) : ∀ c ∈ D, CeT Bh c := fun c hc => by
 have hm : Z4G c ∈ D.map Z4G := List.mem_map_of_mem hc
 rw [h] at hm
 obtain ⟨n, hn, e⟩ := List.mem_map.1 hm
 have hk : n ∈ M.map (·.1) := hs.subset hn
 have hsome : (Z7 M n).isSome = true := by
  cases q : Z7 M n with
  | none => exact absurd hk (Z36.1 q)
  | some v => rfl
 have hT := Z4F hM hsome
 unfold Z4G at e
 simp only [Prod.mk.injEq] at e
 exact ⟨e.1 ▸ hT.x, e.2 ▸ hT.S, e.2 ▸ hT.len, hin c hc⟩
theorem Z1o (w : World) (t tm : Nat) (F Cn rp : Int) (M : List (NmD × CeR)) (B : List Ck) (b mb : Nat) (Lb : List Signed) (hA : (ZH [Z3 t 121 [.int .i64 F, .int .i64 Cn, .int .i64 rp, .map (some tm)], ZC tm nmV ceV M, ZI B, Z3 b 110 [.map (some mb)], ZC mb Za (Value.int .i64) (Zq Lb)]).ok w) (hcT : ∀ q ∈ M, CeT B q.2) (hlM : M.length ≤ 64) (hrp : 0 ≤ rp ∧ rp ≤ 1000000) (_hnb : Lb.Nodup) (hlb : Lb.length ≤ 100000) (ep last til : Int) (hep : 0 ≤ ep ∧ ep ≤ 1048576) (htm : 0 ≤ last ∧ last < til ∧ til < 18446744073709551615) :
  Calls Tryz.prog 29 #[(.pointer (some ⟨t, 0, none⟩)), (.pointer (some ⟨b, 0, none⟩)), (.int .i64 (ep)), (.int .u64 (last)), (.int .u64 (til))] w fun e w' => ∃ ca cc L Bh ss, e = .returned (.tuple #[.agg ⟨encPr ⟨rp, ep, til, ca, cc, rp, Zt (Zg Lb (⟨rp, Zy (⟨rp, ep, til, ca, cc, 0, 0, (Zf L last til)⟩ : PrR)⟩ : Signed)) (⟨rp, Zy (⟨rp, ep, til, ca, cc, 0, 0, (Zf L last til)⟩ : PrR)⟩ : Signed), (Zf L last til)⟩⟩, (.int .i64 (0))]) ∧ ss.Perm (M.map (·.1)) ∧ (ss.Pairwise fun a b => ¬ Z52 b a) ∧ HvC M ss L ∧ (∀ c ∈ L, CeT Bh c) ∧ Sat w [Z3 t 121 [.int .i64 F, .int .i64 Cn, .int .i64 rp, .map (some tm)], ZC tm nmV ceV M, ZI B, Z3 b 110 [.map (some mb)], ZC mb Za (Value.int .i64) (Zq (Zg Lb (⟨rp, Zy (⟨rp, ep, til, ca, cc, 0, 0, (Zf L last til)⟩ : PrR)⟩ : Signed))), Zb 53 38 (.slice ca (Zf L last til).length cc) (Zf L last til).length ((Zf L last til).flatMap ZK), ZI Bh, Z6 w (ZH [Z3 t 121 [.int .i64 F, .int .i64 Cn, .int .i64 rp, .map (some tm)], ZC tm nmV ceV M, ZI B, Z3 b 110 [.map (some mb)], ZC mb Za (Value.int .i64) (Zq Lb)]).fp] w' := by
 have H := Sat.start0 w
 have H : Sat w [Z3 t 121 ([(.int .i64 (F)), (.int .i64 (Cn)), (.int .i64 (rp)), (.map (some tm))] : List Value), ZC tm nmV ceV M, ZI B, Z3 b 110 ([(.map (some mb))] : List Value), ZC mb Za (Value.int .i64) (Zq Lb), Z6 w (ZH [Z3 t 121 [.int .i64 F, .int .i64 Cn, .int .i64 rp, .map (some tm)], ZC tm nmV ceV M, ZI B, Z3 b 110 [.map (some mb)], ZC mb Za (Value.int .i64) (Zq Lb)]).fp] w := Sat.start _ hA
 refine ZE Tryz.func29 rfl 74 rfl (Nat.le_of_ble_eq_true rfl) ?_
 refine Zc ?_
 refine Zp ?_
 refine ZA (Z1 rfl) (fun K1 hK1 => ?_)
 refine Z0e (zs := ([(.int .i64 (0)), (.int .i64 (0)), (.int .u64 (0)), (.slice none 0 0), (.int .i64 (0)), (.int .i64 (0))] : List Value)) (z := (.agg ⟨([(.int .i64 (0)), (.int .i64 (0)), (.int .u64 (0)), (.slice none 0 0), (.int .i64 (0)), (.int .i64 (0))] : List Value)⟩)) rfl H (by kernel_rfl) (by kernel_rfl) ?_
 intro b2 w3 (H4 : Sat w [Z3 t 121 ([(.int .i64 (F)), (.int .i64 (Cn)), (.int .i64 (rp)), (.map (some tm))] : List Value), ZC tm nmV ceV M, ZI B, Z3 b 110 ([(.map (some mb))] : List Value), ZC mb Za (Value.int .i64) (Zq Lb), Z6 w (ZH [Z3 t 121 [.int .i64 F, .int .i64 Cn, .int .i64 rp, .map (some tm)], ZC tm nmV ceV M, ZI B, Z3 b 110 [.map (some mb)], ZC mb Za (Value.int .i64) (Zq Lb)]).fp, Z3 b2 34 ([(.int .i64 (0)), (.int .i64 (0)), (.int .u64 (0)), (.slice none 0 0), (.int .i64 (0)), (.int .i64 (0))] : List Value)] w3)
 refine hK1 _ _ ?_
 clear hK1 K1
 refine Z2 (Z1 rfl) (d := 11) (v := (.int .i64 (0))) rfl (by kernel_rfl) ?_
 refine Zm ?_
 refine Z4 ?_
 refine Zc ?_
 refine ZR ?_
 refine Zc ?_
 refine Zp ?_
 refine Z2 (Z1 rfl) (d := 17) (v := (.int .i64 (ep))) rfl (by kernel_rfl) ?_
 refine Z2 (Z1 rfl) (d := 18) (v := (.bool (decide (ep < 0)))) rfl (by kernel_rfl) ?_
 refine Z2 (Z1 rfl) (d := 19) (v := (.bool (decide (ep < 0)))) rfl (by kernel_rfl) ?_
 have b5 : (decide (ep < 0)) = false := by exact decide_eq_false (by omega)
 refine Z02 19 (.bool false) (congrArg Value.bool b5) ?_
 have g6 := of_decide_eq_false b5
 refine Z2 (Zj 2 19 false rfl (by kernel_rfl) rfl (by kernel_rfl)) (d := 20) (v := (.int .i64 (ep))) rfl (by kernel_rfl) ?_
 refine Z2 (Zj 2 19 false rfl (by kernel_rfl) rfl (by kernel_rfl)) (d := 21) (v := (.bool (decide (ep > 1048576)))) rfl (by kernel_rfl) ?_
 refine Z2 (Z1 rfl) (d := 22) (v := (.bool (decide (ep > 1048576)))) rfl (by kernel_rfl) ?_
 refine Z2 (Z1 rfl) (d := 16) (v := (.bool (decide (ep > 1048576)))) rfl (by kernel_rfl) ?_
 refine Zm ?_
 refine Z4 ?_
 have b7 : (decide (ep > 1048576)) = false := by exact decide_eq_false (by omega)
 refine Zs 16 (.bool false) (congrArg Value.bool b7) ?_
 have g8 := of_decide_eq_false b7
 refine Z09 rfl ?_
 refine Zc ?_
 refine Zp ?_
 refine Z2 (Z1 rfl) (d := 25) (v := (.int .u64 (til))) rfl (by kernel_rfl) ?_
 refine Z2 (Z1 rfl) (d := 26) (v := (.int .u64 (last))) rfl (by kernel_rfl) ?_
 refine Z2 (Z1 rfl) (d := 27) (v := (.bool (decide (til ≤ last)))) rfl (by kernel_rfl) ?_
 refine Z2 (Z1 rfl) (d := 28) (v := (.bool (decide (til ≤ last)))) rfl (by kernel_rfl) ?_
 have b9 : (decide (til ≤ last)) = false := by exact decide_eq_false (by omega)
 refine Z02 28 (.bool false) (congrArg Value.bool b9) ?_
 have g10 := of_decide_eq_false b9
 refine Z2 (Zj 3 28 false rfl (by kernel_rfl) rfl (by kernel_rfl)) (d := 29) (v := (.int .u64 (til))) rfl (by kernel_rfl) ?_
 refine Z2 (Zj 3 28 false rfl (by kernel_rfl) rfl (by kernel_rfl)) (d := 30) (v := (.bool (decide (til = 18446744073709551615)))) rfl (by kernel_rfl) ?_
 refine Z2 (Z1 rfl) (d := 31) (v := (.bool (decide (til = 18446744073709551615)))) rfl (by kernel_rfl) ?_
 refine Z2 (Z1 rfl) (d := 24) (v := (.bool (decide (til = 18446744073709551615)))) rfl (by kernel_rfl) ?_
 refine Zm ?_
 refine Z4 ?_
 have b11 : (decide (til = 18446744073709551615)) = false := by exact decide_eq_false (by omega)
 refine Zs 24 (.bool false) (congrArg Value.bool b11) ?_
 have g12 := of_decide_eq_false b11
 refine Z09 rfl ?_
 refine Z0b ?_
 refine ZL ?_
 refine Z4 ?_
 refine Zc ?_
 refine Zp ?_
 refine Z2 (Z1 rfl) (d := 33) (v := (.pointer (some ⟨t, 0, none⟩))) rfl (by kernel_rfl) ?_
 refine Z2 (Z1 rfl) (d := 34) (v := (.pointer (some ⟨t, 0, none⟩))) rfl (by kernel_rfl) ?_
 refine Z2 (Z1 rfl) (d := 35) (v := (.pointer (some ⟨t, 2, none⟩))) rfl (by kernel_rfl) ?_
 refine Z2 (Z1 rfl) (d := 36) (v := (.int .i64 (rp))) rfl (Zi rfl (by kernel_rfl) (H4.cell 0 rfl rfl)) ?_
 refine Z2 (Z1 rfl) (d := 37) (v := (.int .i64 (ep))) rfl (by kernel_rfl) ?_
 refine Z2 (Z1 rfl) (d := 38) (v := (.int .u64 (til))) rfl (by kernel_rfl) ?_
 refine Z2 (Z1 rfl) (d := 39) (v := (.agg ⟨([(.int .i64 (rp)), (.int .i64 (ep)), (.int .u64 (til)), (.slice none 0 0), (.int .i64 (0)), (.int .i64 (0))] : List Value)⟩)) rfl (by kernel_rfl) ?_
 refine ZA (Z1 rfl) (fun K13 hK13 => ?_)
 refine Z0e (zs := ([(.int .i64 (0)), (.int .i64 (0)), (.int .u64 (0)), (.slice none 0 0), (.int .i64 (0)), (.int .i64 (0))] : List Value)) (z := (.agg ⟨([(.int .i64 (0)), (.int .i64 (0)), (.int .u64 (0)), (.slice none 0 0), (.int .i64 (0)), (.int .i64 (0))] : List Value)⟩)) rfl H4 (by kernel_rfl) (by kernel_rfl) ?_
 intro b14 w15 (H16 : Sat w [Z3 t 121 ([(.int .i64 (F)), (.int .i64 (Cn)), (.int .i64 (rp)), (.map (some tm))] : List Value), ZC tm nmV ceV M, ZI B, Z3 b 110 ([(.map (some mb))] : List Value), ZC mb Za (Value.int .i64) (Zq Lb), Z6 w (ZH [Z3 t 121 [.int .i64 F, .int .i64 Cn, .int .i64 rp, .map (some tm)], ZC tm nmV ceV M, ZI B, Z3 b 110 [.map (some mb)], ZC mb Za (Value.int .i64) (Zq Lb)]).fp, Z3 b2 34 ([(.int .i64 (0)), (.int .i64 (0)), (.int .u64 (0)), (.slice none 0 0), (.int .i64 (0)), (.int .i64 (0))] : List Value), Z3 b14 34 ([(.int .i64 (0)), (.int .i64 (0)), (.int .u64 (0)), (.slice none 0 0), (.int .i64 (0)), (.int .i64 (0))] : List Value)] w15)
 refine hK13 _ _ ?_
 clear hK13 K13
 refine ZA (Z1 rfl) (fun K17 hK17 => ?_)
 refine ZU (vs := ([(.int .i64 (rp)), (.int .i64 (ep)), (.int .u64 (til)), (.slice none 0 0), (.int .i64 (0)), (.int .i64 (0))] : List Value)) (cs' := ([(.int .i64 (rp)), (.int .i64 (ep)), (.int .u64 (til)), (.slice none 0 0), (.int .i64 (0)), (.int .i64 (0))] : List Value)) rfl H16 7 rfl rfl rfl rfl (by kernel_rfl) (Nat.le_of_ble_eq_true (by kernel_rfl)) (Nat.le_of_ble_eq_true (by kernel_rfl)) (by kernel_rfl) (by kernel_rfl) ?_
 intro w18 (H19 : Sat w [Z3 t 121 ([(.int .i64 (F)), (.int .i64 (Cn)), (.int .i64 (rp)), (.map (some tm))] : List Value), ZC tm nmV ceV M, ZI B, Z3 b 110 ([(.map (some mb))] : List Value), ZC mb Za (Value.int .i64) (Zq Lb), Z6 w (ZH [Z3 t 121 [.int .i64 F, .int .i64 Cn, .int .i64 rp, .map (some tm)], ZC tm nmV ceV M, ZI B, Z3 b 110 [.map (some mb)], ZC mb Za (Value.int .i64) (Zq Lb)]).fp, Z3 b2 34 ([(.int .i64 (0)), (.int .i64 (0)), (.int .u64 (0)), (.slice none 0 0), (.int .i64 (0)), (.int .i64 (0))] : List Value), Z3 b14 34 ([(.int .i64 (rp)), (.int .i64 (ep)), (.int .u64 (til)), (.slice none 0 0), (.int .i64 (0)), (.int .i64 (0))] : List Value)] w18)
 refine hK17 _ _ ?_
 clear hK17 K17
 refine Zm ?_
 refine Z4 ?_
 refine Zc ?_
 refine Zc ?_
 refine Zp ?_
 refine Z2 (Z1 rfl) (d := 40) (v := (.pointer (some ⟨t, 0, none⟩))) rfl (by kernel_rfl) ?_
 refine ZA (Z1 rfl) (fun K21 hK21 => ?_)
 refine Zv (d := 41) rfl (by kernel_rfl) (Z4j w18 t tm F Cn rp M (H19.at 0 rfl) (H19.at 1 rfl) (fun q hq => ⟨(H19.at 2 rfl : (ZI B).ok _) _ (hcT q hq).bag, (hcT q hq).len⟩) hlM) ?_
 rintro _ w22 ⟨la, lc, L, Bh, ss, rfl, s23, p24, o25, i26, k27, u28, q29⟩
 have H30 : Sat w [Z3 t 121 ([(.int .i64 (F)), (.int .i64 (Cn)), (.int .i64 (rp)), (.map (some tm))] : List Value), ZC tm nmV ceV M, ZI B, Z3 b 110 ([(.map (some mb))] : List Value), ZC mb Za (Value.int .i64) (Zq Lb), Z6 w (ZH [Z3 t 121 [.int .i64 F, .int .i64 Cn, .int .i64 rp, .map (some tm)], ZC tm nmV ceV M, ZI B, Z3 b 110 [.map (some mb)], ZC mb Za (Value.int .i64) (Zq Lb)]).fp, Z3 b2 34 ([(.int .i64 (0)), (.int .i64 (0)), (.int .u64 (0)), (.slice none 0 0), (.int .i64 (0)), (.int .i64 (0))] : List Value), Z3 b14 34 ([(.int .i64 (rp)), (.int .i64 (ep)), (.int .u64 (til)), (.slice none 0 0), (.int .i64 (0)), (.int .i64 (0))] : List Value), ZH [Zb 53 38 (.slice la L.length lc) L.length (L.flatMap ZK), ZI Bh]] w22 := H19.addU u28 k27 q29
 have H31 : Sat w [Z3 t 121 ([(.int .i64 (F)), (.int .i64 (Cn)), (.int .i64 (rp)), (.map (some tm))] : List Value), ZC tm nmV ceV M, ZI B, Z3 b 110 ([(.map (some mb))] : List Value), ZC mb Za (Value.int .i64) (Zq Lb), Z6 w (ZH [Z3 t 121 [.int .i64 F, .int .i64 Cn, .int .i64 rp, .map (some tm)], ZC tm nmV ceV M, ZI B, Z3 b 110 [.map (some mb)], ZC mb Za (Value.int .i64) (Zq Lb)]).fp, Z3 b2 34 ([(.int .i64 (0)), (.int .i64 (0)), (.int .u64 (0)), (.slice none 0 0), (.int .i64 (0)), (.int .i64 (0))] : List Value), Z3 b14 34 ([(.int .i64 (rp)), (.int .i64 (ep)), (.int .u64 (til)), (.slice none 0 0), (.int .i64 (0)), (.int .i64 (0))] : List Value), Zb 53 38 (.slice la L.length lc) L.length (L.flatMap ZK), ZI Bh] w22 := H30.open 8 rfl
 refine ⟨_, rfl, ?_⟩
 have hcD := Z6G o25 s23 hcT i26
 have hlL : L.length ≤ 64 := by have q1 := Z2A o25; have q2 := s23.length_eq; rw [List.length_map] at q2; omega
 refine hK21 _ _ ?_
 clear hK21 K21
 refine Z2 (Z1 rfl) (d := 42) (v := (.int .i64 ((L.length : Int)))) rfl (by kernel_rfl) ?_
 refine Z2 (Z1 rfl) (d := 43) (v := (.int .i64 (0))) rfl (by kernel_rfl) ?_
 refine Zm ?_
 refine Z4 ?_
 refine ZR ?_
 have H32 := H31.addNil 53 38
 refine Z0m [14, 15, 43, 44, 45, 46, 47, 48, 49, 50, 51, 52, 53, 54, 55, 56, 57, 58, 59, 60, 61, 62, 63] (fun F_ W_ m_ => ∃ (i : Nat) (ca : Option Addr) (cc : Nat) (D : List CeR), F_ 43 = (.int .i64 ((i : Int))) ∧ (i ≤ L.length) ∧ (D = Zf (L.take i) last til) ∧ Sat w [Z3 t 121 ([(.int .i64 (F)), (.int .i64 (Cn)), (.int .i64 (rp)), (.map (some tm))] : List Value), ZC tm nmV ceV M, ZI B, Z3 b 110 ([(.map (some mb))] : List Value), ZC mb Za (Value.int .i64) (Zq Lb), Z6 w (ZH [Z3 t 121 [.int .i64 F, .int .i64 Cn, .int .i64 rp, .map (some tm)], ZC tm nmV ceV M, ZI B, Z3 b 110 [.map (some mb)], ZC mb Za (Value.int .i64) (Zq Lb)]).fp, Z3 b2 34 ([(.int .i64 (0)), (.int .i64 (0)), (.int .u64 (0)), (.slice none 0 0), (.int .i64 (0)), (.int .i64 (0))] : List Value), Z3 b14 34 ([(.int .i64 (rp)), (.int .i64 (ep)), (.int .u64 (til)), (.slice ca D.length cc), (.int .i64 (0)), (.int .i64 (0))] : List Value), Zb 53 38 (.slice la L.length lc) L.length (L.flatMap ZK), ZI Bh, Zb 53 38 (.slice ca D.length cc) D.length (D.flatMap ZK)] W_ ∧ m_ = L.length - i) _ ⟨0, none, 0, [], (show ((.int .i64 (0)) : Value) = _ by first | rfl | go_num), (Nat.zero_le _), rfl, H32, rfl⟩ ?_
 rintro g33 w34 _ ⟨i, ca, cc, D, v36, hi, hD, H35, rfl⟩
 refine Zs 43 _ v36 ?_
 have hDl : D.length ≤ 64 := by rw [hD]; have q := Z2S (L := L.take i) (last := last) (tm := til); rw [List.length_take] at q; omega
 refine Zc ?_
 refine Zp ?_
 refine Z2 (Z1 rfl) (d := 44) (v := (.bool (decide ((i : Int) < (L.length : Int))))) rfl (by kernel_rfl) ?_
 refine Zm ?_
 refine Z4 ?_
 refine Zc ?_
 refine (ZS (decide ((i : Int) < (L.length : Int)))).elim (fun b38 => ?_) (fun b38 => ?_)
 ·have g39 := of_decide_eq_true b38
  refine Zs 44 (.bool true) (congrArg Value.bool b38) ?_
  have g40 := of_decide_eq_true b38
  refine Z0h rfl ?_
  refine Z0b ?_
  refine Z4 ?_
  refine Zc ?_
  refine ZR ?_
  refine Zc ?_
  refine Zp ?_
  obtain ⟨g41, c42, e43⟩ := Z16 (H35.at 8 rfl) (by omega)
  obtain ⟨x44, h45⟩ := Z2r (show i < L.length by omega)
  refine Z2 (Z1 rfl) (d := 45) (v := (.pointer (some ⟨g41, 0 + ((i : Int)).toNat * 38, none⟩))) rfl (Z0D (E := 53) (by kernel_rfl) (by kernel_rfl) (Nat.le_of_ble_eq_true rfl) rfl e43 rfl (by omega) (by omega)) ?_
  refine Z2 (Z1 rfl) (d := 46) (v := (.agg ⟨(([(.int .i64 (x44.x.cl)), (.int .i64 (x44.x.seq))] : List Value) ++ hc x44.x.h ++ ([(.int .i64 (x44.x.len)), (.int .i64 (x44.x.sb)), (.int .i64 (x44.x.sm)), (.slice x44.sa x44.S.length x44.sc)] : List Value))⟩)) rfl (Z0F (vs := (([(.int .i64 (x44.x.cl)), (.int .i64 (x44.x.seq))] : List Value) ++ hc x44.x.h ++ ([(.int .i64 (x44.x.len)), (.int .i64 (x44.x.sb)), (.int .i64 (x44.x.sm)), (.slice x44.sa x44.S.length x44.sc)] : List Value))) rfl (by kernel_rfl) (by kernel_rfl) (Nat.le_of_ble_eq_true (by kernel_rfl)) (Z1J (H35.at 8 rfl) e43 Z14 h45 0 (show 0 + ((i : Int)).toNat * 38 = i * 38 + 0 by omega) (by kernel_rfl) (by kernel_rfl))) ?_
  refine ZA (Z1 rfl) (fun K46 hK46 => ?_)
  refine Z0e (zs := (([(.int .i64 (0)), (.int .i64 (0))] : List Value) ++ hc Zo ++ ([(.int .i64 (0)), (.int .i64 (0)), (.int .i64 (0)), (.slice none 0 0)] : List Value))) (z := (.agg ⟨(([(.int .i64 (0)), (.int .i64 (0))] : List Value) ++ hc Zo ++ ([(.int .i64 (0)), (.int .i64 (0)), (.int .i64 (0)), (.slice none 0 0)] : List Value))⟩)) rfl H35 (by kernel_rfl) (by kernel_rfl) ?_
  intro b47 w48 (H49 : Sat w [Z3 t 121 ([(.int .i64 (F)), (.int .i64 (Cn)), (.int .i64 (rp)), (.map (some tm))] : List Value), ZC tm nmV ceV M, ZI B, Z3 b 110 ([(.map (some mb))] : List Value), ZC mb Za (Value.int .i64) (Zq Lb), Z6 w (ZH [Z3 t 121 [.int .i64 F, .int .i64 Cn, .int .i64 rp, .map (some tm)], ZC tm nmV ceV M, ZI B, Z3 b 110 [.map (some mb)], ZC mb Za (Value.int .i64) (Zq Lb)]).fp, Z3 b2 34 ([(.int .i64 (0)), (.int .i64 (0)), (.int .u64 (0)), (.slice none 0 0), (.int .i64 (0)), (.int .i64 (0))] : List Value), Z3 b14 34 ([(.int .i64 (rp)), (.int .i64 (ep)), (.int .u64 (til)), (.slice ca D.length cc), (.int .i64 (0)), (.int .i64 (0))] : List Value), Zb 53 38 (.slice la L.length lc) L.length (L.flatMap ZK), ZI Bh, Zb 53 38 (.slice ca D.length cc) D.length (D.flatMap ZK), Z3 b47 53 (([(.int .i64 (0)), (.int .i64 (0))] : List Value) ++ hc Zo ++ ([(.int .i64 (0)), (.int .i64 (0)), (.int .i64 (0)), (.slice none 0 0)] : List Value))] w48)
  refine hK46 _ _ ?_
  clear hK46 K46
  refine ZA (Z1 rfl) (fun K50 hK50 => ?_)
  refine ZU (vs := (([(.int .i64 (x44.x.cl)), (.int .i64 (x44.x.seq))] : List Value) ++ hc x44.x.h ++ ([(.int .i64 (x44.x.len)), (.int .i64 (x44.x.sb)), (.int .i64 (x44.x.sm)), (.slice x44.sa x44.S.length x44.sc)] : List Value))) (cs' := (([(.int .i64 (x44.x.cl)), (.int .i64 (x44.x.seq))] : List Value) ++ hc x44.x.h ++ ([(.int .i64 (x44.x.len)), (.int .i64 (x44.x.sb)), (.int .i64 (x44.x.sm)), (.slice x44.sa x44.S.length x44.sc)] : List Value))) rfl H49 11 rfl rfl rfl rfl (by kernel_rfl) (Nat.le_of_ble_eq_true (by kernel_rfl)) (Nat.le_of_ble_eq_true (by kernel_rfl)) (by kernel_rfl) (by kernel_rfl) ?_
  intro w51 (H52 : Sat w [Z3 t 121 ([(.int .i64 (F)), (.int .i64 (Cn)), (.int .i64 (rp)), (.map (some tm))] : List Value), ZC tm nmV ceV M, ZI B, Z3 b 110 ([(.map (some mb))] : List Value), ZC mb Za (Value.int .i64) (Zq Lb), Z6 w (ZH [Z3 t 121 [.int .i64 F, .int .i64 Cn, .int .i64 rp, .map (some tm)], ZC tm nmV ceV M, ZI B, Z3 b 110 [.map (some mb)], ZC mb Za (Value.int .i64) (Zq Lb)]).fp, Z3 b2 34 ([(.int .i64 (0)), (.int .i64 (0)), (.int .u64 (0)), (.slice none 0 0), (.int .i64 (0)), (.int .i64 (0))] : List Value), Z3 b14 34 ([(.int .i64 (rp)), (.int .i64 (ep)), (.int .u64 (til)), (.slice ca D.length cc), (.int .i64 (0)), (.int .i64 (0))] : List Value), Zb 53 38 (.slice la L.length lc) L.length (L.flatMap ZK), ZI Bh, Zb 53 38 (.slice ca D.length cc) D.length (D.flatMap ZK), Z3 b47 53 (([(.int .i64 (x44.x.cl)), (.int .i64 (x44.x.seq))] : List Value) ++ hc x44.x.h ++ ([(.int .i64 (x44.x.len)), (.int .i64 (x44.x.sb)), (.int .i64 (x44.x.sm)), (.slice x44.sa x44.S.length x44.sc)] : List Value))] w51)
  refine hK50 _ _ ?_
  clear hK50 K50
  refine Zm ?_
  refine Z4 ?_
  refine Zc ?_
  refine Zp ?_
  refine Z2 (Z1 rfl) (d := 47) (v := (.agg ⟨(([(.int .i64 (x44.x.cl)), (.int .i64 (x44.x.seq))] : List Value) ++ hc x44.x.h ++ ([(.int .i64 (x44.x.len)), (.int .i64 (x44.x.sb)), (.int .i64 (x44.x.sm)), (.slice x44.sa x44.S.length x44.sc)] : List Value))⟩)) rfl (ZB (vs := (([(.int .i64 (x44.x.cl)), (.int .i64 (x44.x.seq))] : List Value) ++ hc x44.x.h ++ ([(.int .i64 (x44.x.len)), (.int .i64 (x44.x.sb)), (.int .i64 (x44.x.sm)), (.slice x44.sa x44.S.length x44.sc)] : List Value))) rfl (by kernel_rfl) (by kernel_rfl) (by exact Nat.le_of_ble_eq_true (by kernel_rfl)) (H52.at 11 rfl) (by kernel_rfl)) ?_
  refine ZA (Z1 rfl) (fun K54 hK54 => ?_)
  refine Zv (d := 48) rfl (by kernel_rfl) (Z1k w51 x44.x x44.sa x44.sc x44.S (Z2h (c := x44) (H52.at 9 rfl) (hcD _ (List.mem_of_getElem? h45)).bag) (hcD _ (List.mem_of_getElem? h45)).len) ?_
  rintro _ w55 ⟨rfl, u57⟩
  have H56 := H52.keepU u57
  refine ⟨_, rfl, ?_⟩
  refine hK54 _ _ ?_
  clear hK54 K54
  refine Z2 (Z1 rfl) (d := 15) (v := (.int .u64 (ZO x44.S))) rfl (by kernel_rfl) ?_
  refine Zm ?_
  refine Z4 ?_
  refine Zc ?_
  refine Zp ?_
  refine Z2 (Z1 rfl) (d := 49) (v := (.int .u64 (ZO x44.S))) rfl (by kernel_rfl) ?_
  refine Z2 (Z1 rfl) (d := 50) (v := (.int .u64 (last))) rfl (by kernel_rfl) ?_
  refine Z2 (Z1 rfl) (d := 51) (v := (.bool (decide ((ZO x44.S) > last)))) rfl (by kernel_rfl) ?_
  refine Z2 (Z1 rfl) (d := 52) (v := (.bool (decide ((ZO x44.S) > last)))) rfl (by kernel_rfl) ?_
  refine (ZS (decide ((ZO x44.S) > last))).elim (fun b58 => ?_) (fun b58 => ?_)
  ·have g59 := of_decide_eq_true b58
   refine Z02 52 (.bool true) (congrArg Value.bool b58) ?_
   have g60 := of_decide_eq_true b58
   refine Z2 (Zj 3 52 true rfl (by kernel_rfl) rfl (by kernel_rfl)) (d := 53) (v := (.int .u64 (ZO x44.S))) rfl (by kernel_rfl) ?_
   refine Z2 (Zj 3 52 true rfl (by kernel_rfl) rfl (by kernel_rfl)) (d := 54) (v := (.int .u64 (til))) rfl (by kernel_rfl) ?_
   refine Z2 (Zj 3 52 true rfl (by kernel_rfl) rfl (by kernel_rfl)) (d := 55) (v := (.bool (decide ((ZO x44.S) ≤ til)))) rfl (by kernel_rfl) ?_
   refine Z2 (Z1 rfl) (d := 56) (v := (.bool (decide ((ZO x44.S) ≤ til)))) rfl (by kernel_rfl) ?_
   refine Zm ?_
   refine Z4 ?_
   refine (ZS (decide ((ZO x44.S) ≤ til))).elim (fun b61 => ?_) (fun b61 => ?_)
   ·have g62 := of_decide_eq_true b61
    refine Zs 56 (.bool true) (congrArg Value.bool b61) ?_
    have g63 := of_decide_eq_true b61
    refine Z0h rfl ?_
    refine Zp ?_
    refine Z2 (Z1 rfl) (d := 57) (v := (.pointer (some ⟨b14, 3, none⟩))) rfl (by kernel_rfl) ?_
    refine Z2 (Z1 rfl) (d := 58) (v := (.slice ca D.length cc)) rfl (Zi rfl (by kernel_rfl) (H56.cell 7 rfl rfl)) ?_
    refine Z2 (Z1 rfl) (d := 59) (v := (.agg ⟨(([(.int .i64 (x44.x.cl)), (.int .i64 (x44.x.seq))] : List Value) ++ hc x44.x.h ++ ([(.int .i64 (x44.x.len)), (.int .i64 (x44.x.sb)), (.int .i64 (x44.x.sm)), (.slice x44.sa x44.S.length x44.sc)] : List Value))⟩)) rfl (ZB (vs := (([(.int .i64 (x44.x.cl)), (.int .i64 (x44.x.seq))] : List Value) ++ hc x44.x.h ++ ([(.int .i64 (x44.x.len)), (.int .i64 (x44.x.sb)), (.int .i64 (x44.x.sm)), (.slice x44.sa x44.S.length x44.sc)] : List Value))) rfl (by kernel_rfl) (by kernel_rfl) (by exact Nat.le_of_ble_eq_true (by kernel_rfl)) (H56.at 11 rfl) (by kernel_rfl)) ?_
    refine ZA (Z1 rfl) (fun K64 hK64 => ?_)
    refine ZX (e := 53) (size := 38) (bytes := 96) (z := (.agg ⟨(([(.int .i64 (0)), (.int .i64 (0))] : List Value) ++ hc Zo ++ ([(.int .i64 (0)), (.int .i64 (0)), (.int .i64 (0)), (.slice none 0 0)] : List Value))⟩)) (pvs := [(0, (.agg ⟨(([(.int .i64 (x44.x.cl)), (.int .i64 (x44.x.seq))] : List Value) ++ hc x44.x.h ++ ([(.int .i64 (x44.x.len)), (.int .i64 (x44.x.sb)), (.int .i64 (x44.x.sm)), (.slice x44.sa x44.S.length x44.sc)] : List Value))⟩))]) (vs := (([(.int .i64 (x44.x.cl)), (.int .i64 (x44.x.seq))] : List Value) ++ hc x44.x.h ++ ([(.int .i64 (x44.x.len)), (.int .i64 (x44.x.sb)), (.int .i64 (x44.x.sm)), (.slice x44.sa x44.S.length x44.sc)] : List Value))) rfl H56 (by kernel_rfl) (by kernel_rfl) (by kernel_rfl) (by kernel_rfl) (by kernel_rfl) rfl rfl ?_
    intro b65 w66 (H67 : Sat w [Z3 t 121 ([(.int .i64 (F)), (.int .i64 (Cn)), (.int .i64 (rp)), (.map (some tm))] : List Value), ZC tm nmV ceV M, ZI B, Z3 b 110 ([(.map (some mb))] : List Value), ZC mb Za (Value.int .i64) (Zq Lb), Z6 w (ZH [Z3 t 121 [.int .i64 F, .int .i64 Cn, .int .i64 rp, .map (some tm)], ZC tm nmV ceV M, ZI B, Z3 b 110 [.map (some mb)], ZC mb Za (Value.int .i64) (Zq Lb)]).fp, Z3 b2 34 ([(.int .i64 (0)), (.int .i64 (0)), (.int .u64 (0)), (.slice none 0 0), (.int .i64 (0)), (.int .i64 (0))] : List Value), Z3 b14 34 ([(.int .i64 (rp)), (.int .i64 (ep)), (.int .u64 (til)), (.slice ca D.length cc), (.int .i64 (0)), (.int .i64 (0))] : List Value), Zb 53 38 (.slice la L.length lc) L.length (L.flatMap ZK), ZI Bh, Zb 53 38 (.slice ca D.length cc) D.length (D.flatMap ZK), Z3 b47 53 (([(.int .i64 (x44.x.cl)), (.int .i64 (x44.x.seq))] : List Value) ++ hc x44.x.h ++ ([(.int .i64 (x44.x.len)), (.int .i64 (x44.x.sb)), (.int .i64 (x44.x.sm)), (.slice x44.sa x44.S.length x44.sc)] : List Value)), Zb 53 38 (.slice (some ⟨b65, 0, none⟩) 1 1) 1 (([(.int .i64 (x44.x.cl)), (.int .i64 (x44.x.seq))] : List Value) ++ hc x44.x.h ++ ([(.int .i64 (x44.x.len)), (.int .i64 (x44.x.sb)), (.int .i64 (x44.x.sm)), (.slice x44.sa x44.S.length x44.sc)] : List Value))] w66)
    have H68 : Sat w [Z3 t 121 ([(.int .i64 (F)), (.int .i64 (Cn)), (.int .i64 (rp)), (.map (some tm))] : List Value), ZC tm nmV ceV M, ZI B, Z3 b 110 ([(.map (some mb))] : List Value), ZC mb Za (Value.int .i64) (Zq Lb), Z6 w (ZH [Z3 t 121 [.int .i64 F, .int .i64 Cn, .int .i64 rp, .map (some tm)], ZC tm nmV ceV M, ZI B, Z3 b 110 [.map (some mb)], ZC mb Za (Value.int .i64) (Zq Lb)]).fp, Z3 b2 34 ([(.int .i64 (0)), (.int .i64 (0)), (.int .u64 (0)), (.slice none 0 0), (.int .i64 (0)), (.int .i64 (0))] : List Value), Z3 b14 34 ([(.int .i64 (rp)), (.int .i64 (ep)), (.int .u64 (til)), (.slice ca D.length cc), (.int .i64 (0)), (.int .i64 (0))] : List Value), Zb 53 38 (.slice la L.length lc) L.length (L.flatMap ZK), ZI Bh, Zb 53 38 (.slice ca D.length cc) D.length (D.flatMap ZK), Z3 b47 53 (([(.int .i64 (x44.x.cl)), (.int .i64 (x44.x.seq))] : List Value) ++ hc x44.x.h ++ ([(.int .i64 (x44.x.len)), (.int .i64 (x44.x.sb)), (.int .i64 (x44.x.sm)), (.slice x44.sa x44.S.length x44.sc)] : List Value)), Zb 53 38 (.slice (some ⟨b65, 0, none⟩) 1 1) 1 ([x44].flatMap ZK)] w66 := H67.cast (by rw [(show ((([(.int .i64 (x44.x.cl)), (.int .i64 (x44.x.seq))] : List Value) ++ hc x44.x.h ++ ([(.int .i64 (x44.x.len)), (.int .i64 (x44.x.sb)), (.int .i64 (x44.x.sm)), (.slice x44.sa x44.S.length x44.sc)] : List Value)) : List Value) = [x44].flatMap ZK by kernel_rfl)])
    refine hK64 _ _ ?_
    clear hK64 K64
    refine ZA (Z1 rfl) (fun K69 hK69 => ?_)
    refine Z0Z (T := 32) (e := 53) (size := 38) (bytes := 96) rfl H68 (by kernel_rfl) 10 12 rfl rfl rfl rfl (Z0Q ZK Z4Q [x44]) (by omega) (by omega) ?_
    intro v70 w71 (H72 : Sat w [Z3 t 121 ([(.int .i64 (F)), (.int .i64 (Cn)), (.int .i64 (rp)), (.map (some tm))] : List Value), ZC tm nmV ceV M, ZI B, Z3 b 110 ([(.map (some mb))] : List Value), ZC mb Za (Value.int .i64) (Zq Lb), Z6 w (ZH [Z3 t 121 [.int .i64 F, .int .i64 Cn, .int .i64 rp, .map (some tm)], ZC tm nmV ceV M, ZI B, Z3 b 110 [.map (some mb)], ZC mb Za (Value.int .i64) (Zq Lb)]).fp, Z3 b2 34 ([(.int .i64 (0)), (.int .i64 (0)), (.int .u64 (0)), (.slice none 0 0), (.int .i64 (0)), (.int .i64 (0))] : List Value), Z3 b14 34 ([(.int .i64 (rp)), (.int .i64 (ep)), (.int .u64 (til)), (.slice ca D.length cc), (.int .i64 (0)), (.int .i64 (0))] : List Value), Zb 53 38 (.slice la L.length lc) L.length (L.flatMap ZK), ZI Bh, Zb 53 38 v70 (D.length + 1) ((D.flatMap ZK) ++ ([x44].flatMap ZK)), Z3 b47 53 (([(.int .i64 (x44.x.cl)), (.int .i64 (x44.x.seq))] : List Value) ++ hc x44.x.h ++ ([(.int .i64 (x44.x.len)), (.int .i64 (x44.x.sb)), (.int .i64 (x44.x.sm)), (.slice x44.sa x44.S.length x44.sc)] : List Value)), Zb 53 38 (.slice (some ⟨b65, 0, none⟩) 1 1) 1 ([x44].flatMap ZK)] w71)
    have H75 : Sat w [Z3 t 121 ([(.int .i64 (F)), (.int .i64 (Cn)), (.int .i64 (rp)), (.map (some tm))] : List Value), ZC tm nmV ceV M, ZI B, Z3 b 110 ([(.map (some mb))] : List Value), ZC mb Za (Value.int .i64) (Zq Lb), Z6 w (ZH [Z3 t 121 [.int .i64 F, .int .i64 Cn, .int .i64 rp, .map (some tm)], ZC tm nmV ceV M, ZI B, Z3 b 110 [.map (some mb)], ZC mb Za (Value.int .i64) (Zq Lb)]).fp, Z3 b2 34 ([(.int .i64 (0)), (.int .i64 (0)), (.int .u64 (0)), (.slice none 0 0), (.int .i64 (0)), (.int .i64 (0))] : List Value), Z3 b14 34 ([(.int .i64 (rp)), (.int .i64 (ep)), (.int .u64 (til)), (.slice ca D.length cc), (.int .i64 (0)), (.int .i64 (0))] : List Value), Zb 53 38 (.slice la L.length lc) L.length (L.flatMap ZK), ZI Bh, Zb 53 38 v70 ((D ++ [x44]).length) ((D ++ [x44]).flatMap ZK), Z3 b47 53 (([(.int .i64 (x44.x.cl)), (.int .i64 (x44.x.seq))] : List Value) ++ hc x44.x.h ++ ([(.int .i64 (x44.x.len)), (.int .i64 (x44.x.sb)), (.int .i64 (x44.x.sm)), (.slice x44.sa x44.S.length x44.sc)] : List Value)), Zb 53 38 (.slice (some ⟨b65, 0, none⟩) 1 1) 1 ([x44].flatMap ZK)] w71 := H72.cast (by simp only [List.length_append, List.flatMap_append] <;> rfl)
    obtain ⟨a73, c74, rfl⟩ := Zl (H75.at 10 rfl)
    refine hK69 _ _ ?_
    clear hK69 K69
    refine Z2 (Z1 rfl) (d := 62) (v := (.pointer (some ⟨b14, 3, none⟩))) rfl (by kernel_rfl) ?_
    refine ZA (Z1 rfl) (fun K76 hK76 => ?_)
    refine ZU (vs := ([(.slice a73 ((D ++ [x44]).length) c74)] : List Value)) (cs' := ([(.int .i64 (rp)), (.int .i64 (ep)), (.int .u64 (til)), (.slice a73 ((D ++ [x44]).length) c74), (.int .i64 (0)), (.int .i64 (0))] : List Value)) rfl H75 7 rfl rfl rfl rfl (by kernel_rfl) (Nat.le_of_ble_eq_true (by kernel_rfl)) (Nat.le_of_ble_eq_true (by kernel_rfl)) (by kernel_rfl) (by kernel_rfl) ?_
    intro w77 (H78 : Sat w [Z3 t 121 ([(.int .i64 (F)), (.int .i64 (Cn)), (.int .i64 (rp)), (.map (some tm))] : List Value), ZC tm nmV ceV M, ZI B, Z3 b 110 ([(.map (some mb))] : List Value), ZC mb Za (Value.int .i64) (Zq Lb), Z6 w (ZH [Z3 t 121 [.int .i64 F, .int .i64 Cn, .int .i64 rp, .map (some tm)], ZC tm nmV ceV M, ZI B, Z3 b 110 [.map (some mb)], ZC mb Za (Value.int .i64) (Zq Lb)]).fp, Z3 b2 34 ([(.int .i64 (0)), (.int .i64 (0)), (.int .u64 (0)), (.slice none 0 0), (.int .i64 (0)), (.int .i64 (0))] : List Value), Z3 b14 34 ([(.int .i64 (rp)), (.int .i64 (ep)), (.int .u64 (til)), (.slice a73 ((D ++ [x44]).length) c74), (.int .i64 (0)), (.int .i64 (0))] : List Value), Zb 53 38 (.slice la L.length lc) L.length (L.flatMap ZK), ZI Bh, Zb 53 38 (.slice a73 ((D ++ [x44]).length) c74) ((D ++ [x44]).length) ((D ++ [x44]).flatMap ZK), Z3 b47 53 (([(.int .i64 (x44.x.cl)), (.int .i64 (x44.x.seq))] : List Value) ++ hc x44.x.h ++ ([(.int .i64 (x44.x.len)), (.int .i64 (x44.x.sb)), (.int .i64 (x44.x.sm)), (.slice x44.sa x44.S.length x44.sc)] : List Value)), Zb 53 38 (.slice (some ⟨b65, 0, none⟩) 1 1) 1 ([x44].flatMap ZK)] w77)
    refine hK76 _ _ ?_
    clear hK76 K76
    refine Zm ?_
    refine ZL ?_
    refine Z4 ?_
    refine Zp ?_
    refine Z2 (Z1 rfl) (d := 63) (v := (.int .i64 ((i : Int) + 1))) rfl (Z04 (z := (i : Int) + 1) (by kernel_rfl) (IntWalk.i64_in _ (by omega))) ?_
    refine Z2 (Z1 rfl) (d := 43) (v := (.int .i64 ((i : Int) + 1))) rfl (by kernel_rfl) ?_
    refine Zm ?_
    have H80 : Sat w [Z3 t 121 ([(.int .i64 (F)), (.int .i64 (Cn)), (.int .i64 (rp)), (.map (some tm))] : List Value), ZC tm nmV ceV M, ZI B, Z3 b 110 ([(.map (some mb))] : List Value), ZC mb Za (Value.int .i64) (Zq Lb), Z6 w (ZH [Z3 t 121 [.int .i64 F, .int .i64 Cn, .int .i64 rp, .map (some tm)], ZC tm nmV ceV M, ZI B, Z3 b 110 [.map (some mb)], ZC mb Za (Value.int .i64) (Zq Lb)]).fp, Z3 b2 34 ([(.int .i64 (0)), (.int .i64 (0)), (.int .u64 (0)), (.slice none 0 0), (.int .i64 (0)), (.int .i64 (0))] : List Value), Z3 b14 34 ([(.int .i64 (rp)), (.int .i64 (ep)), (.int .u64 (til)), (.slice a73 ((D ++ [x44]).length) c74), (.int .i64 (0)), (.int .i64 (0))] : List Value), Zb 53 38 (.slice la L.length lc) L.length (L.flatMap ZK), ZI Bh, Zb 53 38 (.slice a73 ((D ++ [x44]).length) c74) ((D ++ [x44]).length) ((D ++ [x44]).flatMap ZK)] w77 := H78.pick [0, 1, 2, 3, 4, 5, 6, 7, 8, 9, 10] (by decide)
    refine ZM ?_ _ ⟨(i + 1), a73, c74, (D ++ [x44]), (show ((.int .i64 ((i : Int) + 1)) : Value) = _ by first | rfl | go_num), (by omega), (Z7T hD h45 b58 b61), H80, rfl⟩ (by omega)
    exact (Z0 rfl (Z0 rfl (Z0 rfl (Z0 rfl (Z0 rfl (Z0 rfl (Z0 rfl (Z0 rfl (Z0 rfl (Z0 rfl (Z0 rfl (Z0 rfl (Z0 rfl (Z0 rfl (Z0 rfl (Z0 rfl (Z0 rfl (Z0 rfl (Z0 rfl (Z0 rfl (Z0 rfl (Z0 rfl (Z0 rfl (Z0 rfl (Z0 rfl (Z0 rfl (Z0 rfl (Z06))))))))))))))))))))))))))))
   ·have g81 := of_decide_eq_false b61
    refine Zs 56 (.bool false) (congrArg Value.bool b61) ?_
    have g82 := of_decide_eq_false b61
    refine Z09 rfl ?_
    refine Z0b ?_
    refine ZL ?_
    refine Z4 ?_
    refine Zp ?_
    refine Z2 (Z1 rfl) (d := 63) (v := (.int .i64 ((i : Int) + 1))) rfl (Z04 (z := (i : Int) + 1) (by kernel_rfl) (IntWalk.i64_in _ (by omega))) ?_
    refine Z2 (Z1 rfl) (d := 43) (v := (.int .i64 ((i : Int) + 1))) rfl (by kernel_rfl) ?_
    refine Zm ?_
    have H83 : Sat w [Z3 t 121 ([(.int .i64 (F)), (.int .i64 (Cn)), (.int .i64 (rp)), (.map (some tm))] : List Value), ZC tm nmV ceV M, ZI B, Z3 b 110 ([(.map (some mb))] : List Value), ZC mb Za (Value.int .i64) (Zq Lb), Z6 w (ZH [Z3 t 121 [.int .i64 F, .int .i64 Cn, .int .i64 rp, .map (some tm)], ZC tm nmV ceV M, ZI B, Z3 b 110 [.map (some mb)], ZC mb Za (Value.int .i64) (Zq Lb)]).fp, Z3 b2 34 ([(.int .i64 (0)), (.int .i64 (0)), (.int .u64 (0)), (.slice none 0 0), (.int .i64 (0)), (.int .i64 (0))] : List Value), Z3 b14 34 ([(.int .i64 (rp)), (.int .i64 (ep)), (.int .u64 (til)), (.slice ca D.length cc), (.int .i64 (0)), (.int .i64 (0))] : List Value), Zb 53 38 (.slice la L.length lc) L.length (L.flatMap ZK), ZI Bh, Zb 53 38 (.slice ca D.length cc) D.length (D.flatMap ZK)] w55 := H56.pick [0, 1, 2, 3, 4, 5, 6, 7, 8, 9, 10] (by decide)
    refine ZM ?_ _ ⟨(i + 1), ca, cc, D, (show ((.int .i64 ((i : Int) + 1)) : Value) = _ by first | rfl | go_num), (by omega), (Z7M hD h45 b61), H83, rfl⟩ (by omega)
    exact (Z0 rfl (Z0 rfl (Z0 rfl (Z0 rfl (Z0 rfl (Z0 rfl (Z0 rfl (Z0 rfl (Z0 rfl (Z0 rfl (Z0 rfl (Z0 rfl (Z0 rfl (Z0 rfl (Z0 rfl (Z0 rfl (Z0 rfl (Z0 rfl (Z0 rfl (Z0 rfl (Z0 rfl (Z06))))))))))))))))))))))
  ·have g84 := of_decide_eq_false b58
   refine Z02 52 (.bool false) (congrArg Value.bool b58) ?_
   have g85 := of_decide_eq_false b58
   refine Zx (Zh 3 52 true rfl (by kernel_rfl) rfl (by kernel_rfl)) rfl ?_
   refine Zx (Zh 3 52 true rfl (by kernel_rfl) rfl (by kernel_rfl)) rfl ?_
   refine Zx (Zh 3 52 true rfl (by kernel_rfl) rfl (by kernel_rfl)) rfl ?_
   refine Z2 (Z1 rfl) (d := 56) (v := (.bool false)) rfl (by kernel_rfl) ?_
   refine Zm ?_
   refine Z4 ?_
   refine Z09 rfl ?_
   refine Z0b ?_
   refine ZL ?_
   refine Z4 ?_
   refine Zp ?_
   refine Z2 (Z1 rfl) (d := 63) (v := (.int .i64 ((i : Int) + 1))) rfl (Z04 (z := (i : Int) + 1) (by kernel_rfl) (IntWalk.i64_in _ (by omega))) ?_
   refine Z2 (Z1 rfl) (d := 43) (v := (.int .i64 ((i : Int) + 1))) rfl (by kernel_rfl) ?_
   refine Zm ?_
   have H86 : Sat w [Z3 t 121 ([(.int .i64 (F)), (.int .i64 (Cn)), (.int .i64 (rp)), (.map (some tm))] : List Value), ZC tm nmV ceV M, ZI B, Z3 b 110 ([(.map (some mb))] : List Value), ZC mb Za (Value.int .i64) (Zq Lb), Z6 w (ZH [Z3 t 121 [.int .i64 F, .int .i64 Cn, .int .i64 rp, .map (some tm)], ZC tm nmV ceV M, ZI B, Z3 b 110 [.map (some mb)], ZC mb Za (Value.int .i64) (Zq Lb)]).fp, Z3 b2 34 ([(.int .i64 (0)), (.int .i64 (0)), (.int .u64 (0)), (.slice none 0 0), (.int .i64 (0)), (.int .i64 (0))] : List Value), Z3 b14 34 ([(.int .i64 (rp)), (.int .i64 (ep)), (.int .u64 (til)), (.slice ca D.length cc), (.int .i64 (0)), (.int .i64 (0))] : List Value), Zb 53 38 (.slice la L.length lc) L.length (L.flatMap ZK), ZI Bh, Zb 53 38 (.slice ca D.length cc) D.length (D.flatMap ZK)] w55 := H56.pick [0, 1, 2, 3, 4, 5, 6, 7, 8, 9, 10] (by decide)
   refine ZM ?_ _ ⟨(i + 1), ca, cc, D, (show ((.int .i64 ((i : Int) + 1)) : Value) = _ by first | rfl | go_num), (by omega), (Z7J hD h45 b58), H86, rfl⟩ (by omega)
   exact (Z0 rfl (Z0 rfl (Z0 rfl (Z0 rfl (Z0 rfl (Z0 rfl (Z0 rfl (Z0 rfl (Z0 rfl (Z0 rfl (Z0 rfl (Z0 rfl (Z0 rfl (Z0 rfl (Z0 rfl (Z0 rfl (Z0 rfl (Z0 rfl (Z0 rfl (Z0 rfl (Z06)))))))))))))))))))))
 ·have g87 := of_decide_eq_false b38
  refine Zs 44 (.bool false) (congrArg Value.bool b38) ?_
  have g88 := of_decide_eq_false b38
  refine Z09 rfl ?_
  refine Z0M ?_
  refine Z0a ?_
  refine Z0c ?_
  refine Z0B ?_
  refine Z4 ?_
  refine Zc ?_
  have hDf : D = Zf L last til := by rw [hD, List.take_of_length_le (by omega)]
  refine Z1f H35 [Z3 t 121 ([(.int .i64 (F)), (.int .i64 (Cn)), (.int .i64 (rp)), (.map (some tm))] : List Value), ZC tm nmV ceV M, ZI B, Z6 w (ZH [Z3 t 121 [.int .i64 F, .int .i64 Cn, .int .i64 rp, .map (some tm)], ZC tm nmV ceV M, ZI B, Z3 b 110 [.map (some mb)], ZC mb Za (Value.int .i64) (Zq Lb)]).fp, Z3 b2 34 ([(.int .i64 (0)), (.int .i64 (0)), (.int .u64 (0)), (.slice none 0 0), (.int .i64 (0)), (.int .i64 (0))] : List Value), Z3 b14 34 ([(.int .i64 (rp)), (.int .i64 (ep)), (.int .u64 (til)), (.slice ca D.length cc), (.int .i64 (0)), (.int .i64 (0))] : List Value), Zb 53 38 (.slice la L.length lc) L.length (L.flatMap ZK), ZI Bh, Zb 53 38 (.slice ca D.length cc) D.length (D.flatMap ZK)] [9] 10 rfl (by kernel_rfl) (fun Hx => (Hx.pick [0, 1, 2, 5, 6, 7, 8, 9, 10] (by decide))) ?_
  intro w89 H90 S91
  refine ZP 0 rfl (by kernel_rfl) (by kernel_rfl) (by kernel_rfl) (fun _ _ _ h => h) S91 (Z1 rfl) rfl (d := 64) (v := (.pointer (some ⟨b, 0, none⟩))) rfl (fun _ => (by kernel_rfl)) ?_
  refine ZP 1 rfl (by kernel_rfl) (by kernel_rfl) (by kernel_rfl) (fun _ _ _ h => h) S91 (Z1 rfl) rfl (d := 65) (v := (.pointer (some ⟨t, 0, none⟩))) rfl (fun _ => (by kernel_rfl)) ?_
  refine ZP 2 rfl (by kernel_rfl) (by kernel_rfl) (by kernel_rfl) (fun _ _ _ h => h) S91 (Z1 rfl) rfl (d := 66) (v := (.pointer (some ⟨t, 0, none⟩))) rfl (fun _ => (by kernel_rfl)) ?_
  refine ZP 3 rfl (by kernel_rfl) (by kernel_rfl) (by kernel_rfl) (fun _ _ _ h => h) S91 (Z1 rfl) rfl (d := 67) (v := (.pointer (some ⟨t, 2, none⟩))) rfl (fun _ => (by kernel_rfl)) ?_
  refine Z1Y 4 rfl (by kernel_rfl) (by kernel_rfl) (by kernel_rfl) (fun _ _ _ h => h) S91 (Z1 rfl) rfl (by kernel_rfl) (d := 68) (v := (.int .i64 (rp))) rfl (fun _ H' => (Zi rfl (by kernel_rfl) (H'.cell 0 rfl rfl))) ?_
  refine Z1Y 5 rfl (by kernel_rfl) (by kernel_rfl) (by kernel_rfl) (fun _ _ _ h => h) S91 (Z1 rfl) rfl (by kernel_rfl) (d := 69) (v := (.agg ⟨([(.int .i64 (rp)), (.int .i64 (ep)), (.int .u64 (til)), (.slice ca D.length cc), (.int .i64 (0)), (.int .i64 (0))] : List Value)⟩)) rfl (fun _ H' => (ZB (vs := ([(.int .i64 (rp)), (.int .i64 (ep)), (.int .u64 (til)), (.slice ca D.length cc), (.int .i64 (0)), (.int .i64 (0))] : List Value)) rfl (by kernel_rfl) (by kernel_rfl) (by exact Nat.le_of_ble_eq_true (by kernel_rfl)) (H'.at 5 rfl) (by kernel_rfl))) ?_
  refine Z5l 6 rfl (by kernel_rfl) (Z1 rfl) rfl (fun K92 hK92 => ?_)
  refine Zv (d := 70) rfl (by kernel_rfl) (Z3o w89 (⟨rp, ep, til, ca, cc, 0, 0, D⟩ : PrR) (ListAt.row Z14 (by decide) (H90.at 10 rfl)) (fun i hi => (hcD _ (Z2o (L := L) (last := last) (tm := til) (by rw [← hDf]; exact Z55 hi))).cb (H90.at 9 rfl)) hDl ⟨by show rp ≤ _; omega, by show ep ≤ _; omega, by show 0 ≤ til; omega, by show til < _; omega⟩) ?_
  rintro _ w93 ⟨u94, rfl, k95, p96, q97⟩
  have H98 : Sat w [Z3 t 121 ([(.int .i64 (F)), (.int .i64 (Cn)), (.int .i64 (rp)), (.map (some tm))] : List Value), ZC tm nmV ceV M, ZI B, Z3 b 110 ([(.map (some mb))] : List Value), ZC mb Za (Value.int .i64) (Zq Lb), Z6 w (ZH [Z3 t 121 [.int .i64 F, .int .i64 Cn, .int .i64 rp, .map (some tm)], ZC tm nmV ceV M, ZI B, Z3 b 110 [.map (some mb)], ZC mb Za (Value.int .i64) (Zq Lb)]).fp, Z3 b2 34 ([(.int .i64 (0)), (.int .i64 (0)), (.int .u64 (0)), (.slice none 0 0), (.int .i64 (0)), (.int .i64 (0))] : List Value), Z3 b14 34 ([(.int .i64 (rp)), (.int .i64 (ep)), (.int .u64 (til)), (.slice ca D.length cc), (.int .i64 (0)), (.int .i64 (0))] : List Value), Zb 53 38 (.slice la L.length lc) L.length (L.flatMap ZK), ZI Bh, Zb 53 38 (.slice ca D.length cc) D.length (D.flatMap ZK), Zb 5 1 u94 ((Zy (⟨rp, ep, til, ca, cc, 0, 0, D⟩ : PrR)).length) ((Zy (⟨rp, ep, til, ca, cc, 0, 0, D⟩ : PrR)).flatMap Zr)] w93 := H90.addU p96 k95 q97
  obtain ⟨a99, c100, rfl⟩ := Zl (H98.at 11 rfl)
  refine ⟨_, rfl, ?_⟩
  have hpl := Z71 (p := (⟨rp, ep, til, ca, cc, 0, 0, D⟩ : PrR)) (fun c hm => Nat.le_trans (hcD _ (Z2o (L := L) (last := last) (tm := til) (by rw [← hDf]; exact hm))).len (by decide)) hDl
  have S101 := H98.pick [0, 1, 2, 5, 6, 7, 8, 9, 10] (by decide)
  refine hK92 _ _ S101 ?_
  clear hK92 K92
  refine Z5l 7 rfl (by kernel_rfl) (Z1 rfl) rfl (fun K102 hK102 => ?_)
  refine Zv (d := 71) rfl (by kernel_rfl) (Z1N w93 b mb Lb (.slice a99 ((Zy (⟨rp, ep, til, ca, cc, 0, 0, D⟩ : PrR)).length) c100) (Zy (⟨rp, ep, til, ca, cc, 0, 0, D⟩ : PrR)) (H98.fin [3, 4, 11] (by decide) rfl) (by omega) rp) ?_
  rintro _ w103 ⟨rfl, T104⟩
  have H105 : Sat w [Z3 t 121 ([(.int .i64 (F)), (.int .i64 (Cn)), (.int .i64 (rp)), (.map (some tm))] : List Value), ZC tm nmV ceV M, ZI B, Z3 b 110 ([(.map (some mb))] : List Value), ZC mb Za (Value.int .i64) (Zq (Zg Lb (⟨rp, (Zy (⟨rp, ep, til, ca, cc, 0, 0, D⟩ : PrR))⟩ : Signed))), Z6 w (ZH [Z3 t 121 [.int .i64 F, .int .i64 Cn, .int .i64 rp, .map (some tm)], ZC tm nmV ceV M, ZI B, Z3 b 110 [.map (some mb)], ZC mb Za (Value.int .i64) (Zq Lb)]).fp, Z3 b2 34 ([(.int .i64 (0)), (.int .i64 (0)), (.int .u64 (0)), (.slice none 0 0), (.int .i64 (0)), (.int .i64 (0))] : List Value), Z3 b14 34 ([(.int .i64 (rp)), (.int .i64 (ep)), (.int .u64 (til)), (.slice ca D.length cc), (.int .i64 (0)), (.int .i64 (0))] : List Value), Zb 53 38 (.slice la L.length lc) L.length (L.flatMap ZK), ZI Bh, Zb 53 38 (.slice ca D.length cc) D.length (D.flatMap ZK), Zb 5 1 (.slice a99 ((Zy (⟨rp, ep, til, ca, cc, 0, 0, D⟩ : PrR)).length) c100) ((Zy (⟨rp, ep, til, ca, cc, 0, 0, D⟩ : PrR)).length) ((Zy (⟨rp, ep, til, ca, cc, 0, 0, D⟩ : PrR)).flatMap Zr)] w103 := (Sat.turnL (L' := [Z3 b 110 ([(.map (some mb))] : List Value), ZC mb Za (Value.int .i64) (Zq (Zg Lb (⟨rp, (Zy (⟨rp, ep, til, ca, cc, 0, 0, D⟩ : PrR))⟩ : Signed))), Zb 5 1 (.slice a99 ((Zy (⟨rp, ep, til, ca, cc, 0, 0, D⟩ : PrR)).length) c100) ((Zy (⟨rp, ep, til, ca, cc, 0, 0, D⟩ : PrR)).length) ((Zy (⟨rp, ep, til, ca, cc, 0, 0, D⟩ : PrR)).flatMap Zr)]) (R := [Z3 t 121 ([(.int .i64 (F)), (.int .i64 (Cn)), (.int .i64 (rp)), (.map (some tm))] : List Value), ZC tm nmV ceV M, ZI B, Z6 w (ZH [Z3 t 121 [.int .i64 F, .int .i64 Cn, .int .i64 rp, .map (some tm)], ZC tm nmV ceV M, ZI B, Z3 b 110 [.map (some mb)], ZC mb Za (Value.int .i64) (Zq Lb)]).fp, Z3 b2 34 ([(.int .i64 (0)), (.int .i64 (0)), (.int .u64 (0)), (.slice none 0 0), (.int .i64 (0)), (.int .i64 (0))] : List Value), Z3 b14 34 ([(.int .i64 (rp)), (.int .i64 (ep)), (.int .u64 (til)), (.slice ca D.length cc), (.int .i64 (0)), (.int .i64 (0))] : List Value), Zb 53 38 (.slice la L.length lc) L.length (L.flatMap ZK), ZI Bh, Zb 53 38 (.slice ca D.length cc) D.length (D.flatMap ZK)]) H98 [3, 4, 11] [0, 1, 2, 5, 6, 7, 8, 9, 10] (by decide) (by kernel_rfl) rfl T104).pick [3, 4, 5, 0, 1, 6, 7, 8, 9, 10, 11, 2] (by decide)
  refine ⟨_, rfl, ?_⟩
  have S106 := H105.pick [0, 1, 2, 5, 6, 7, 8, 9, 10] (by decide)
  refine hK102 _ _ S106 ?_
  clear hK102 K102
  refine ZP 8 rfl (by kernel_rfl) (by kernel_rfl) (by kernel_rfl) (fun _ _ _ h => h) S106 (Z1 rfl) rfl (d := 72) (v := (.pointer (some ⟨b14, 4, none⟩))) rfl (fun _ => (by kernel_rfl)) ?_
  refine Z3b 9 (Sat w [Z3 t 121 ([(.int .i64 (F)), (.int .i64 (Cn)), (.int .i64 (rp)), (.map (some tm))] : List Value), ZC tm nmV ceV M, ZI B, Z6 w (ZH [Z3 t 121 [.int .i64 F, .int .i64 Cn, .int .i64 rp, .map (some tm)], ZC tm nmV ceV M, ZI B, Z3 b 110 [.map (some mb)], ZC mb Za (Value.int .i64) (Zq Lb)]).fp, Z3 b2 34 ([(.int .i64 (0)), (.int .i64 (0)), (.int .u64 (0)), (.slice none 0 0), (.int .i64 (0)), (.int .i64 (0))] : List Value), Zb 53 38 (.slice la L.length lc) L.length (L.flatMap ZK), ZI Bh, Zb 53 38 (.slice ca D.length cc) D.length (D.flatMap ZK)]) rfl (by kernel_rfl) (Z1 rfl) rfl (fun K107 hK107 => ?_)
  refine ZU (vs := ([(.int .i64 (rp)), (.int .i64 (Zt (Zg Lb (⟨rp, (Zy (⟨rp, ep, til, ca, cc, 0, 0, D⟩ : PrR))⟩ : Signed)) (⟨rp, (Zy (⟨rp, ep, til, ca, cc, 0, 0, D⟩ : PrR))⟩ : Signed)))] : List Value)) (cs' := ([(.int .i64 (rp)), (.int .i64 (ep)), (.int .u64 (til)), (.slice ca D.length cc), (.int .i64 (rp)), (.int .i64 (Zt (Zg Lb (⟨rp, (Zy (⟨rp, ep, til, ca, cc, 0, 0, D⟩ : PrR))⟩ : Signed)) (⟨rp, (Zy (⟨rp, ep, til, ca, cc, 0, 0, D⟩ : PrR))⟩ : Signed)))] : List Value)) rfl H105 7 rfl rfl rfl rfl (by kernel_rfl) (Nat.le_of_ble_eq_true (by kernel_rfl)) (Nat.le_of_ble_eq_true (by kernel_rfl)) (by kernel_rfl) (by kernel_rfl) ?_
  intro w108 (H109 : Sat w [Z3 t 121 ([(.int .i64 (F)), (.int .i64 (Cn)), (.int .i64 (rp)), (.map (some tm))] : List Value), ZC tm nmV ceV M, ZI B, Z3 b 110 ([(.map (some mb))] : List Value), ZC mb Za (Value.int .i64) (Zq (Zg Lb (⟨rp, (Zy (⟨rp, ep, til, ca, cc, 0, 0, D⟩ : PrR))⟩ : Signed))), Z6 w (ZH [Z3 t 121 [.int .i64 F, .int .i64 Cn, .int .i64 rp, .map (some tm)], ZC tm nmV ceV M, ZI B, Z3 b 110 [.map (some mb)], ZC mb Za (Value.int .i64) (Zq Lb)]).fp, Z3 b2 34 ([(.int .i64 (0)), (.int .i64 (0)), (.int .u64 (0)), (.slice none 0 0), (.int .i64 (0)), (.int .i64 (0))] : List Value), Z3 b14 34 ([(.int .i64 (rp)), (.int .i64 (ep)), (.int .u64 (til)), (.slice ca D.length cc), (.int .i64 (rp)), (.int .i64 (Zt (Zg Lb (⟨rp, (Zy (⟨rp, ep, til, ca, cc, 0, 0, D⟩ : PrR))⟩ : Signed)) (⟨rp, (Zy (⟨rp, ep, til, ca, cc, 0, 0, D⟩ : PrR))⟩ : Signed)))] : List Value), Zb 53 38 (.slice la L.length lc) L.length (L.flatMap ZK), ZI Bh, Zb 53 38 (.slice ca D.length cc) D.length (D.flatMap ZK), Zb 5 1 (.slice a99 ((Zy (⟨rp, ep, til, ca, cc, 0, 0, D⟩ : PrR)).length) c100) ((Zy (⟨rp, ep, til, ca, cc, 0, 0, D⟩ : PrR)).length) ((Zy (⟨rp, ep, til, ca, cc, 0, 0, D⟩ : PrR)).flatMap Zr)] w108)
  have S111 := H109.pick [0, 1, 2, 5, 6, 8, 9, 10] (by decide)
  refine hK107 _ _ S111 ?_
  clear hK107 K107
  refine Z0C (by kernel_rfl) ?_
  refine Z4 ?_
  refine Zc ?_
  refine Zp ?_
  refine Z2 (Z1 rfl) (d := 73) (v := (.agg ⟨([(.int .i64 (rp)), (.int .i64 (ep)), (.int .u64 (til)), (.slice ca D.length cc), (.int .i64 (rp)), (.int .i64 (Zt (Zg Lb (⟨rp, (Zy (⟨rp, ep, til, ca, cc, 0, 0, D⟩ : PrR))⟩ : Signed)) (⟨rp, (Zy (⟨rp, ep, til, ca, cc, 0, 0, D⟩ : PrR))⟩ : Signed)))] : List Value)⟩)) rfl (ZB (vs := ([(.int .i64 (rp)), (.int .i64 (ep)), (.int .u64 (til)), (.slice ca D.length cc), (.int .i64 (rp)), (.int .i64 (Zt (Zg Lb (⟨rp, (Zy (⟨rp, ep, til, ca, cc, 0, 0, D⟩ : PrR))⟩ : Signed)) (⟨rp, (Zy (⟨rp, ep, til, ca, cc, 0, 0, D⟩ : PrR))⟩ : Signed)))] : List Value)) rfl (by kernel_rfl) (by kernel_rfl) (by exact Nat.le_of_ble_eq_true (by kernel_rfl)) (H109.at 7 rfl) (by kernel_rfl)) ?_
  refine ZA (Z1 rfl) (fun K112 hK112 => ?_)
  refine ZU (vs := ([(.int .i64 (rp)), (.int .i64 (ep)), (.int .u64 (til)), (.slice ca D.length cc), (.int .i64 (rp)), (.int .i64 (Zt (Zg Lb (⟨rp, (Zy (⟨rp, ep, til, ca, cc, 0, 0, D⟩ : PrR))⟩ : Signed)) (⟨rp, (Zy (⟨rp, ep, til, ca, cc, 0, 0, D⟩ : PrR))⟩ : Signed)))] : List Value)) (cs' := ([(.int .i64 (rp)), (.int .i64 (ep)), (.int .u64 (til)), (.slice ca D.length cc), (.int .i64 (rp)), (.int .i64 (Zt (Zg Lb (⟨rp, (Zy (⟨rp, ep, til, ca, cc, 0, 0, D⟩ : PrR))⟩ : Signed)) (⟨rp, (Zy (⟨rp, ep, til, ca, cc, 0, 0, D⟩ : PrR))⟩ : Signed)))] : List Value)) rfl H109 6 rfl rfl rfl rfl (by kernel_rfl) (Nat.le_of_ble_eq_true (by kernel_rfl)) (Nat.le_of_ble_eq_true (by kernel_rfl)) (by kernel_rfl) (by kernel_rfl) ?_
  intro w113 (H114 : Sat w [Z3 t 121 ([(.int .i64 (F)), (.int .i64 (Cn)), (.int .i64 (rp)), (.map (some tm))] : List Value), ZC tm nmV ceV M, ZI B, Z3 b 110 ([(.map (some mb))] : List Value), ZC mb Za (Value.int .i64) (Zq (Zg Lb (⟨rp, (Zy (⟨rp, ep, til, ca, cc, 0, 0, D⟩ : PrR))⟩ : Signed))), Z6 w (ZH [Z3 t 121 [.int .i64 F, .int .i64 Cn, .int .i64 rp, .map (some tm)], ZC tm nmV ceV M, ZI B, Z3 b 110 [.map (some mb)], ZC mb Za (Value.int .i64) (Zq Lb)]).fp, Z3 b2 34 ([(.int .i64 (rp)), (.int .i64 (ep)), (.int .u64 (til)), (.slice ca D.length cc), (.int .i64 (rp)), (.int .i64 (Zt (Zg Lb (⟨rp, (Zy (⟨rp, ep, til, ca, cc, 0, 0, D⟩ : PrR))⟩ : Signed)) (⟨rp, (Zy (⟨rp, ep, til, ca, cc, 0, 0, D⟩ : PrR))⟩ : Signed)))] : List Value), Z3 b14 34 ([(.int .i64 (rp)), (.int .i64 (ep)), (.int .u64 (til)), (.slice ca D.length cc), (.int .i64 (rp)), (.int .i64 (Zt (Zg Lb (⟨rp, (Zy (⟨rp, ep, til, ca, cc, 0, 0, D⟩ : PrR))⟩ : Signed)) (⟨rp, (Zy (⟨rp, ep, til, ca, cc, 0, 0, D⟩ : PrR))⟩ : Signed)))] : List Value), Zb 53 38 (.slice la L.length lc) L.length (L.flatMap ZK), ZI Bh, Zb 53 38 (.slice ca D.length cc) D.length (D.flatMap ZK), Zb 5 1 (.slice a99 ((Zy (⟨rp, ep, til, ca, cc, 0, 0, D⟩ : PrR)).length) c100) ((Zy (⟨rp, ep, til, ca, cc, 0, 0, D⟩ : PrR)).length) ((Zy (⟨rp, ep, til, ca, cc, 0, 0, D⟩ : PrR)).flatMap Zr)] w113)
  refine hK112 _ _ ?_
  clear hK112 K112
  refine Z2 (Z1 rfl) (d := 11) (v := (.int .i64 (0))) rfl (by kernel_rfl) ?_
  refine Zm ?_
  refine Z4 ?_
  refine ZY ?_
  refine Z6p rfl (Z0i (vs := ([(.int .i64 (rp)), (.int .i64 (ep)), (.int .u64 (til)), (.slice ca D.length cc), (.int .i64 (rp)), (.int .i64 (Zt (Zg Lb (⟨rp, (Zy (⟨rp, ep, til, ca, cc, 0, 0, D⟩ : PrR))⟩ : Signed)) (⟨rp, (Zy (⟨rp, ep, til, ca, cc, 0, 0, D⟩ : PrR))⟩ : Signed)))] : List Value)) rfl (by kernel_rfl) (by kernel_rfl) (by exact Nat.le_of_ble_eq_true (by kernel_rfl)) (H114.at 6 rfl) (by kernel_rfl)) (ZF (v := (.int .i64 (0))) rfl) ?_
  subst hDf
  exact ⟨ca, cc, L, Bh, ss, rfl, s23, p24, o25, hcD, H114.pick [0, 1, 2, 3, 4, 10, 9, 5] (by decide)⟩
end Go.Proofs.YtoaifondpohniaaGreat
