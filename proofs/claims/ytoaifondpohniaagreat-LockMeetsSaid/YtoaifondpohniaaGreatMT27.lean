/- WHAT IS PROVED: contracts and plain laws of LtH. Conditions: stated with each. -/
import Derived.Test.YtoaifondpohniaaGreatMT24
import Derived.Test.YtoaifondpohniaaGreatMT26
set_option maxHeartbeats 4000000
set_option maxRecDepth 100000
namespace Go.Proofs.YtoaifondpohniaaGreat
open Go.RowKit
def Z9o (c : CeR) : Zk × List Ze := (c.x, c.S)
def HvC (M : List (NmD × CeR)) (ss : List NmD) (D : List CeR) : Prop := D.map Z9o = ss.map fun n => Z9o ((Z6 M n).getD ce0)
theorem Z5l {M : List (NmD × CeR)} {ss : List NmD} {D : List CeR} (h : HvC M ss D) : D.length = ss.length := by
 have q := congrArg List.length h
 simpa using q
theorem Z8R {M : List (NmD × CeR)} {ss : List NmD} {D : List CeR} {i : Nat} {sa : Option Addr} {sc : Nat} {n : NmD} (h : HvC M (ss.take i) D) (hn : ss[i]? = some n) : HvC M (ss.take (i + 1)) (D ++ [⟨((Z6 M n).getD ce0).x, sa, sc, ((Z6 M n).getD ce0).S⟩]) := by
 unfold HvC at h ⊢
 rw [List.take_add_one, List.map_append, List.map_append, h, hn]; rfl
theorem Z7n (w : World) (t tm : Nat) (F Cn rp : Int) (M : List (NmD × CeR)) (ht : (Z1 t 121 [.int .i64 F, .int .i64 Cn, .int .i64 rp, .map (some tm)]).ok w) (htm : MapAt w tm nmV ceV M) (hst : ∀ q ∈ M, (stC q.2).ok w ∧ q.2.S.length ≤ 12) (hlM : M.length ≤ 64) :
  Calls Tryz.prog 25 #[(.pointer (some ⟨t, 0, none⟩))] w fun e w' => ∃ (da : Option Addr) (dc : Nat) (D : List CeR) (B : List Ck) (ss : List NmD), e = .returned (.slice da D.length dc) ∧ ss.Perm (M.map (·.1)) ∧ (ss.Pairwise fun a b => ¬ Z7t b a) ∧ HvC M ss D ∧ (∀ c ∈ D, stC c ∈ B) ∧ (ZI [Zd 53 38 (.slice da D.length dc) D.length (D.flatMap Z01), ZL B]).ok w' ∧ Upd [] w w' ∧ ∀ q_, (ZI [Zd 53 38 (.slice da D.length dc) D.length (D.flatMap Z01), ZL B]).fp q_ → w.heap.size ≤ q_ := by
 have H := Sat.start0 w
 refine Zr Tryz.func25 rfl 29 rfl (Nat.le_of_ble_eq_true rfl) ?_
 refine Zb ?_
 refine Zl ?_
 refine Z3 (Z0 rfl) (d := 2) (v := (.slice none 0 0)) rfl (by kernel_rfl) ?_
 refine Zi ?_
 refine Z4 ?_
 refine Zb ?_
 refine Zl ?_
 refine Z3 (Z0 rfl) (d := 3) (v := (.slice none 0 0)) rfl (by kernel_rfl) ?_
 refine Zi ?_
 refine Z4 ?_
 refine Zb ?_
 refine Zb ?_
 refine Zl ?_
 refine Z3 (Z0 rfl) (d := 6) (v := (.pointer (some ⟨t, 0, none⟩))) rfl (by kernel_rfl) ?_
 refine Z3 (Z0 rfl) (d := 7) (v := (.pointer (some ⟨t, 0, none⟩))) rfl (by kernel_rfl) ?_
 refine Z3 (Z0 rfl) (d := 8) (v := (.pointer (some ⟨t, 3, none⟩))) rfl (by kernel_rfl) ?_
 refine Z3 (Z0 rfl) (d := 9) (v := (.map (some tm))) rfl (Za rfl (by kernel_rfl) (H.roCell 0 rfl ht (fun h => h) rfl)) ?_
 refine ZQ (Z0 rfl) (fun K1 hK1 => ?_)
 refine ZX (d := 10) rfl (by kernel_rfl) (Z7H w tm) ?_
 rintro _ w3 ⟨b2, rfl, k4, p5, q6⟩
 have H7 : Sat w [Z5 w (fun _ => False), Z1 b2 119 ([(.map (some tm))] : List Value)] w3 := H.addU p5 k4 (fun _ h => h ▸ q6)
 refine ⟨_, rfl, ?_⟩
 refine hK1 _ _ ?_
 clear hK1 K1
 refine ZQ (Z0 rfl) (fun K8 hK8 => ?_)
 refine ZX (d := 11) rfl (by kernel_rfl) (Z8z b2 tm M (by omega) w3 (H7.cell 1 rfl rfl) (H7.roMap 0 rfl htm (fun h => h))) ?_
 rintro _ w9 ⟨a10, c11, ss, rfl, p12, s13, k14, u15, q16⟩
 have H17 : Sat w [Z5 w (fun _ => False), Z1 b2 119 ([(.map (some tm))] : List Value), Zd 24 2 (.slice a10 ss.length c11) ss.length (ss.flatMap Z0T)] w9 := H7.addU u15 k14 q16
 refine ⟨_, rfl, ?_⟩
 have hssl := p12.length_eq
 rw [List.length_map] at hssl
 refine hK8 _ _ ?_
 clear hK8 K8
 refine Z3 (Z0 rfl) (d := 12) (v := (.int .i64 ((ss.length : Int)))) rfl (by kernel_rfl) ?_
 refine Z3 (Z0 rfl) (d := 13) (v := (.int .i64 (0))) rfl (by kernel_rfl) ?_
 refine Zi ?_
 refine Z4 ?_
 refine ZO ?_
 have H18 := H17.addNil 53 38
 have H19 := H18.bag0
 refine Z0c [3, 5, 13, 14, 15, 16, 17, 18, 19, 20, 21, 22, 23, 24, 25, 26, 27] (fun F_ W_ m_ => ∃ (i : Nat) (da : Option Addr) (dc : Nat) (D : List CeR) (B : List Ck), F_ 13 = (.int .i64 ((i : Int))) ∧ F_ 3 = (.slice da D.length dc) ∧ (i ≤ ss.length) ∧ (HvC M (ss.take i) D) ∧ (∀ c ∈ D, stC c ∈ B) ∧ Sat w [Z5 w (fun _ => False), Z1 b2 119 ([(.map (some tm))] : List Value), Zd 24 2 (.slice a10 ss.length c11) ss.length (ss.flatMap Z0T), Zd 53 38 (.slice da D.length dc) D.length (D.flatMap Z01), ZL B] W_ ∧ m_ = ss.length - i) _ ⟨0, none, 0, [], [], (show ((.int .i64 (0)) : Value) = _ by first | rfl | go_num), (by first | rfl | go_num), (Nat.zero_le _), rfl, (fun c hm => by simp at hm), H19, rfl⟩ ?_
 rintro g20 w21 _ ⟨i, da, dc, D, B, v23, v24, hi, hco, hin, H22, rfl⟩
 refine Zj 13 _ v23 ?_
 refine Zj 3 _ v24 ?_
 have hDl := Z5l hco
 rw [List.length_take] at hDl
 refine Zb ?_
 refine Zl ?_
 refine Z3 (Z0 rfl) (d := 14) (v := (.bool (decide ((i : Int) < (ss.length : Int))))) rfl (by kernel_rfl) ?_
 refine Zi ?_
 refine Z4 ?_
 refine Zb ?_
 refine (ZD (decide ((i : Int) < (ss.length : Int)))).elim (fun b26 => ?_) (fun b26 => ?_)
 ·have g27 := of_decide_eq_true b26
  refine Zj 14 (.bool true) (congrArg Value.bool b26) ?_
  have g28 := of_decide_eq_true b26
  refine Z0p rfl ?_
  refine ZZ ?_
  refine Z4 ?_
  refine Zb ?_
  refine ZO ?_
  refine Zb ?_
  refine Zl ?_
  obtain ⟨g29, c30, e31⟩ := Z0P (H22.at 2 rfl) (by omega)
  obtain ⟨x32, h33⟩ := Z2a (show i < ss.length by omega)
  refine Z3 (Z0 rfl) (d := 15) (v := (.pointer (some ⟨g29, 0 + ((i : Int)).toNat * 2, none⟩))) rfl (Z0I (E := 24) (by kernel_rfl) (by kernel_rfl) (Nat.le_of_ble_eq_true rfl) rfl e31 rfl (by omega) (by omega)) ?_
  refine Z3 (Z0 rfl) (d := 16) (v := (.agg ⟨([(.int .i64 (x32.cl)), (.int .i64 (x32.sq))] : List Value)⟩)) rfl (Z1C (vs := ([(.int .i64 (x32.cl)), (.int .i64 (x32.sq))] : List Value)) rfl (by kernel_rfl) (by kernel_rfl) (Nat.le_of_ble_eq_true (by kernel_rfl)) (Z6G (H22.at 2 rfl) e31 Z2q h33 0 (show 0 + ((i : Int)).toNat * 2 = i * 2 + 0 by omega) (by kernel_rfl) (by kernel_rfl))) ?_
  refine ZQ (Z0 rfl) (fun K34 hK34 => ?_)
  refine Z19 (zs := ([(.int .i64 (0)), (.int .i64 (0))] : List Value)) (z := (.agg ⟨([(.int .i64 (0)), (.int .i64 (0))] : List Value)⟩)) rfl H22 (by kernel_rfl) (by kernel_rfl) ?_
  intro b35 w36 (H37 : Sat w [Z5 w (fun _ => False), Z1 b2 119 ([(.map (some tm))] : List Value), Zd 24 2 (.slice a10 ss.length c11) ss.length (ss.flatMap Z0T), Zd 53 38 (.slice da D.length dc) D.length (D.flatMap Z01), ZL B, Z1 b35 24 ([(.int .i64 (0)), (.int .i64 (0))] : List Value)] w36)
  refine hK34 _ _ ?_
  clear hK34 K34
  refine ZQ (Z0 rfl) (fun K38 hK38 => ?_)
  refine Z0q (vs := ([(.int .i64 (x32.cl)), (.int .i64 (x32.sq))] : List Value)) (cs' := ([(.int .i64 (x32.cl)), (.int .i64 (x32.sq))] : List Value)) rfl H37 5 rfl rfl rfl rfl (by kernel_rfl) (Nat.le_of_ble_eq_true (by kernel_rfl)) (Nat.le_of_ble_eq_true (by kernel_rfl)) (by kernel_rfl) (by kernel_rfl) ?_
  intro w39 (H40 : Sat w [Z5 w (fun _ => False), Z1 b2 119 ([(.map (some tm))] : List Value), Zd 24 2 (.slice a10 ss.length c11) ss.length (ss.flatMap Z0T), Zd 53 38 (.slice da D.length dc) D.length (D.flatMap Z01), ZL B, Z1 b35 24 ([(.int .i64 (x32.cl)), (.int .i64 (x32.sq))] : List Value)] w39)
  refine hK38 _ _ ?_
  clear hK38 K38
  refine Zi ?_
  refine Z4 ?_
  refine Z0f H40 [Z5 w (fun _ => False), Z1 b2 119 ([(.map (some tm))] : List Value), Zd 24 2 (.slice a10 ss.length c11) ss.length (ss.flatMap Z0T), ZL B, Z1 b35 24 ([(.int .i64 (x32.cl)), (.int .i64 (x32.sq))] : List Value)] 11 rfl (by kernel_rfl) (fun Hx => (Hx.pick [0, 1, 2, 4, 5] (by decide))) ?_
  intro w42 H43 S44
  refine ZM 0 rfl (by kernel_rfl) (by kernel_rfl) (by kernel_rfl) (fun _ _ _ h => h) S44 (Z0 rfl) (d := 17) (v := (.slice da D.length dc)) rfl (fun _ H' => (by kernel_rfl)) ?_
  refine ZM 1 rfl (by kernel_rfl) (by kernel_rfl) (by kernel_rfl) (fun _ _ _ h => h) S44 (Z0 rfl) (d := 18) (v := (.pointer (some ⟨t, 0, none⟩))) rfl (fun _ H' => (by kernel_rfl)) ?_
  refine ZM 2 rfl (by kernel_rfl) (by kernel_rfl) (by kernel_rfl) (fun _ _ _ h => h) S44 (Z0 rfl) (d := 19) (v := (.pointer (some ⟨t, 0, none⟩))) rfl (fun _ H' => (by kernel_rfl)) ?_
  refine ZM 3 rfl (by kernel_rfl) (by kernel_rfl) (by kernel_rfl) (fun _ _ _ h => h) S44 (Z0 rfl) (d := 20) (v := (.pointer (some ⟨t, 3, none⟩))) rfl (fun _ H' => (by kernel_rfl)) ?_
  refine ZM 4 rfl (by kernel_rfl) (by kernel_rfl) (by kernel_rfl) (fun _ _ _ h => h) S44 (Z0 rfl) (d := 21) (v := (.map (some tm))) rfl (fun _ H' => (Za rfl (by kernel_rfl) (H'.roCell 0 rfl ht (fun h => h) rfl))) ?_
  refine ZM 5 rfl (by kernel_rfl) (by kernel_rfl) (by kernel_rfl) (fun _ _ _ h => h) S44 (Z0 rfl) (d := 22) (v := (.agg ⟨([(.int .i64 (x32.cl)), (.int .i64 (x32.sq))] : List Value)⟩)) rfl (fun _ H' => (Zs (vs := ([(.int .i64 (x32.cl)), (.int .i64 (x32.sq))] : List Value)) rfl (by kernel_rfl) (by kernel_rfl) (by exact Nat.le_of_ble_eq_true (by kernel_rfl)) (H'.at 4 rfl) (by kernel_rfl))) ?_
  refine ZM 6 rfl (by kernel_rfl) (by kernel_rfl) (by kernel_rfl) (fun _ _ _ h => h) S44 (Z0 rfl) (d := 23) (v := (.agg ⟨(([(.int .i64 (((Z6 M (⟨x32.cl, x32.sq⟩ : NmD)).getD ce0).x.cl)), (.int .i64 (((Z6 M (⟨x32.cl, x32.sq⟩ : NmD)).getD ce0).x.seq))] : List Value) ++ hc ((Z6 M (⟨x32.cl, x32.sq⟩ : NmD)).getD ce0).x.h ++ ([(.int .i64 (((Z6 M (⟨x32.cl, x32.sq⟩ : NmD)).getD ce0).x.len)), (.int .i64 (((Z6 M (⟨x32.cl, x32.sq⟩ : NmD)).getD ce0).x.sb)), (.int .i64 (((Z6 M (⟨x32.cl, x32.sq⟩ : NmD)).getD ce0).x.sm)), ((.slice ((Z6 M (⟨x32.cl, x32.sq⟩ : NmD)).getD ce0).sa ((Z6 M (⟨x32.cl, x32.sq⟩ : NmD)).getD ce0).S.length ((Z6 M (⟨x32.cl, x32.sq⟩ : NmD)).getD ce0).sc))] : List Value))⟩)) rfl (fun _ H' => (Z2Y (kt := 24) (et := 53) nmK (by kernel_rfl) Z9b rfl (⟨x32.cl, x32.sq⟩ : NmD) rfl (H'.roMap 0 rfl htm (fun h => h)) (Z9B ceV _ _))) ?_
  refine Z1l 7 rfl (by kernel_rfl) (Z0 rfl) (fun K45 hK45 => ?_)
  refine ZX (d := 24) rfl (by kernel_rfl) (Z3V w42 ((Z6 M (⟨x32.cl, x32.sq⟩ : NmD)).getD ce0).x ((Z6 M (⟨x32.cl, x32.sq⟩ : NmD)).getD ce0).sa ((Z6 M (⟨x32.cl, x32.sq⟩ : NmD)).getD ce0).sc ((Z6 M (⟨x32.cl, x32.sq⟩ : NmD)).getD ce0).S (H43.roCk 0 rfl (Z9t hst) (fun _ _ h => h)) (Z8Z hst)) ?_
  rintro _ w46 ⟨u47, rfl, k48, p49, q50⟩
  have H51 : Sat w [Z5 w (fun _ => False), Z1 b2 119 ([(.map (some tm))] : List Value), Zd 24 2 (.slice a10 ss.length c11) ss.length (ss.flatMap Z0T), Zd 53 38 (.slice da D.length dc) D.length (D.flatMap Z01), ZL B, Z1 b35 24 ([(.int .i64 (x32.cl)), (.int .i64 (x32.sq))] : List Value), Zd 101 38 u47 ((((Z6 M (⟨x32.cl, x32.sq⟩ : NmD)).getD ce0).S).length) ((((Z6 M (⟨x32.cl, x32.sq⟩ : NmD)).getD ce0).S).flatMap Z0o)] w46 := H43.addU p49 k48 q50
  obtain ⟨a52, c53, rfl⟩ := Z9 (H51.at 6 rfl)
  refine ⟨_, rfl, ?_⟩
  have S54 := H51.pick [0, 1, 2, 4, 5] (by decide)
  refine hK45 _ _ S54 ?_
  clear hK45 K45
  refine Z1l 8 rfl (by kernel_rfl) (Z0 rfl) (fun K55 hK55 => ?_)
  refine Z05 (e := 53) (size := 38) (bytes := 96) (z := (.agg ⟨(([(.int .i64 (0)), (.int .i64 (0))] : List Value) ++ hc Zt ++ ([(.int .i64 (0)), (.int .i64 (0)), (.int .i64 (0)), (.slice none 0 0)] : List Value))⟩)) (pvs := [(0, (.agg ⟨(([(.int .i64 (((Z6 M (⟨x32.cl, x32.sq⟩ : NmD)).getD ce0).x.cl)), (.int .i64 (((Z6 M (⟨x32.cl, x32.sq⟩ : NmD)).getD ce0).x.seq))] : List Value) ++ hc ((Z6 M (⟨x32.cl, x32.sq⟩ : NmD)).getD ce0).x.h ++ ([(.int .i64 (((Z6 M (⟨x32.cl, x32.sq⟩ : NmD)).getD ce0).x.len)), (.int .i64 (((Z6 M (⟨x32.cl, x32.sq⟩ : NmD)).getD ce0).x.sb)), (.int .i64 (((Z6 M (⟨x32.cl, x32.sq⟩ : NmD)).getD ce0).x.sm)), (.slice a52 ((((Z6 M (⟨x32.cl, x32.sq⟩ : NmD)).getD ce0).S).length) c53)] : List Value))⟩))]) (vs := (([(.int .i64 (((Z6 M (⟨x32.cl, x32.sq⟩ : NmD)).getD ce0).x.cl)), (.int .i64 (((Z6 M (⟨x32.cl, x32.sq⟩ : NmD)).getD ce0).x.seq))] : List Value) ++ hc ((Z6 M (⟨x32.cl, x32.sq⟩ : NmD)).getD ce0).x.h ++ ([(.int .i64 (((Z6 M (⟨x32.cl, x32.sq⟩ : NmD)).getD ce0).x.len)), (.int .i64 (((Z6 M (⟨x32.cl, x32.sq⟩ : NmD)).getD ce0).x.sb)), (.int .i64 (((Z6 M (⟨x32.cl, x32.sq⟩ : NmD)).getD ce0).x.sm)), (.slice a52 ((((Z6 M (⟨x32.cl, x32.sq⟩ : NmD)).getD ce0).S).length) c53)] : List Value))) rfl H51 (by kernel_rfl) (by kernel_rfl) (by kernel_rfl) (by kernel_rfl) (by kernel_rfl) rfl rfl ?_
  intro b56 w57 (H58 : Sat w [Z5 w (fun _ => False), Z1 b2 119 ([(.map (some tm))] : List Value), Zd 24 2 (.slice a10 ss.length c11) ss.length (ss.flatMap Z0T), Zd 53 38 (.slice da D.length dc) D.length (D.flatMap Z01), ZL B, Z1 b35 24 ([(.int .i64 (x32.cl)), (.int .i64 (x32.sq))] : List Value), Zd 101 38 (.slice a52 ((((Z6 M (⟨x32.cl, x32.sq⟩ : NmD)).getD ce0).S).length) c53) ((((Z6 M (⟨x32.cl, x32.sq⟩ : NmD)).getD ce0).S).length) ((((Z6 M (⟨x32.cl, x32.sq⟩ : NmD)).getD ce0).S).flatMap Z0o), Zd 53 38 (.slice (some ⟨b56, 0, none⟩) 1 1) 1 (([(.int .i64 (((Z6 M (⟨x32.cl, x32.sq⟩ : NmD)).getD ce0).x.cl)), (.int .i64 (((Z6 M (⟨x32.cl, x32.sq⟩ : NmD)).getD ce0).x.seq))] : List Value) ++ hc ((Z6 M (⟨x32.cl, x32.sq⟩ : NmD)).getD ce0).x.h ++ ([(.int .i64 (((Z6 M (⟨x32.cl, x32.sq⟩ : NmD)).getD ce0).x.len)), (.int .i64 (((Z6 M (⟨x32.cl, x32.sq⟩ : NmD)).getD ce0).x.sb)), (.int .i64 (((Z6 M (⟨x32.cl, x32.sq⟩ : NmD)).getD ce0).x.sm)), (.slice a52 ((((Z6 M (⟨x32.cl, x32.sq⟩ : NmD)).getD ce0).S).length) c53)] : List Value))] w57)
  have H59 : Sat w [Z5 w (fun _ => False), Z1 b2 119 ([(.map (some tm))] : List Value), Zd 24 2 (.slice a10 ss.length c11) ss.length (ss.flatMap Z0T), Zd 53 38 (.slice da D.length dc) D.length (D.flatMap Z01), ZL B, Z1 b35 24 ([(.int .i64 (x32.cl)), (.int .i64 (x32.sq))] : List Value), Zd 101 38 (.slice a52 ((((Z6 M (⟨x32.cl, x32.sq⟩ : NmD)).getD ce0).S).length) c53) ((((Z6 M (⟨x32.cl, x32.sq⟩ : NmD)).getD ce0).S).length) ((((Z6 M (⟨x32.cl, x32.sq⟩ : NmD)).getD ce0).S).flatMap Z0o), Zd 53 38 (.slice (some ⟨b56, 0, none⟩) 1 1) 1 ([(⟨((Z6 M (⟨x32.cl, x32.sq⟩ : NmD)).getD ce0).x, a52, c53, ((Z6 M (⟨x32.cl, x32.sq⟩ : NmD)).getD ce0).S⟩ : CeR)].flatMap Z01)] w57 := H58.cast (by rw [(show ((([(.int .i64 (((Z6 M (⟨x32.cl, x32.sq⟩ : NmD)).getD ce0).x.cl)), (.int .i64 (((Z6 M (⟨x32.cl, x32.sq⟩ : NmD)).getD ce0).x.seq))] : List Value) ++ hc ((Z6 M (⟨x32.cl, x32.sq⟩ : NmD)).getD ce0).x.h ++ ([(.int .i64 (((Z6 M (⟨x32.cl, x32.sq⟩ : NmD)).getD ce0).x.len)), (.int .i64 (((Z6 M (⟨x32.cl, x32.sq⟩ : NmD)).getD ce0).x.sb)), (.int .i64 (((Z6 M (⟨x32.cl, x32.sq⟩ : NmD)).getD ce0).x.sm)), (.slice a52 ((((Z6 M (⟨x32.cl, x32.sq⟩ : NmD)).getD ce0).S).length) c53)] : List Value)) : List Value) = [(⟨((Z6 M (⟨x32.cl, x32.sq⟩ : NmD)).getD ce0).x, a52, c53, ((Z6 M (⟨x32.cl, x32.sq⟩ : NmD)).getD ce0).S⟩ : CeR)].flatMap Z01 by kernel_rfl)])
  have S60 := H59.pick [0, 1, 2, 4, 5] (by decide)
  refine hK55 _ _ S60 ?_
  clear hK55 K55
  refine Z1l 9 rfl (by kernel_rfl) (Z0 rfl) (fun K61 hK61 => ?_)
  refine Z17 (T := 32) (e := 53) (size := 38) (bytes := 96) rfl H59 (by kernel_rfl) 3 7 rfl rfl rfl rfl (Z0Z Z01 Z60 [(⟨((Z6 M (⟨x32.cl, x32.sq⟩ : NmD)).getD ce0).x, a52, c53, ((Z6 M (⟨x32.cl, x32.sq⟩ : NmD)).getD ce0).S⟩ : CeR)]) (by omega) (by omega) ?_
  intro v62 w63 (H64 : Sat w [Z5 w (fun _ => False), Z1 b2 119 ([(.map (some tm))] : List Value), Zd 24 2 (.slice a10 ss.length c11) ss.length (ss.flatMap Z0T), Zd 53 38 v62 (D.length + 1) ((D.flatMap Z01) ++ ([(⟨((Z6 M (⟨x32.cl, x32.sq⟩ : NmD)).getD ce0).x, a52, c53, ((Z6 M (⟨x32.cl, x32.sq⟩ : NmD)).getD ce0).S⟩ : CeR)].flatMap Z01)), ZL B, Z1 b35 24 ([(.int .i64 (x32.cl)), (.int .i64 (x32.sq))] : List Value), Zd 101 38 (.slice a52 ((((Z6 M (⟨x32.cl, x32.sq⟩ : NmD)).getD ce0).S).length) c53) ((((Z6 M (⟨x32.cl, x32.sq⟩ : NmD)).getD ce0).S).length) ((((Z6 M (⟨x32.cl, x32.sq⟩ : NmD)).getD ce0).S).flatMap Z0o), Zd 53 38 (.slice (some ⟨b56, 0, none⟩) 1 1) 1 ([(⟨((Z6 M (⟨x32.cl, x32.sq⟩ : NmD)).getD ce0).x, a52, c53, ((Z6 M (⟨x32.cl, x32.sq⟩ : NmD)).getD ce0).S⟩ : CeR)].flatMap Z01)] w63)
  have H67 : Sat w [Z5 w (fun _ => False), Z1 b2 119 ([(.map (some tm))] : List Value), Zd 24 2 (.slice a10 ss.length c11) ss.length (ss.flatMap Z0T), Zd 53 38 v62 ((D ++ [(⟨((Z6 M (⟨x32.cl, x32.sq⟩ : NmD)).getD ce0).x, a52, c53, ((Z6 M (⟨x32.cl, x32.sq⟩ : NmD)).getD ce0).S⟩ : CeR)]).length) ((D ++ [(⟨((Z6 M (⟨x32.cl, x32.sq⟩ : NmD)).getD ce0).x, a52, c53, ((Z6 M (⟨x32.cl, x32.sq⟩ : NmD)).getD ce0).S⟩ : CeR)]).flatMap Z01), ZL B, Z1 b35 24 ([(.int .i64 (x32.cl)), (.int .i64 (x32.sq))] : List Value), Zd 101 38 (.slice a52 ((((Z6 M (⟨x32.cl, x32.sq⟩ : NmD)).getD ce0).S).length) c53) ((((Z6 M (⟨x32.cl, x32.sq⟩ : NmD)).getD ce0).S).length) ((((Z6 M (⟨x32.cl, x32.sq⟩ : NmD)).getD ce0).S).flatMap Z0o), Zd 53 38 (.slice (some ⟨b56, 0, none⟩) 1 1) 1 ([(⟨((Z6 M (⟨x32.cl, x32.sq⟩ : NmD)).getD ce0).x, a52, c53, ((Z6 M (⟨x32.cl, x32.sq⟩ : NmD)).getD ce0).S⟩ : CeR)].flatMap Z01)] w63 := H64.cast (by simp only [List.length_append, List.flatMap_append] <;> rfl)
  obtain ⟨a65, c66, rfl⟩ := Z9 (H67.at 3 rfl)
  have S68 := H67.pick [0, 1, 2, 4, 5] (by decide)
  refine hK61 _ _ S68 ?_
  clear hK61 K61
  refine ZM 10 rfl (by kernel_rfl) (by kernel_rfl) (by kernel_rfl) (fun _ _ _ h => h) S68 (Z0 rfl) (d := 3) (v := (.slice a65 ((D ++ [(⟨((Z6 M (⟨x32.cl, x32.sq⟩ : NmD)).getD ce0).x, a52, c53, ((Z6 M (⟨x32.cl, x32.sq⟩ : NmD)).getD ce0).S⟩ : CeR)]).length) c66)) rfl (fun _ H' => (by kernel_rfl)) ?_
  refine Z20 (by kernel_rfl) ?_
  refine ZE ?_
  refine Z4 ?_
  have H69 : Sat w [ZL (stC (⟨((Z6 M (⟨x32.cl, x32.sq⟩ : NmD)).getD ce0).x, a52, c53, ((Z6 M (⟨x32.cl, x32.sq⟩ : NmD)).getD ce0).S⟩ : CeR) :: B), Z5 w (fun _ => False), Z1 b2 119 ([(.map (some tm))] : List Value), Zd 24 2 (.slice a10 ss.length c11) ss.length (ss.flatMap Z0T), Zd 53 38 (.slice a65 ((D ++ [(⟨((Z6 M (⟨x32.cl, x32.sq⟩ : NmD)).getD ce0).x, a52, c53, ((Z6 M (⟨x32.cl, x32.sq⟩ : NmD)).getD ce0).S⟩ : CeR)]).length) c66) ((D ++ [(⟨((Z6 M (⟨x32.cl, x32.sq⟩ : NmD)).getD ce0).x, a52, c53, ((Z6 M (⟨x32.cl, x32.sq⟩ : NmD)).getD ce0).S⟩ : CeR)]).length) ((D ++ [(⟨((Z6 M (⟨x32.cl, x32.sq⟩ : NmD)).getD ce0).x, a52, c53, ((Z6 M (⟨x32.cl, x32.sq⟩ : NmD)).getD ce0).S⟩ : CeR)]).flatMap Z01), Z1 b35 24 ([(.int .i64 (x32.cl)), (.int .i64 (x32.sq))] : List Value), Zd 53 38 (.slice (some ⟨b56, 0, none⟩) 1 1) 1 ([(⟨((Z6 M (⟨x32.cl, x32.sq⟩ : NmD)).getD ce0).x, a52, c53, ((Z6 M (⟨x32.cl, x32.sq⟩ : NmD)).getD ce0).S⟩ : CeR)].flatMap Z01)] w63 := (H67.pick [4, 6, 0, 1, 2, 3, 5, 7] (by decide)).bag
  have H70 : Sat w [Z5 w (fun _ => False), Z1 b2 119 ([(.map (some tm))] : List Value), Zd 24 2 (.slice a10 ss.length c11) ss.length (ss.flatMap Z0T), Zd 53 38 (.slice a65 ((D ++ [(⟨((Z6 M (⟨x32.cl, x32.sq⟩ : NmD)).getD ce0).x, a52, c53, ((Z6 M (⟨x32.cl, x32.sq⟩ : NmD)).getD ce0).S⟩ : CeR)]).length) c66) ((D ++ [(⟨((Z6 M (⟨x32.cl, x32.sq⟩ : NmD)).getD ce0).x, a52, c53, ((Z6 M (⟨x32.cl, x32.sq⟩ : NmD)).getD ce0).S⟩ : CeR)]).length) ((D ++ [(⟨((Z6 M (⟨x32.cl, x32.sq⟩ : NmD)).getD ce0).x, a52, c53, ((Z6 M (⟨x32.cl, x32.sq⟩ : NmD)).getD ce0).S⟩ : CeR)]).flatMap Z01), ZL (stC (⟨((Z6 M (⟨x32.cl, x32.sq⟩ : NmD)).getD ce0).x, a52, c53, ((Z6 M (⟨x32.cl, x32.sq⟩ : NmD)).getD ce0).S⟩ : CeR) :: B), Z1 b35 24 ([(.int .i64 (x32.cl)), (.int .i64 (x32.sq))] : List Value), Zd 53 38 (.slice (some ⟨b56, 0, none⟩) 1 1) 1 ([(⟨((Z6 M (⟨x32.cl, x32.sq⟩ : NmD)).getD ce0).x, a52, c53, ((Z6 M (⟨x32.cl, x32.sq⟩ : NmD)).getD ce0).S⟩ : CeR)].flatMap Z01)] w63 := H69.pick [1, 2, 3, 4, 0, 5, 6] (by decide)
  refine Zl ?_
  refine Z3 (Z0 rfl) (d := 27) (v := (.int .i64 ((i : Int) + 1))) rfl (Z0l (z := (i : Int) + 1) (by kernel_rfl) (IntWalk.i64_in _ (by omega))) ?_
  refine Z3 (Z0 rfl) (d := 13) (v := (.int .i64 ((i : Int) + 1))) rfl (by kernel_rfl) ?_
  refine Zi ?_
  have H71 : Sat w [Z5 w (fun _ => False), Z1 b2 119 ([(.map (some tm))] : List Value), Zd 24 2 (.slice a10 ss.length c11) ss.length (ss.flatMap Z0T), Zd 53 38 (.slice a65 ((D ++ [(⟨((Z6 M (⟨x32.cl, x32.sq⟩ : NmD)).getD ce0).x, a52, c53, ((Z6 M (⟨x32.cl, x32.sq⟩ : NmD)).getD ce0).S⟩ : CeR)]).length) c66) ((D ++ [(⟨((Z6 M (⟨x32.cl, x32.sq⟩ : NmD)).getD ce0).x, a52, c53, ((Z6 M (⟨x32.cl, x32.sq⟩ : NmD)).getD ce0).S⟩ : CeR)]).length) ((D ++ [(⟨((Z6 M (⟨x32.cl, x32.sq⟩ : NmD)).getD ce0).x, a52, c53, ((Z6 M (⟨x32.cl, x32.sq⟩ : NmD)).getD ce0).S⟩ : CeR)]).flatMap Z01), ZL (stC (⟨((Z6 M (⟨x32.cl, x32.sq⟩ : NmD)).getD ce0).x, a52, c53, ((Z6 M (⟨x32.cl, x32.sq⟩ : NmD)).getD ce0).S⟩ : CeR) :: B)] w63 := H70.pick [0, 1, 2, 3, 4] (by decide)
  refine ZH ?_ _ ⟨(i + 1), a65, c66, (D ++ [(⟨((Z6 M (⟨x32.cl, x32.sq⟩ : NmD)).getD ce0).x, a52, c53, ((Z6 M (⟨x32.cl, x32.sq⟩ : NmD)).getD ce0).S⟩ : CeR)]), (stC (⟨((Z6 M (⟨x32.cl, x32.sq⟩ : NmD)).getD ce0).x, a52, c53, ((Z6 M (⟨x32.cl, x32.sq⟩ : NmD)).getD ce0).S⟩ : CeR) :: B), (show ((.int .i64 ((i : Int) + 1)) : Value) = _ by first | rfl | go_num), (show ((.slice a65 ((D ++ [(⟨((Z6 M (⟨x32.cl, x32.sq⟩ : NmD)).getD ce0).x, a52, c53, ((Z6 M (⟨x32.cl, x32.sq⟩ : NmD)).getD ce0).S⟩ : CeR)]).length) c66) : Value) = _ by first | rfl | go_num), (by omega), (Z8R hco h33), (Z9v hin), H71, rfl⟩ (by omega)
  exact (Z2 rfl (Z2 rfl (Z2 rfl (Z2 rfl (Z2 rfl (Z2 rfl (Z2 rfl (Z2 rfl (Z2 rfl (Z2 rfl (Z2 rfl (Z2 rfl (Z2 rfl (Z2 rfl (Z2 rfl (Z2 rfl (Z2 rfl (Z2 rfl (Z2 rfl (Z2 rfl (Z0S)))))))))))))))))))))
 ·have g72 := of_decide_eq_false b26
  refine Zj 14 (.bool false) (congrArg Value.bool b26) ?_
  have g73 := of_decide_eq_false b26
  refine Z0r rfl ?_
  refine Z2i ?_
  refine Z0Y ?_
  refine Z10 ?_
  refine Z1u ?_
  refine Z4 ?_
  refine Zb ?_
  refine Zl ?_
  refine Z3 (Z0 rfl) (d := 28) (v := (.slice da D.length dc)) rfl (by kernel_rfl) ?_
  refine Z3 (Z0 rfl) (d := 2) (v := (.slice da D.length dc)) rfl (by kernel_rfl) ?_
  refine Zi ?_
  refine Z4 ?_
  refine ZY ?_
  refine Z1i rfl (ZJ (v := (.slice da D.length dc)) rfl) ?_
  exact ⟨da, dc, D, B, ss, rfl, p12, s13, (by rw [List.take_of_length_le (by omega)] at hco; exact hco), hin, H22.fin [3, 4] (by decide) rfl, H22.upd 0 rfl [] (fun _ h => h.elim), H22.freshS 0 rfl (fun _ h => h) [3, 4] rfl rfl⟩
end Go.Proofs.YtoaifondpohniaaGreat
