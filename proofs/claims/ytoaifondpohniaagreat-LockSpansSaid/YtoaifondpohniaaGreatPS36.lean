/- WHAT IS PROVED: contracts and plain laws of KpL, Wk11, LtM. Conditions: stated with each. -/
import Derived.Test.YtoaifondpohniaaGreatPS06
import Derived.Test.YtoaifondpohniaaGreatPS24
import Derived.Test.YtoaifondpohniaaGreatPS30
import Derived.Test.YtoaifondpohniaaGreatPS34
import Derived.Test.YtoaifondpohniaaGreatPS35
set_option maxHeartbeats 4000000
set_option maxRecDepth 100000
namespace Go.Proofs.YtoaifondpohniaaGreat
open Go.RowKit
theorem Z6m (w : World) (va : Option Addr) (vc : Nat) (xs : List Zd) (hxs : ListAt Z0l 38 w (.slice va xs.length vc) xs) (ua : Option Addr) (uc : Nat) (ys : List Zd) (hys : ListAt Z0l 38 w (.slice ua ys.length uc) ys) (hxy : ys = xs) :
  Calls Tryz.prog 62 #[(.slice va xs.length vc), (.slice ua ys.length uc)] w fun e w' => e = .returned (.bool true) ∧ Upd [] w w' := by
 have H := Sat.start0 w
 have hlen : ys.length = xs.length := by rw [hxy]
 have hle := SliceOf.le hxs
 unfold maxLen at hle
 refine ZE Tryz.func62 rfl 26 rfl (Nat.le_of_ble_eq_true rfl) ?_
 refine Zc ?_
 refine Zp ?_
 refine Z2 (Z1 rfl) (d := 4) (v := (.bool false)) rfl (by kernel_rfl) ?_
 refine Zm ?_
 refine Z4 ?_
 refine Zc ?_
 refine Zc ?_
 refine Zp ?_
 refine Z2 (Z1 rfl) (d := 6) (v := (.slice va xs.length vc)) rfl (by kernel_rfl) ?_
 refine Z2 (Z1 rfl) (d := 7) (v := (.int .i64 ((xs.length : Int)))) rfl (by kernel_rfl) ?_
 refine Z2 (Z1 rfl) (d := 8) (v := (.slice ua ys.length uc)) rfl (by kernel_rfl) ?_
 refine Z2 (Z1 rfl) (d := 9) (v := (.int .i64 ((ys.length : Int)))) rfl (by kernel_rfl) ?_
 refine Z2 (Z1 rfl) (d := 10) (v := (.bool (!(decide ((xs.length : Int) = (ys.length : Int)))))) rfl (by kernel_rfl) ?_
 refine Zm ?_
 refine Z4 ?_
 have b1 : (!(decide ((xs.length : Int) = (ys.length : Int)))) = false := by rw [decide_eq_true (by omega)]; rfl
 refine Zs 10 (.bool false) (congrArg Value.bool b1) ?_
 have g2 := ZG b1
 have g3 := of_decide_eq_true g2
 refine Z09 rfl ?_
 refine Z0b ?_
 refine Z4 ?_
 refine Zc ?_
 refine Zc ?_
 refine Zp ?_
 refine Z2 (Z1 rfl) (d := 5) (v := (.int .i64 (0))) rfl (by kernel_rfl) ?_
 refine Zm ?_
 refine Z4 ?_
 refine ZR ?_
 refine Z0m [4, 5, 11, 12, 13, 14, 15, 16, 17, 18, 19, 20, 21, 22, 23, 24, 25] (fun F_ W_ m_ => ∃ (i : Nat), F_ 5 = (.int .i64 ((i : Int))) ∧ (i ≤ xs.length) ∧ Sat w [Z6 w (fun _ => False)] W_ ∧ m_ = xs.length - i) _ ⟨0, (show ((.int .i64 (0)) : Value) = _ by first | rfl | go_num), (Nat.zero_le _), H, rfl⟩ ?_
 rintro g4 w5 _ ⟨i, v7, hi, H6, rfl⟩
 refine Zs 5 _ v7 ?_
 refine Zc ?_
 refine Zc ?_
 refine Zp ?_
 refine Z2 (Z1 rfl) (d := 11) (v := (.int .i64 ((i : Int)))) rfl (by kernel_rfl) ?_
 refine Z2 (Z1 rfl) (d := 12) (v := (.slice va xs.length vc)) rfl (by kernel_rfl) ?_
 refine Z2 (Z1 rfl) (d := 13) (v := (.int .i64 ((xs.length : Int)))) rfl (by kernel_rfl) ?_
 refine Z2 (Z1 rfl) (d := 14) (v := (.bool (decide ((i : Int) < (xs.length : Int))))) rfl (by kernel_rfl) ?_
 refine Zm ?_
 refine Z4 ?_
 refine (ZS (decide ((i : Int) < (xs.length : Int)))).elim (fun b9 => ?_) (fun b9 => ?_)
 ·have g10 := of_decide_eq_true b9
  refine Zs 14 (.bool true) (congrArg Value.bool b9) ?_
  have g11 := of_decide_eq_true b9
  refine Z0h rfl ?_
  refine Z0b ?_
  refine Z4 ?_
  refine Zc ?_
  refine ZR ?_
  refine Zc ?_
  refine Z1d H6 (by kernel_rfl) (by kernel_rfl) ?_
  refine Zz (Z1 rfl) (d := 17) (v := (.slice va xs.length vc)) rfl (fun _ H' => (by kernel_rfl)) ?_
  refine Zz (Z1 rfl) (d := 18) (v := (.int .i64 ((i : Int)))) rfl (fun _ H' => (by kernel_rfl)) ?_
  obtain ⟨g12, o13, c14, e15, R16⟩ := SliceOf.atD hxs Z8 (show i < xs.length by omega)
  refine Zz (Z1 rfl) (d := 19) (v := (.pointer (some ⟨g12, o13 + ((i : Int)).toNat * 38, none⟩))) rfl (fun _ H' => (ZZ (E := 101) (by kernel_rfl) (by kernel_rfl) (Nat.le_of_ble_eq_true rfl) rfl e15 rfl (by omega) (by omega))) ?_
  refine Zz (Z1 rfl) (d := 20) (v := (.agg ⟨(([(.int .i64 ((xs.getD i Z8).r)), (.int .i64 ((xs.getD i Z8).cl)), (.int .i64 ((xs.getD i Z8).seq))] : List Value) ++ hc (xs.getD i Z8).h ++ ([(.int .u64 ((xs.getD i Z8).t)), (.int .i64 ((xs.getD i Z8).sb)), (.int .i64 ((xs.getD i Z8).sm))] : List Value))⟩)) rfl (fun _ H' => (Z0F (vs := (([(.int .i64 ((xs.getD i Z8).r)), (.int .i64 ((xs.getD i Z8).cl)), (.int .i64 ((xs.getD i Z8).seq))] : List Value) ++ hc (xs.getD i Z8).h ++ ([(.int .u64 ((xs.getD i Z8).t)), (.int .i64 ((xs.getD i Z8).sb)), (.int .i64 ((xs.getD i Z8).sm))] : List Value))) rfl (by kernel_rfl) (by kernel_rfl) (Nat.le_of_ble_eq_true (by kernel_rfl)) (H'.runR 0 rfl (Z1T R16 0 (by kernel_rfl) (show o13 + ((i : Int)).toNat * 38 = o13 + i * 38 + 0 by omega)) (fun h => h)))) ?_
  refine Zz (Z1 rfl) (d := 21) (v := (.slice ua ys.length uc)) rfl (fun _ H' => (by kernel_rfl)) ?_
  refine Zz (Z1 rfl) (d := 22) (v := (.int .i64 ((i : Int)))) rfl (fun _ H' => (by kernel_rfl)) ?_
  obtain ⟨g17, o18, c19, e20, R21⟩ := SliceOf.atD hys Z8 (show i < ys.length by omega)
  refine Zz (Z1 rfl) (d := 23) (v := (.pointer (some ⟨g17, o18 + ((i : Int)).toNat * 38, none⟩))) rfl (fun _ H' => (ZZ (E := 101) (by kernel_rfl) (by kernel_rfl) (Nat.le_of_ble_eq_true rfl) rfl e20 rfl (by omega) (by omega))) ?_
  refine Zz (Z1 rfl) (d := 24) (v := (.agg ⟨(([(.int .i64 ((ys.getD i Z8).r)), (.int .i64 ((ys.getD i Z8).cl)), (.int .i64 ((ys.getD i Z8).seq))] : List Value) ++ hc (ys.getD i Z8).h ++ ([(.int .u64 ((ys.getD i Z8).t)), (.int .i64 ((ys.getD i Z8).sb)), (.int .i64 ((ys.getD i Z8).sm))] : List Value))⟩)) rfl (fun _ H' => (Z0F (vs := (([(.int .i64 ((ys.getD i Z8).r)), (.int .i64 ((ys.getD i Z8).cl)), (.int .i64 ((ys.getD i Z8).seq))] : List Value) ++ hc (ys.getD i Z8).h ++ ([(.int .u64 ((ys.getD i Z8).t)), (.int .i64 ((ys.getD i Z8).sb)), (.int .i64 ((ys.getD i Z8).sm))] : List Value))) rfl (by kernel_rfl) (by kernel_rfl) (Nat.le_of_ble_eq_true (by kernel_rfl)) (H'.runR 0 rfl (Z1T R21 0 (by kernel_rfl) (show o18 + ((i : Int)).toNat * 38 = o18 + i * 38 + 0 by omega)) (fun h => h)))) ?_
  refine Zz (Z1 rfl) (d := 25) (v := (.bool (!(decide ((xs.getD i Z8) = (ys.getD i Z8)))))) rfl (fun _ H' => (stF.e_ne (xs.getD i Z8) (ys.getD i Z8) rfl rfl)) ?_
  refine Z1U ?_
  intro w22 H23
  refine Z4 ?_
  have b24 : (!(decide ((xs.getD i Z8) = (ys.getD i Z8)))) = false := by rw [decide_eq_true (by rw [hxy])]; rfl
  refine Zs 25 (.bool false) (congrArg Value.bool b24) ?_
  have g25 := ZG b24
  have g26 := of_decide_eq_true g25
  refine Z09 rfl ?_
  refine Z0b ?_
  refine ZL ?_
  refine Z4 ?_
  refine Zp ?_
  refine Z2 (Z1 rfl) (d := 15) (v := (.int .i64 ((i : Int)))) rfl (by kernel_rfl) ?_
  refine Z2 (Z1 rfl) (d := 16) (v := (.int .i64 ((i : Int) + 1))) rfl (Z04 (z := (i : Int) + 1) (by kernel_rfl) (IntWalk.i64_in _ (by omega))) ?_
  refine Z2 (Z1 rfl) (d := 5) (v := (.int .i64 ((i : Int) + 1))) rfl (by kernel_rfl) ?_
  refine Zm ?_
  refine ZM ?_ _ ⟨(i + 1), (show ((.int .i64 ((i : Int) + 1)) : Value) = _ by first | rfl | go_num), (by omega), H23, rfl⟩ (by omega)
  exact (Z0 rfl (Z0 rfl (Z0 rfl (Z0 rfl (Z0 rfl (Z0 rfl (Z0 rfl (Z0 rfl (Z0 rfl (Z0 rfl (Z0 rfl (Z0 rfl (Z0 rfl (Z0 rfl (Z0 rfl (Z0 rfl (Z0 rfl (Z0 rfl (Z0 rfl (Z06))))))))))))))))))))
 ·have g27 := of_decide_eq_false b9
  refine Zs 14 (.bool false) (congrArg Value.bool b9) ?_
  have g28 := of_decide_eq_false b9
  refine Z09 rfl ?_
  refine Z0M ?_
  refine Z0a ?_
  refine Z0c ?_
  refine Z0B ?_
  refine Z4 ?_
  refine Zc ?_
  refine Zp ?_
  refine Z2 (Z1 rfl) (d := 4) (v := (.bool true)) rfl (by kernel_rfl) ?_
  refine Zm ?_
  refine Z4 ?_
  refine ZY ?_
  refine Z0O rfl (ZF (v := (.bool true)) rfl) ?_
  exact ⟨rfl, H6.upd 0 rfl [] (fun _ h => h.elim)⟩
theorem Z75 (w : World) (c d : CeR) (hc_ : CeOk w c) (hd_ : CeOk w d) (hx : d.x = c.x) (hS : d.S = c.S) :
  Calls Tryz.prog 27 #[(.agg ⟨(([(.int .i64 (c.x.cl)), (.int .i64 (c.x.seq))] : List Value) ++ hc c.x.h ++ ([(.int .i64 (c.x.len)), (.int .i64 (c.x.sb)), (.int .i64 (c.x.sm)), (.slice c.sa c.S.length c.sc)] : List Value))⟩), (.agg ⟨(([(.int .i64 (d.x.cl)), (.int .i64 (d.x.seq))] : List Value) ++ hc d.x.h ++ ([(.int .i64 (d.x.len)), (.int .i64 (d.x.sb)), (.int .i64 (d.x.sm)), (.slice d.sa d.S.length d.sc)] : List Value))⟩)] w fun e w' => e = .returned (.bool true) ∧ Upd [] w w' := by
 have H := Sat.start0 w
 refine ZE Tryz.func27 rfl 17 rfl (Nat.le_of_ble_eq_true rfl) ?_
 refine Zc ?_
 refine Zp ?_
 refine ZA (Z1 rfl) (fun K1 hK1 => ?_)
 refine Z0H (vs := (([(.int .i64 (c.x.cl)), (.int .i64 (c.x.seq))] : List Value) ++ hc c.x.h ++ ([(.int .i64 (c.x.len)), (.int .i64 (c.x.sb)), (.int .i64 (c.x.sm)), (.slice c.sa c.S.length c.sc)] : List Value))) rfl H rfl rfl ?_
 intro b2 w3 (H4 : Sat w [Z6 w (fun _ => False), Z3 b2 53 (([(.int .i64 (c.x.cl)), (.int .i64 (c.x.seq))] : List Value) ++ hc c.x.h ++ ([(.int .i64 (c.x.len)), (.int .i64 (c.x.sb)), (.int .i64 (c.x.sm)), (.slice c.sa c.S.length c.sc)] : List Value))] w3)
 refine hK1 _ _ ?_
 clear hK1 K1
 refine ZA (Z1 rfl) (fun K5 hK5 => ?_)
 refine Z0H (vs := (([(.int .i64 (d.x.cl)), (.int .i64 (d.x.seq))] : List Value) ++ hc d.x.h ++ ([(.int .i64 (d.x.len)), (.int .i64 (d.x.sb)), (.int .i64 (d.x.sm)), (.slice d.sa d.S.length d.sc)] : List Value))) rfl H4 rfl rfl ?_
 intro b6 w7 (H8 : Sat w [Z6 w (fun _ => False), Z3 b2 53 (([(.int .i64 (c.x.cl)), (.int .i64 (c.x.seq))] : List Value) ++ hc c.x.h ++ ([(.int .i64 (c.x.len)), (.int .i64 (c.x.sb)), (.int .i64 (c.x.sm)), (.slice c.sa c.S.length c.sc)] : List Value)), Z3 b6 53 (([(.int .i64 (d.x.cl)), (.int .i64 (d.x.seq))] : List Value) ++ hc d.x.h ++ ([(.int .i64 (d.x.len)), (.int .i64 (d.x.sb)), (.int .i64 (d.x.sm)), (.slice d.sa d.S.length d.sc)] : List Value))] w7)
 refine hK5 _ _ ?_
 clear hK5 K5
 refine Z2 (Z1 rfl) (d := 4) (v := (.bool false)) rfl (by kernel_rfl) ?_
 refine Zm ?_
 refine Z4 ?_
 refine Zc ?_
 refine Zp ?_
 refine Z2 (Z1 rfl) (d := 5) (v := (.pointer (some ⟨b2, 0, none⟩))) rfl (by kernel_rfl) ?_
 refine Z2 (Z1 rfl) (d := 6) (v := (.agg ⟨(([(.int .i64 (c.x.cl)), (.int .i64 (c.x.seq))] : List Value) ++ hc c.x.h ++ ([(.int .i64 (c.x.len)), (.int .i64 (c.x.sb)), (.int .i64 (c.x.sm))] : List Value))⟩)) rfl (ZB (vs := (([(.int .i64 (c.x.cl)), (.int .i64 (c.x.seq))] : List Value) ++ hc c.x.h ++ ([(.int .i64 (c.x.len)), (.int .i64 (c.x.sb)), (.int .i64 (c.x.sm))] : List Value))) rfl (by kernel_rfl) (by kernel_rfl) (by exact Nat.le_of_ble_eq_true (by kernel_rfl)) (H8.at 1 rfl) (by kernel_rfl)) ?_
 refine Z2 (Z1 rfl) (d := 7) (v := (.pointer (some ⟨b6, 0, none⟩))) rfl (by kernel_rfl) ?_
 refine Z2 (Z1 rfl) (d := 8) (v := (.agg ⟨(([(.int .i64 (d.x.cl)), (.int .i64 (d.x.seq))] : List Value) ++ hc d.x.h ++ ([(.int .i64 (d.x.len)), (.int .i64 (d.x.sb)), (.int .i64 (d.x.sm))] : List Value))⟩)) rfl (ZB (vs := (([(.int .i64 (d.x.cl)), (.int .i64 (d.x.seq))] : List Value) ++ hc d.x.h ++ ([(.int .i64 (d.x.len)), (.int .i64 (d.x.sb)), (.int .i64 (d.x.sm))] : List Value))) rfl (by kernel_rfl) (by kernel_rfl) (by exact Nat.le_of_ble_eq_true (by kernel_rfl)) (H8.at 2 rfl) (by kernel_rfl)) ?_
 refine Z2 (Z1 rfl) (d := 9) (v := (.bool (decide (c.x = d.x)))) rfl (coF.e_eq c.x d.x rfl rfl) ?_
 refine Z2 (Z1 rfl) (d := 10) (v := (.bool (decide (c.x = d.x)))) rfl (by kernel_rfl) ?_
 have b9 : (decide (c.x = d.x)) = true := by exact decide_eq_true hx.symm
 refine Z02 10 (.bool true) (congrArg Value.bool b9) ?_
 have g10 := of_decide_eq_true b9
 refine Z2 (Zj 5 10 true rfl (by kernel_rfl) rfl (by kernel_rfl)) (d := 11) (v := (.pointer (some ⟨b2, 37, none⟩))) rfl (by kernel_rfl) ?_
 refine Z2 (Zj 5 10 true rfl (by kernel_rfl) rfl (by kernel_rfl)) (d := 12) (v := (.slice c.sa c.S.length c.sc)) rfl (Zi rfl (by kernel_rfl) (H8.cell 1 rfl (by kernel_rfl))) ?_
 refine Z2 (Zj 5 10 true rfl (by kernel_rfl) rfl (by kernel_rfl)) (d := 13) (v := (.pointer (some ⟨b6, 37, none⟩))) rfl (by kernel_rfl) ?_
 refine Z2 (Zj 5 10 true rfl (by kernel_rfl) rfl (by kernel_rfl)) (d := 14) (v := (.slice d.sa d.S.length d.sc)) rfl (Zi rfl (by kernel_rfl) (H8.cell 2 rfl (by kernel_rfl))) ?_
 refine ZA (Zj 5 10 true rfl (by kernel_rfl) rfl (by kernel_rfl)) (fun K11 hK11 => ?_)
 refine Zv (d := 15) rfl (by kernel_rfl) (Z6m w7 c.sa c.sc c.S (ListAt.now H8 0 rfl hc_) d.sa d.sc d.S (ListAt.now H8 0 rfl hd_) hS) ?_
 rintro _ w12 ⟨rfl, u14⟩
 have H13 := H8.keepU u14
 refine ⟨_, rfl, ?_⟩
 refine hK11 _ _ ?_
 clear hK11 K11
 refine Z2 (Z1 rfl) (d := 16) (v := (.bool true)) rfl (by kernel_rfl) ?_
 refine Z2 (Z1 rfl) (d := 4) (v := (.bool true)) rfl (by kernel_rfl) ?_
 refine Zm ?_
 refine Z4 ?_
 refine ZY ?_
 refine Z0O rfl (ZF (v := (.bool true)) rfl) ?_
 exact ⟨rfl, H13.upd 0 rfl [] (fun _ h => h.elim)⟩
theorem Z3N (w : World) (F Cn rp : Int) (hF : -1099511627776 ≤ F ∧ F ≤ 1099511627776) (hok : (Z1P F Cn && inB F rp) = true) :
  Calls Tryz.prog 22 #[.agg ⟨[.int .i64 F, .int .i64 Cn]⟩, .int .i64 rp] w fun e w' => ∃ t tm, e = .returned (.tuple #[.pointer (some ⟨t, 0, none⟩), .int .i64 0]) ∧ (ZH [Z3 t 121 [.int .i64 F, .int .i64 Cn, .int .i64 rp, .map (some tm)], ZC tm nmV ceV []]).ok w' ∧ Upd [] w w' ∧ ∀ b, (ZH [Z3 t 121 [.int .i64 F, .int .i64 Cn, .int .i64 rp, .map (some tm)], ZC tm nmV ceV []]).fp b → w.heap.size ≤ b :=
 (Z7k w F Cn rp hF).mono fun e w' q => by
  rcases q with ⟨_, h2, _⟩ | ⟨t, tm, he, _, hT⟩
  ·rw [hok] at h2; cases h2
  ·exact ⟨t, tm, he, hT.fin [0, 1] (by decide) rfl, hT.upd 2 rfl [] (fun _ h => h.elim), hT.freshS 2 rfl (fun _ h => h) [0, 1] rfl rfl⟩
theorem Z5N (w : World) :
  Calls Tryz.prog 21 #[] w fun e w' => e = .returned (.bool true) ∧ Upd [] w w' := by
 have H := Sat.start0 w
 refine ZE Tryz.func21 rfl 47 rfl (Nat.le_of_ble_eq_true rfl) ?_
 refine Zc ?_
 refine Zp ?_
 refine Z2 (Z1 rfl) (d := 0) (v := (.bool false)) rfl (by kernel_rfl) ?_
 refine Zm ?_
 refine Z4 ?_
 refine Zc ?_
 refine Zp ?_
 refine Z2 (Z1 rfl) (d := 7) (v := (.agg ⟨([(.int .i64 (1)), (.int .i64 (1))] : List Value)⟩)) rfl (by kernel_rfl) ?_
 refine ZA (Z1 rfl) (fun K1 hK1 => ?_)
 refine Zv (d := 8) rfl (by kernel_rfl) (Z3N w 1 1 0 (by omega) (by decide)) ?_
 rintro _ w2 ⟨t3, m4, rfl, k5, u6, q7⟩
 have H8 : Sat w [Z6 w (fun _ => False), ZH [Z3 t3 121 [.int .i64 1, .int .i64 1, .int .i64 0, .map (some m4)], ZC m4 nmV ceV []]] w2 := H.addU u6 k5 q7
 have H9 : Sat w [Z6 w (fun _ => False), Z3 t3 121 ([(.int .i64 (1)), (.int .i64 (1)), (.int .i64 (0)), (.map (some m4))] : List Value), ZC m4 nmV ceV []] w2 := H8.open 1 rfl
 refine ⟨_, rfl, ?_⟩
 refine hK1 _ _ ?_
 clear hK1 K1
 refine Z2 (Z1 rfl) (d := 6) (v := (.tuple #[(.pointer (some ⟨t3, 0, none⟩)), (.int .i64 (0))])) rfl (by kernel_rfl) ?_
 refine Z2 (Z1 rfl) (d := 9) (v := (.pointer (some ⟨t3, 0, none⟩))) rfl (by kernel_rfl) ?_
 refine Z2 (Z1 rfl) (d := 10) (v := (.int .i64 (0))) rfl (by kernel_rfl) ?_
 refine Z2 (Z1 rfl) (d := 1) (v := (.pointer (some ⟨t3, 0, none⟩))) rfl (by kernel_rfl) ?_
 refine Z2 (Z1 rfl) (d := 2) (v := (.int .i64 (0))) rfl (by kernel_rfl) ?_
 refine Zm ?_
 refine Z4 ?_
 refine Zc ?_
 refine Zp ?_
 refine ZA (Z1 rfl) (fun K10 hK10 => ?_)
 refine Zv (d := 11) rfl (by kernel_rfl) (Z5X w2) ?_
 rintro _ w11 ⟨b12, m13, rfl, k14, p15, q16⟩
 have H17 : Sat w [Z6 w (fun _ => False), Z3 t3 121 ([(.int .i64 (1)), (.int .i64 (1)), (.int .i64 (0)), (.map (some m4))] : List Value), ZC m4 nmV ceV [], ZH [Z3 b12 110 [.map (some m13)], ZC m13 Za (Value.int .i64) (Zq [])]] w11 := H9.addU p15 k14 q16
 have H18 : Sat w [Z6 w (fun _ => False), Z3 t3 121 ([(.int .i64 (1)), (.int .i64 (1)), (.int .i64 (0)), (.map (some m4))] : List Value), ZC m4 nmV ceV [], Z3 b12 110 ([(.map (some m13))] : List Value), ZC m13 Za (Value.int .i64) (Zq [])] w11 := H17.open 3 rfl
 refine ⟨_, rfl, ?_⟩
 refine hK10 _ _ ?_
 clear hK10 K10
 refine Z2 (Z1 rfl) (d := 3) (v := (.pointer (some ⟨b12, 0, none⟩))) rfl (by kernel_rfl) ?_
 refine Zm ?_
 refine Z4 ?_
 refine Zc ?_
 refine Zc ?_
 refine Zp ?_
 refine Z2 (Z1 rfl) (d := 12) (v := (.int .i64 (0))) rfl (by kernel_rfl) ?_
 refine Z2 (Z1 rfl) (d := 13) (v := (.bool false)) rfl (by kernel_rfl) ?_
 refine Z2 (Z1 rfl) (d := 14) (v := (.bool false)) rfl (by kernel_rfl) ?_
 refine Z2 (Zj 2 14 false rfl (by kernel_rfl) rfl (by kernel_rfl)) (d := 15) (v := (.pointer (some ⟨t3, 0, none⟩))) rfl (by kernel_rfl) ?_
 refine Z2 (Zj 2 14 false rfl (by kernel_rfl) rfl (by kernel_rfl)) (d := 16) (v := (.bool false)) rfl (by kernel_rfl) ?_
 refine Z2 (Z1 rfl) (d := 17) (v := (.bool false)) rfl (by kernel_rfl) ?_
 refine Z2 (Z1 rfl) (d := 18) (v := (.bool false)) rfl (by kernel_rfl) ?_
 refine Z2 (Zj 6 18 false rfl (by kernel_rfl) rfl (by kernel_rfl)) (d := 19) (v := (.pointer (some ⟨b12, 0, none⟩))) rfl (by kernel_rfl) ?_
 refine Z2 (Zj 6 18 false rfl (by kernel_rfl) rfl (by kernel_rfl)) (d := 20) (v := (.bool false)) rfl (by kernel_rfl) ?_
 refine Z2 (Z1 rfl) (d := 21) (v := (.bool false)) rfl (by kernel_rfl) ?_
 refine Zm ?_
 refine Z4 ?_
 refine Z09 rfl ?_
 refine Z0b ?_
 refine Z4 ?_
 refine Zc ?_
 have H19 := H18.bag0
 refine Zp ?_
 refine Z2 (Z1 rfl) (d := 23) (v := (.pointer (some ⟨t3, 0, none⟩))) rfl (by kernel_rfl) ?_
 refine Z2 (Z1 rfl) (d := 24) (v := (.pointer (some ⟨b12, 0, none⟩))) rfl (by kernel_rfl) ?_
 refine ZA (Z1 rfl) (fun K20 hK20 => ?_)
 refine Zv (d := 25) rfl (by kernel_rfl) (Z1o w11 t3 m4 1 1 0 ([]) [] b12 m13 ([]) (H19.fin [1, 2, 5, 3, 4] (by decide) rfl) (fun q hq => absurd hq List.not_mem_nil) (Nat.zero_le _) (by omega) List.nodup_nil (Nat.zero_le _) 0 0 5 (by omega) (by omega)) ?_
 rintro _ wp21 ⟨ca21, cc21, HL21, Bh21, ss21, rfl, hs21, hsp21, hco21, hcD21, hT21⟩
 have H22 : Sat w [Z6 w (fun _ => False), Z3 t3 121 ([(.int .i64 (1)), (.int .i64 (1)), (.int .i64 (0)), (.map (some m4))] : List Value), ZC m4 nmV ceV [], Z3 b12 110 ([(.map (some m13))] : List Value), ZC m13 Za (Value.int .i64) (Zq (Zg ([]) (⟨0, Zy (⟨0, 0, 5, ca21, cc21, 0, 0, (Zf HL21 0 5)⟩ : PrR)⟩ : Signed))), ZI [], Zb 53 38 (.slice ca21 ((Zf HL21 0 5).length) cc21) ((Zf HL21 0 5).length) ((Zf HL21 0 5).flatMap ZK), ZI Bh21] wp21 := (Sat.turnL (L' := [Z3 t3 121 ([(.int .i64 (1)), (.int .i64 (1)), (.int .i64 (0)), (.map (some m4))] : List Value), ZC m4 nmV ceV [], ZI [], Z3 b12 110 ([(.map (some m13))] : List Value), ZC m13 Za (Value.int .i64) (Zq (Zg ([]) (⟨0, Zy (⟨0, 0, 5, ca21, cc21, 0, 0, (Zf HL21 0 5)⟩ : PrR)⟩ : Signed))), Zb 53 38 (.slice ca21 ((Zf HL21 0 5).length) cc21) ((Zf HL21 0 5).length) ((Zf HL21 0 5).flatMap ZK), ZI Bh21]) (R := [Z6 w (fun _ => False)]) H19 [1, 2, 5, 3, 4] [0] (by decide) (by kernel_rfl) rfl hT21).pick [7, 0, 1, 3, 4, 2, 5, 6] (by decide)
 refine ⟨_, rfl, ?_⟩
 have hl0 : HL21.length = 0 := by have q1 := Z2A hco21; have q2 := hs21.length_eq; rw [List.length_map] at q2; rw [q1, q2]; rfl
 have hl1 : (Zf HL21 0 5).length = 0 := by have q := Z2S (L := HL21) (last := 0) (tm := 5); omega
 have hm1 : Zt (Zg ([]) (⟨0, Zy (⟨0, 0, 5, ca21, cc21, 0, 0, (Zf HL21 0 5)⟩ : PrR)⟩ : Signed)) (⟨0, Zy (⟨0, 0, 5, ca21, cc21, 0, 0, (Zf HL21 0 5)⟩ : PrR)⟩ : Signed) = 1 := by simp [Zt, Zg]
 refine hK20 _ _ ?_
 clear hK20 K20
 refine Z2 (Z1 rfl) (d := 22) (v := (.tuple #[(.agg ⟨([(.int .i64 (0)), (.int .i64 (0)), (.int .u64 (5)), (.slice ca21 ((Zf HL21 0 5).length) cc21), (.int .i64 (0)), (.int .i64 (Zt (Zg ([]) (⟨0, Zy (⟨0, 0, 5, ca21, cc21, 0, 0, (Zf HL21 0 5)⟩ : PrR)⟩ : Signed)) (⟨0, Zy (⟨0, 0, 5, ca21, cc21, 0, 0, (Zf HL21 0 5)⟩ : PrR)⟩ : Signed)))] : List Value)⟩), (.int .i64 (0))])) rfl (by kernel_rfl) ?_
 refine Z2 (Z1 rfl) (d := 26) (v := (.agg ⟨([(.int .i64 (0)), (.int .i64 (0)), (.int .u64 (5)), (.slice ca21 ((Zf HL21 0 5).length) cc21), (.int .i64 (0)), (.int .i64 (Zt (Zg ([]) (⟨0, Zy (⟨0, 0, 5, ca21, cc21, 0, 0, (Zf HL21 0 5)⟩ : PrR)⟩ : Signed)) (⟨0, Zy (⟨0, 0, 5, ca21, cc21, 0, 0, (Zf HL21 0 5)⟩ : PrR)⟩ : Signed)))] : List Value)⟩)) rfl (by kernel_rfl) ?_
 refine Z2 (Z1 rfl) (d := 27) (v := (.int .i64 (0))) rfl (by kernel_rfl) ?_
 refine ZA (Z1 rfl) (fun K23 hK23 => ?_)
 refine Z0e (zs := ([(.int .i64 (0)), (.int .i64 (0)), (.int .u64 (0)), (.slice none 0 0), (.int .i64 (0)), (.int .i64 (0))] : List Value)) (z := (.agg ⟨([(.int .i64 (0)), (.int .i64 (0)), (.int .u64 (0)), (.slice none 0 0), (.int .i64 (0)), (.int .i64 (0))] : List Value)⟩)) rfl H22 (by kernel_rfl) (by kernel_rfl) ?_
 intro b24 w25 (H26 : Sat w [Z6 w (fun _ => False), Z3 t3 121 ([(.int .i64 (1)), (.int .i64 (1)), (.int .i64 (0)), (.map (some m4))] : List Value), ZC m4 nmV ceV [], Z3 b12 110 ([(.map (some m13))] : List Value), ZC m13 Za (Value.int .i64) (Zq (Zg ([]) (⟨0, Zy (⟨0, 0, 5, ca21, cc21, 0, 0, (Zf HL21 0 5)⟩ : PrR)⟩ : Signed))), ZI [], Zb 53 38 (.slice ca21 ((Zf HL21 0 5).length) cc21) ((Zf HL21 0 5).length) ((Zf HL21 0 5).flatMap ZK), ZI Bh21, Z3 b24 34 ([(.int .i64 (0)), (.int .i64 (0)), (.int .u64 (0)), (.slice none 0 0), (.int .i64 (0)), (.int .i64 (0))] : List Value)] w25)
 refine hK23 _ _ ?_
 clear hK23 K23
 refine ZA (Z1 rfl) (fun K27 hK27 => ?_)
 refine ZU (vs := ([(.int .i64 (0)), (.int .i64 (0)), (.int .u64 (5)), (.slice ca21 ((Zf HL21 0 5).length) cc21), (.int .i64 (0)), (.int .i64 (Zt (Zg ([]) (⟨0, Zy (⟨0, 0, 5, ca21, cc21, 0, 0, (Zf HL21 0 5)⟩ : PrR)⟩ : Signed)) (⟨0, Zy (⟨0, 0, 5, ca21, cc21, 0, 0, (Zf HL21 0 5)⟩ : PrR)⟩ : Signed)))] : List Value)) (cs' := ([(.int .i64 (0)), (.int .i64 (0)), (.int .u64 (5)), (.slice ca21 ((Zf HL21 0 5).length) cc21), (.int .i64 (0)), (.int .i64 (Zt (Zg ([]) (⟨0, Zy (⟨0, 0, 5, ca21, cc21, 0, 0, (Zf HL21 0 5)⟩ : PrR)⟩ : Signed)) (⟨0, Zy (⟨0, 0, 5, ca21, cc21, 0, 0, (Zf HL21 0 5)⟩ : PrR)⟩ : Signed)))] : List Value)) rfl H26 8 rfl rfl rfl rfl (by kernel_rfl) (Nat.le_of_ble_eq_true (by kernel_rfl)) (Nat.le_of_ble_eq_true (by kernel_rfl)) (by kernel_rfl) (by kernel_rfl) ?_
 intro w28 (H29 : Sat w [Z6 w (fun _ => False), Z3 t3 121 ([(.int .i64 (1)), (.int .i64 (1)), (.int .i64 (0)), (.map (some m4))] : List Value), ZC m4 nmV ceV [], Z3 b12 110 ([(.map (some m13))] : List Value), ZC m13 Za (Value.int .i64) (Zq (Zg ([]) (⟨0, Zy (⟨0, 0, 5, ca21, cc21, 0, 0, (Zf HL21 0 5)⟩ : PrR)⟩ : Signed))), ZI [], Zb 53 38 (.slice ca21 ((Zf HL21 0 5).length) cc21) ((Zf HL21 0 5).length) ((Zf HL21 0 5).flatMap ZK), ZI Bh21, Z3 b24 34 ([(.int .i64 (0)), (.int .i64 (0)), (.int .u64 (5)), (.slice ca21 ((Zf HL21 0 5).length) cc21), (.int .i64 (0)), (.int .i64 (Zt (Zg ([]) (⟨0, Zy (⟨0, 0, 5, ca21, cc21, 0, 0, (Zf HL21 0 5)⟩ : PrR)⟩ : Signed)) (⟨0, Zy (⟨0, 0, 5, ca21, cc21, 0, 0, (Zf HL21 0 5)⟩ : PrR)⟩ : Signed)))] : List Value)] w28)
 refine hK27 _ _ ?_
 clear hK27 K27
 refine Z2 (Z1 rfl) (d := 5) (v := (.int .i64 (0))) rfl (by kernel_rfl) ?_
 refine Zm ?_
 refine Z4 ?_
 refine Zc ?_
 refine Zp ?_
 refine Z2 (Z1 rfl) (d := 28) (v := (.int .i64 (0))) rfl (by kernel_rfl) ?_
 refine Z2 (Z1 rfl) (d := 29) (v := (.bool true)) rfl (by kernel_rfl) ?_
 refine Z2 (Z1 rfl) (d := 30) (v := (.bool true)) rfl (by kernel_rfl) ?_
 refine Z2 (Zj 2 30 true rfl (by kernel_rfl) rfl (by kernel_rfl)) (d := 31) (v := (.pointer (some ⟨b24, 3, none⟩))) rfl (by kernel_rfl) ?_
 refine Z2 (Zj 2 30 true rfl (by kernel_rfl) rfl (by kernel_rfl)) (d := 32) (v := (.slice ca21 ((Zf HL21 0 5).length) cc21)) rfl (Zi rfl (by kernel_rfl) (H29.cell 8 rfl rfl)) ?_
 refine Z2 (Zj 2 30 true rfl (by kernel_rfl) rfl (by kernel_rfl)) (d := 33) (v := (.int .i64 (((Zf HL21 0 5).length : Int)))) rfl (by kernel_rfl) ?_
 refine Z2 (Zj 2 30 true rfl (by kernel_rfl) rfl (by kernel_rfl)) (d := 34) (v := (.bool (decide (((Zf HL21 0 5).length : Int) = 0)))) rfl (by kernel_rfl) ?_
 refine Z2 (Z1 rfl) (d := 35) (v := (.bool (decide (((Zf HL21 0 5).length : Int) = 0)))) rfl (by kernel_rfl) ?_
 refine Z2 (Z1 rfl) (d := 36) (v := (.bool (decide (((Zf HL21 0 5).length : Int) = 0)))) rfl (by kernel_rfl) ?_
 have b31 : (decide (((Zf HL21 0 5).length : Int) = 0)) = true := by exact decide_eq_true (by omega)
 refine Z02 36 (.bool true) (congrArg Value.bool b31) ?_
 have g32 := of_decide_eq_true b31
 refine Z2 (Zj 8 36 true rfl (by kernel_rfl) rfl (by kernel_rfl)) (d := 37) (v := (.pointer (some ⟨b24, 2, none⟩))) rfl (by kernel_rfl) ?_
 refine Z2 (Zj 8 36 true rfl (by kernel_rfl) rfl (by kernel_rfl)) (d := 38) (v := (.int .u64 (5))) rfl (Zi rfl (by kernel_rfl) (H29.cell 8 rfl rfl)) ?_
 refine Z2 (Zj 8 36 true rfl (by kernel_rfl) rfl (by kernel_rfl)) (d := 39) (v := (.bool true)) rfl (by kernel_rfl) ?_
 refine Z2 (Z1 rfl) (d := 40) (v := (.bool true)) rfl (by kernel_rfl) ?_
 refine Z2 (Z1 rfl) (d := 41) (v := (.bool true)) rfl (by kernel_rfl) ?_
 refine Z2 (Zj 13 41 true rfl (by kernel_rfl) rfl (by kernel_rfl)) (d := 42) (v := (.pointer (some ⟨b24, 4, none⟩))) rfl (by kernel_rfl) ?_
 refine Z2 (Zj 13 41 true rfl (by kernel_rfl) rfl (by kernel_rfl)) (d := 43) (v := (.pointer (some ⟨b24, 5, none⟩))) rfl (by kernel_rfl) ?_
 refine Z2 (Zj 13 41 true rfl (by kernel_rfl) rfl (by kernel_rfl)) (d := 44) (v := (.int .i64 (Zt (Zg ([]) (⟨0, Zy (⟨0, 0, 5, ca21, cc21, 0, 0, (Zf HL21 0 5)⟩ : PrR)⟩ : Signed)) (⟨0, Zy (⟨0, 0, 5, ca21, cc21, 0, 0, (Zf HL21 0 5)⟩ : PrR)⟩ : Signed)))) rfl (Zi rfl (by kernel_rfl) (H29.cell 8 rfl rfl)) ?_
 refine Z2 (Zj 13 41 true rfl (by kernel_rfl) rfl (by kernel_rfl)) (d := 45) (v := (.bool (decide ((Zt (Zg ([]) (⟨0, Zy (⟨0, 0, 5, ca21, cc21, 0, 0, (Zf HL21 0 5)⟩ : PrR)⟩ : Signed)) (⟨0, Zy (⟨0, 0, 5, ca21, cc21, 0, 0, (Zf HL21 0 5)⟩ : PrR)⟩ : Signed)) = 1)))) rfl (by kernel_rfl) ?_
 refine Z2 (Z1 rfl) (d := 46) (v := (.bool (decide ((Zt (Zg ([]) (⟨0, Zy (⟨0, 0, 5, ca21, cc21, 0, 0, (Zf HL21 0 5)⟩ : PrR)⟩ : Signed)) (⟨0, Zy (⟨0, 0, 5, ca21, cc21, 0, 0, (Zf HL21 0 5)⟩ : PrR)⟩ : Signed)) = 1)))) rfl (by kernel_rfl) ?_
 refine Z2 (Z1 rfl) (d := 0) (v := (.bool (decide ((Zt (Zg ([]) (⟨0, Zy (⟨0, 0, 5, ca21, cc21, 0, 0, (Zf HL21 0 5)⟩ : PrR)⟩ : Signed)) (⟨0, Zy (⟨0, 0, 5, ca21, cc21, 0, 0, (Zf HL21 0 5)⟩ : PrR)⟩ : Signed)) = 1)))) rfl (by kernel_rfl) ?_
 refine Zm ?_
 refine Z4 ?_
 refine ZY ?_
 refine Z0O rfl (ZF (v := (.bool (decide ((Zt (Zg ([]) (⟨0, Zy (⟨0, 0, 5, ca21, cc21, 0, 0, (Zf HL21 0 5)⟩ : PrR)⟩ : Signed)) (⟨0, Zy (⟨0, 0, 5, ca21, cc21, 0, 0, (Zf HL21 0 5)⟩ : PrR)⟩ : Signed)) = 1)))) rfl) ?_
 exact ⟨by rw [decide_eq_true hm1], H29.upd 0 rfl [] (fun _ h => h.elim)⟩
section
variable {B B' : List Ck} {M M' : List (NmD × CeR)} {x c : CeR} {R : Prop} {ss ss1 ss2 : List NmD} {D D1 D2 L1 L2 L3 : List CeR} {i j : Nat} {n m : NmD}
structure TabOk (B : List Ck) (M : List (NmD × CeR)) : Prop where
 T : ∀ q ∈ M, CeT B q.2
 K : ∀ q ∈ M, q.1 = nmX q.2
 N : (M.map (·.1)).Nodup
theorem TabOk.nil : TabOk [] [] := ⟨fun _ hq => absurd hq List.not_mem_nil, fun _ hq => absurd hq List.not_mem_nil, List.nodup_nil⟩
theorem TabOk.more (h : TabOk B M) (A : Ck) : TabOk (A :: B) M := ⟨fun q hq => (h.T q hq).more A, h.K, h.N⟩
theorem Z3z (hn : (Z7 M n).isSome = false) : n ∉ M.map (·.1) := Z36.1 (by cases e : Z7 M n with | none => rfl | some v => rw [e] at hn; cases hn)
theorem Z47 (hn : (Z7 M n).isSome = false) : Z21 M n c = M ++ [(n, c)] := by unfold Z21; rw [if_neg (Z3z hn)]
theorem TabOk.put (h : TabOk B M) (hn : (Z7 M (nmX x)).isSome = false) (hx : CeT B x) (sa : Option Addr) (sc : Nat) : TabOk (stC ⟨x.x, sa, sc, x.S⟩ :: B) (Z21 M (nmX x) ⟨x.x, sa, sc, x.S⟩) := by
 rw [Z47 hn]
 refine ⟨fun q hq => ?_, fun q hq => ?_, ?_⟩
 ·rcases List.mem_append.1 hq with hq | hq
  ·exact (h.T q hq).more _
  ·rw [List.mem_singleton.1 hq]; exact ⟨hx.x, hx.S, hx.len, List.mem_cons_self⟩
 ·rcases List.mem_append.1 hq with hq | hq
  ·exact h.K q hq
  ·rw [List.mem_singleton.1 hq]; rfl
 ·rw [List.map_append, List.nodup_append]
  refine ⟨h.N, by simp, fun a ha b hb e => ?_⟩
  simp only [List.map_cons, List.map_nil, List.mem_singleton] at hb
  exact Z3z hn (by rw [← hb, ← e]; exact ha)
theorem TabOk.took {E : Prop} (h : TabOk B M) (hx : CeT B x) (hd : (M' = M ∧ B' = B ∧ E) ∨ (R ∧ (Z7 M (nmX x)).isSome = false ∧ ∃ (sa : Option Addr) (sc : Nat), M' = Z21 M (nmX x) ⟨x.x, sa, sc, x.S⟩ ∧ B' = stC ⟨x.x, sa, sc, x.S⟩ :: B)) : TabOk B' M' ∧ M'.length ≤ M.length + 1 := by
 rcases hd with ⟨rfl, rfl, _⟩ | ⟨_, hn, sa, sc, rfl, rfl⟩
 ·exact ⟨h, by omega⟩
 ·exact ⟨h.put hn hx sa sc, by rw [Z47 hn]; simp⟩
theorem Z5j (hM : TabOk B M) (hs : ss.Perm (M.map (·.1))) (h : HvC M ss D) (hc : D[i]? = some c) : ss[i]? = some (nmX c) ∧ (Z7 M (nmX c)).isSome = true ∧ Z4G ((Z7 M (nmX c)).getD ce0) = Z4G c := by
 have e := congrArg (fun l => l[i]?) h
 simp only [List.getElem?_map, hc, Option.map_some] at e
 obtain ⟨n, hn, en⟩ : ∃ n, ss[i]? = some n ∧ Z4G ((Z7 M n).getD ce0) = Z4G c := by
  cases q : ss[i]? with
  | none => rw [q] at e; cases e
  | some n => rw [q] at e; exact ⟨n, rfl, (Option.some.inj e).symm⟩
 have hk : n ∈ M.map (·.1) := hs.subset (List.mem_of_getElem? hn)
 obtain ⟨v, hv⟩ : ∃ v, Z7 M n = some v := by
  cases q : Z7 M n with
  | none => exact absurd hk (Z36.1 q)
  | some v => exact ⟨v, rfl⟩
 have hnx : n = nmX v := hM.K _ (Z3M hv)
 rw [hv, Option.getD_some] at en
 have hcn : nmX c = n := by
  rw [hnx]
  unfold Z4G at en
  unfold nmX
  rw [(Prod.mk.inj en).1]
 rw [hcn]
 exact ⟨hn, by rw [hv]; rfl, by rw [hv]; exact en⟩
theorem rising (hn : ss.Nodup) (hs : ss.Pairwise fun a b => ¬ Z52 b a) (hi : ss[i]? = some n) (hj : ss[j]? = some m) (hij : i < j) : Z52 n m := by
 obtain ⟨hi', e1⟩ := List.getElem?_eq_some_iff.1 hi
 obtain ⟨hj', e2⟩ := List.getElem?_eq_some_iff.1 hj
 have h1 := List.pairwise_iff_getElem.1 hs i j hi' hj' hij
 have h2 := List.pairwise_iff_getElem.1 hn i j hi' hj' hij
 rw [e1, e2] at h1 h2
 unfold Z52 at *
 obtain ⟨nc, ns⟩ := n
 obtain ⟨mc, ms⟩ := m
 simp only [NmD.mk.injEq, ne_eq] at h2
 simp only at *
 omega
theorem Z5Q (h1 : HvC M ss1 D1) (h2 : HvC M ss2 D2) (hp : ss1.Perm ss2) : (D1.map Z4G).Perm (D2.map Z4G) := by
 rw [h1, h2]; exact hp.map _
theorem Z34 (L : List CeR) (a b : Int) : (Zf L a b).length = (L.map Z4G).countP fun p => decide (ZO p.2 > a) && decide (ZO p.2 ≤ b) := by
 unfold Zf; rw [← List.countP_eq_length_filter, List.countP_map]; rfl
theorem Z8c {a b c : Int} (h1 : (L1.map Z4G).Perm (L3.map Z4G)) (h2 : (L2.map Z4G).Perm (L3.map Z4G)) (hab : a ≤ b) (hbc : b ≤ c) : (Zf L3 a c).length = (Zf L1 a b).length + (Zf L2 b c).length := by
 rw [Z34, Z34, Z34, h1.countP_eq, h2.countP_eq]
 induction L3.map Z4G with
 | nil => rfl
 | cons p l ih =>
  simp only [List.countP_cons, ih]
  by_cases q1 : ZO p.2 > a <;> by_cases q2 : ZO p.2 ≤ b <;> by_cases q3 : ZO p.2 ≤ c <;> by_cases q4 : ZO p.2 > b <;> simp only [q1, q2, q3, q4, decide_true, decide_false, Bool.and_true, Bool.and_false, if_true, if_false, Bool.false_eq_true] <;> omega
theorem Z4s {a b : Int} {L : List CeR} (h : c ∈ Zf L a b) : a < ZO c.S ∧ ZO c.S ≤ b := by
 unfold Zf at h
 have q := (List.mem_filter.1 h).2
 simp only [Bool.and_eq_true, decide_eq_true_eq] at q
 omega
end
end Go.Proofs.YtoaifondpohniaaGreat
