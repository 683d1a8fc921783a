/- WHAT IS PROVED: contracts and plain laws of BatA, ClA. Conditions: stated with each. -/
import Derived.Test.YtgigjkjdmalmaaaGreatPY05
import Derived.Test.YtgigjkjdmalmaaaGreatPY06
import Derived.Test.YtgigjkjdmalmaaaGreatPY10
import Derived.Test.YtgigjkjdmalmaaaGreatPY14
set_option maxHeartbeats 4000000
set_option maxRecDepth 100000
namespace Go.Proofs.YtgigjkjdmalmaaaGreat
open Go.RowKit
theorem Z2F (w : World) (v n : Int) (hn : n ≤ 4611686018427387904) :
  Calls Tryz.prog 8 #[(.int .i64 (v)), (.int .i64 (n))] w fun e w' => e = .returned (.int .i64 (Z04 v n)) ∧ Upd [] w w' := by
 have H := Sat.start0 w
 refine Zg Tryz.func8 rfl 17 rfl (Nat.le_of_ble_eq_true rfl) ?_
 refine Zf ?_
 refine Zt ?_
 refine Z6 (Z5 rfl) (d := 4) (v := (.int .i64 (0))) rfl (by kernel_rfl) ?_
 refine Zu ?_
 refine Zb ?_
 refine Zf ?_
 refine Zf ?_
 refine Zt ?_
 refine Z6 (Z5 rfl) (d := 6) (v := (.int .i64 (n))) rfl (by kernel_rfl) ?_
 refine Z6 (Z5 rfl) (d := 7) (v := (.bool (decide (n < 1)))) rfl (by kernel_rfl) ?_
 refine Zu ?_
 refine Zb ?_
 refine (ZC (decide (n < 1))).elim (fun b1 => ?_) (fun b1 => ?_)
 ·have g2 := of_decide_eq_true b1
  refine Zo 7 (.bool true) (congrArg Value.bool b1) ?_
  refine Z0R rfl ?_
  refine Zf ?_
  refine Zt ?_
  refine Z6 (Z5 rfl) (d := 4) (v := (.int .i64 (0))) rfl (by kernel_rfl) ?_
  refine Zu ?_
  refine Zb ?_
  refine Zz ?_
  refine ZY ?_
  refine Z1x rfl (Z0c (v := (.int .i64 (0))) rfl) ?_
  exact ⟨by unfold Z04; rw [if_pos (of_decide_eq_true b1)], H.upd 0 rfl [] (fun _ h => h.elim)⟩
 ·have g3 := of_decide_eq_false b1
  refine Zo 7 (.bool false) (congrArg Value.bool b1) ?_
  refine Z0y rfl ?_
  refine ZF ?_
  refine Zb ?_
  refine Zf ?_
  refine Zt ?_
  refine Z6 (Z5 rfl) (d := 8) (v := (.int .i64 (v))) rfl (by kernel_rfl) ?_
  refine Z6 (Z5 rfl) (d := 9) (v := (.int .i64 (n))) rfl (by kernel_rfl) ?_
  refine Z6 (Z5 rfl) (d := 10) (v := (.int .i64 (Int.tmod v n))) rfl (e_tmod (by kernel_rfl) (by omega)) ?_
  refine Z6 (Z5 rfl) (d := 5) (v := (.int .i64 (Int.tmod v n))) rfl (by kernel_rfl) ?_
  refine Zu ?_
  refine Zb ?_
  refine Zf ?_
  refine Zf ?_
  refine Zt ?_
  refine Z6 (Z5 rfl) (d := 11) (v := (.int .i64 (Int.tmod v n))) rfl (by kernel_rfl) ?_
  refine Z6 (Z5 rfl) (d := 12) (v := (.bool (decide ((Int.tmod v n) < 0)))) rfl (by kernel_rfl) ?_
  refine Zu ?_
  refine Zb ?_
  refine (ZC (decide ((Int.tmod v n) < 0))).elim (fun b4 => ?_) (fun b4 => ?_)
  ·have g5 := of_decide_eq_true b4
   refine Zo 12 (.bool true) (congrArg Value.bool b4) ?_
   refine Z0R rfl ?_
   refine Zt ?_
   refine Z6 (Z5 rfl) (d := 13) (v := (.int .i64 (Int.tmod v n))) rfl (by kernel_rfl) ?_
   refine Z6 (Z5 rfl) (d := 14) (v := (.int .i64 (n))) rfl (by kernel_rfl) ?_
   refine Z6 (Z5 rfl) (d := 15) (v := (.int .i64 ((Int.tmod v n) + n))) rfl (Z0I (z := (Int.tmod v n) + n) (by kernel_rfl) (IntWalk.i64_in _ (by have := Z8e v n (by omega); omega))) ?_
   refine Z6 (Z5 rfl) (d := 5) (v := (.int .i64 ((Int.tmod v n) + n))) rfl (by kernel_rfl) ?_
   refine Zu ?_
   refine Zb ?_
   refine Zf ?_
   refine Zt ?_
   refine Z6 (Z5 rfl) (d := 16) (v := (.int .i64 ((Int.tmod v n) + n))) rfl (by kernel_rfl) ?_
   refine Z6 (Z5 rfl) (d := 4) (v := (.int .i64 ((Int.tmod v n) + n))) rfl (by kernel_rfl) ?_
   refine Zu ?_
   refine Zb ?_
   refine Zz ?_
   refine Z1x rfl (Z0c (v := (.int .i64 ((Int.tmod v n) + n))) rfl) ?_
   exact ⟨by unfold Z04; rw [if_neg (of_decide_eq_false b1), Z74 v n (by have := of_decide_eq_false b1; omega), if_pos (of_decide_eq_true b4)], H.upd 0 rfl [] (fun _ h => h.elim)⟩
  ·have g6 := of_decide_eq_false b4
   refine Zo 12 (.bool false) (congrArg Value.bool b4) ?_
   refine Z0y rfl ?_
   refine ZF ?_
   refine Zb ?_
   refine Zf ?_
   refine Zt ?_
   refine Z6 (Z5 rfl) (d := 16) (v := (.int .i64 (Int.tmod v n))) rfl (by kernel_rfl) ?_
   refine Z6 (Z5 rfl) (d := 4) (v := (.int .i64 (Int.tmod v n))) rfl (by kernel_rfl) ?_
   refine Zu ?_
   refine Zb ?_
   refine Zz ?_
   refine Z1x rfl (Z0c (v := (.int .i64 (Int.tmod v n))) rfl) ?_
   exact ⟨by unfold Z04; rw [if_neg (of_decide_eq_false b1), Z74 v n (by have := of_decide_eq_false b1; omega), if_neg (of_decide_eq_false b4)], H.upd 0 rfl [] (fun _ h => h.elim)⟩
theorem ZbI (w : World) (f c : Int) (hf : -1099511627776 ≤ f ∧ f ≤ 1099511627776) :
  Calls Tryz.prog 55 #[(.agg ⟨([(.int .i64 (f)), (.int .i64 (c))] : List Value)⟩)] w fun e w' => e = .returned (.int .i64 (3 * f + 1)) ∧ Upd [] w w' := by
 have H := Sat.start0 w
 refine Zg Tryz.func55 rfl 7 rfl (Nat.le_of_ble_eq_true rfl) ?_
 refine Zf ?_
 refine Zt ?_
 refine Z0B (Z5 rfl) (fun K1 hK1 => ?_)
 refine Z2R (vs := ([(.int .i64 (f)), (.int .i64 (c))] : List Value)) rfl H rfl rfl ?_
 intro b2 w3 (H4 : Sat w [Z7 w (fun _ => False), Z3 b2 27 ([(.int .i64 (f)), (.int .i64 (c))] : List Value)] w3)
 refine hK1 _ _ ?_
 clear hK1 K1
 refine Z6 (Z5 rfl) (d := 2) (v := (.int .i64 (0))) rfl (by kernel_rfl) ?_
 refine Zu ?_
 refine Zb ?_
 refine Zf ?_
 refine Zt ?_
 refine Z6 (Z5 rfl) (d := 3) (v := (.pointer (some ⟨b2, 0, none⟩))) rfl (by kernel_rfl) ?_
 refine Z6 (Z5 rfl) (d := 4) (v := (.int .i64 (f))) rfl (Zi rfl (by kernel_rfl) (H4.cell 1 rfl rfl)) ?_
 refine Z6 (Z5 rfl) (d := 5) (v := (.int .i64 (3 * f))) rfl (Z0I (z := 3 * f) (by kernel_rfl) (IntWalk.i64_in _ (by omega))) ?_
 refine Z6 (Z5 rfl) (d := 6) (v := (.int .i64 ((3 * f) + 1))) rfl (Z0I (z := (3 * f) + 1) (by kernel_rfl) (IntWalk.i64_in _ (by omega))) ?_
 refine Z6 (Z5 rfl) (d := 2) (v := (.int .i64 ((3 * f) + 1))) rfl (by kernel_rfl) ?_
 refine Zu ?_
 refine Zb ?_
 refine Zz ?_
 refine Z1x rfl (Z0c (v := (.int .i64 ((3 * f) + 1))) rfl) ?_
 exact ⟨rfl, H4.upd 0 rfl [] (fun _ h => h.elim)⟩
theorem wQ_any (w : World) (f c : Int) (hf : -1099511627776 ≤ f ∧ f ≤ 1099511627776) :
  Calls Tryz.prog 58 #[(.agg ⟨([(.int .i64 (f)), (.int .i64 (c))] : List Value)⟩)] w fun e w' => e = .returned (.int .i64 (2 * f + 1)) ∧ Upd [] w w' := by
 have H := Sat.start0 w
 refine Zg Tryz.func58 rfl 7 rfl (Nat.le_of_ble_eq_true rfl) ?_
 refine Zf ?_
 refine Zt ?_
 refine Z0B (Z5 rfl) (fun K1 hK1 => ?_)
 refine Z2R (vs := ([(.int .i64 (f)), (.int .i64 (c))] : List Value)) rfl H rfl rfl ?_
 intro b2 w3 (H4 : Sat w [Z7 w (fun _ => False), Z3 b2 27 ([(.int .i64 (f)), (.int .i64 (c))] : List Value)] w3)
 refine hK1 _ _ ?_
 clear hK1 K1
 refine Z6 (Z5 rfl) (d := 2) (v := (.int .i64 (0))) rfl (by kernel_rfl) ?_
 refine Zu ?_
 refine Zb ?_
 refine Zf ?_
 refine Zt ?_
 refine Z6 (Z5 rfl) (d := 3) (v := (.pointer (some ⟨b2, 0, none⟩))) rfl (by kernel_rfl) ?_
 refine Z6 (Z5 rfl) (d := 4) (v := (.int .i64 (f))) rfl (Zi rfl (by kernel_rfl) (H4.cell 1 rfl rfl)) ?_
 refine Z6 (Z5 rfl) (d := 5) (v := (.int .i64 (2 * f))) rfl (Z0I (z := 2 * f) (by kernel_rfl) (IntWalk.i64_in _ (by omega))) ?_
 refine Z6 (Z5 rfl) (d := 6) (v := (.int .i64 ((2 * f) + 1))) rfl (Z0I (z := (2 * f) + 1) (by kernel_rfl) (IntWalk.i64_in _ (by omega))) ?_
 refine Z6 (Z5 rfl) (d := 2) (v := (.int .i64 ((2 * f) + 1))) rfl (by kernel_rfl) ?_
 refine Zu ?_
 refine Zb ?_
 refine Zz ?_
 refine Z1x rfl (Z0c (v := (.int .i64 ((2 * f) + 1))) rfl) ?_
 exact ⟨rfl, H4.upd 0 rfl [] (fun _ h => h.elim)⟩
theorem Z6c (w : World) (f c r : Int) (hf : -1099511627776 ≤ f ∧ f ≤ 1099511627776) :
  Calls Tryz.prog 36 #[(.agg ⟨([(.int .i64 (f)), (.int .i64 (c))] : List Value)⟩), (.int .i64 (r))] w fun e w' => e = .returned (.bool (inB f r)) ∧ Upd [] w w' := by
 have H := Sat.start0 w
 refine Zg Tryz.func36 rfl 13 rfl (Nat.le_of_ble_eq_true rfl) ?_
 refine Zf ?_
 refine Zt ?_
 refine Z0B (Z5 rfl) (fun K1 hK1 => ?_)
 refine Z2R (vs := ([(.int .i64 (f)), (.int .i64 (c))] : List Value)) rfl H rfl rfl ?_
 intro b2 w3 (H4 : Sat w [Z7 w (fun _ => False), Z3 b2 27 ([(.int .i64 (f)), (.int .i64 (c))] : List Value)] w3)
 refine hK1 _ _ ?_
 clear hK1 K1
 refine Z6 (Z5 rfl) (d := 4) (v := (.bool false)) rfl (by kernel_rfl) ?_
 refine Zu ?_
 refine Zb ?_
 refine Z0v [4, 5, 6, 7, 8, 9, 10, 11, 12] (fun G_ W_ => G_ 4 = (.bool (inB f r)) ∧ Sat w [Z7 w (fun _ => False), Z3 b2 27 ([(.int .i64 (f)), (.int .i64 (c))] : List Value)] W_) ?_ ?_
 ·refine Zt ?_
  refine Z6 (Z5 rfl) (d := 5) (v := (.int .i64 (r))) rfl (by kernel_rfl) ?_
  refine Z6 (Z5 rfl) (d := 6) (v := (.bool (decide (r ≥ 0)))) rfl (by kernel_rfl) ?_
  refine Z6 (Z5 rfl) (d := 7) (v := (.bool (decide (r ≥ 0)))) rfl (by kernel_rfl) ?_
  refine (ZC (decide (r ≥ 0))).elim (fun b6 => ?_) (fun b6 => ?_)
  ·have g7 := of_decide_eq_true b6
   refine ZP 7 (.bool true) (congrArg Value.bool b6) ?_
   refine Z6 (Z0k 2 7 true rfl (by kernel_rfl) rfl (by kernel_rfl)) (d := 8) (v := (.int .i64 (r))) rfl (by kernel_rfl) ?_
   refine Z6 (Z0k 2 7 true rfl (by kernel_rfl) rfl (by kernel_rfl)) (d := 9) (v := (.agg ⟨([(.int .i64 (f)), (.int .i64 (c))] : List Value)⟩)) rfl (ZG (vs := ([(.int .i64 (f)), (.int .i64 (c))] : List Value)) rfl (by kernel_rfl) (by kernel_rfl) (by exact Nat.le_of_ble_eq_true (by kernel_rfl)) (H4.at 1 rfl) (by kernel_rfl)) ?_
   refine Z0B (Z0k 2 7 true rfl (by kernel_rfl) rfl (by kernel_rfl)) (fun K8 hK8 => ?_)
   refine Z0L (d := 10) rfl (by kernel_rfl) (ZbI w3 f c (by omega)) ?_
   rintro _ w9 ⟨rfl, u11⟩
   have H10 := H4.keepU u11
   refine ⟨_, rfl, ?_⟩
   refine hK8 _ _ ?_
   clear hK8 K8
   refine Z6 (Z0k 2 7 true rfl (by kernel_rfl) rfl (by kernel_rfl)) (d := 11) (v := (.bool (decide (r < (3 * f + 1))))) rfl (by kernel_rfl) ?_
   refine Z6 (Z5 rfl) (d := 12) (v := (.bool (decide (r < (3 * f + 1))))) rfl (by kernel_rfl) ?_
   refine Z6 (Z5 rfl) (d := 4) (v := (.bool (decide (r < (3 * f + 1))))) rfl (by kernel_rfl) ?_
   refine Zu ?_
   refine ZJ ?_ ⟨(congrArg Value.bool (show (decide (r < (3 * f + 1))) = (inB f r) by simp [inB, b6])), H10⟩
   exact (Za rfl (Za rfl (Za rfl (Za rfl (Za rfl (Za rfl (Za rfl (Za rfl (Za rfl (Za rfl (Z1N)))))))))))
  ·have g12 := of_decide_eq_false b6
   refine ZP 7 (.bool false) (congrArg Value.bool b6) ?_
   refine Z15 (Z0Q 2 7 true rfl (by kernel_rfl) rfl (by kernel_rfl)) rfl ?_
   refine Z15 (Z0Q 2 7 true rfl (by kernel_rfl) rfl (by kernel_rfl)) rfl ?_
   refine Z15 (Z0Q 2 7 true rfl (by kernel_rfl) rfl (by kernel_rfl)) rfl ?_
   refine Z15 (Z0Q 2 7 true rfl (by kernel_rfl) rfl (by kernel_rfl)) rfl ?_
   refine Z6 (Z5 rfl) (d := 12) (v := (.bool false)) rfl (by kernel_rfl) ?_
   refine Z6 (Z5 rfl) (d := 4) (v := (.bool false)) rfl (by kernel_rfl) ?_
   refine Zu ?_
   refine ZJ ?_ ⟨(congrArg Value.bool (show false = (inB f r) by simp [inB, b6])), H4⟩
   exact (Za rfl (Za rfl (Za rfl (Za rfl (Za rfl (Za rfl (Za rfl (Za rfl (Za rfl (Za rfl (Z1N)))))))))))
 ·rintro f13 w14 ⟨v16, H15⟩
  refine Zo 4 _ v16 ?_
  refine Zz ?_
  refine Z1x rfl (Z0c (v := (.bool (inB f r))) rfl) ?_
  exact ⟨rfl, H15.upd 0 rfl [] (fun _ h => h.elim)⟩
theorem Z8a (w : World) :
  Calls Tryz.prog 10 #[] w fun e w' => ∃ b mb, e = .returned (.pointer (some ⟨b, 0, none⟩)) ∧ (ZL [Z3 b 108 [.map (some mb)], ZI mb ZK (Value.int .i64) (ZU [])]).ok w' ∧ Upd [] w w' ∧ ∀ q_, (ZL [Z3 b 108 [.map (some mb)], ZI mb ZK (Value.int .i64) (ZU [])]).fp q_ → w.heap.size ≤ q_ := by
 have H := Sat.start0 w
 refine Zg Tryz.func10 rfl 4 rfl (Nat.le_of_ble_eq_true rfl) ?_
 refine Zf ?_
 refine Zt ?_
 refine Z6 (Z5 rfl) (d := 0) (v := (.pointer none)) rfl (by kernel_rfl) ?_
 refine Zu ?_
 refine Zb ?_
 refine Zf ?_
 refine Zt ?_
 refine Z0B (Z5 rfl) (fun K1 hK1 => ?_)
 refine Z0w ZK (Value.int .i64) rfl H ?_
 intro b2 w3 (H4 : Sat w [Z7 w (fun _ => False), ZI b2 ZK (Value.int .i64) []] w3)
 refine hK1 _ _ ?_
 clear hK1 K1
 refine Z6 (Z5 rfl) (d := 2) (v := (.agg ⟨([(.map (some b2))] : List Value)⟩)) rfl (by kernel_rfl) ?_
 refine Z0B (Z5 rfl) (fun K5 hK5 => ?_)
 refine Z2R (vs := ([(.map (some b2))] : List Value)) rfl H4 rfl rfl ?_
 intro b6 w7 (H8 : Sat w [Z7 w (fun _ => False), ZI b2 ZK (Value.int .i64) [], Z3 b6 108 ([(.map (some b2))] : List Value)] w7)
 refine hK5 _ _ ?_
 clear hK5 K5
 refine Z6 (Z5 rfl) (d := 0) (v := (.pointer (some ⟨b6, 0, none⟩))) rfl (by kernel_rfl) ?_
 refine Zu ?_
 refine Zb ?_
 refine Zz ?_
 refine Z1x rfl (Z0c (v := (.pointer (some ⟨b6, 0, none⟩))) rfl) ?_
 exact ⟨b6, b2, rfl, H8.fin [2, 1] (by decide) rfl, H8.upd 0 rfl [] (fun _ h => h.elim), H8.freshS 0 rfl (fun _ h => h) [2, 1] rfl rfl⟩
abbrev Z51 (p0 : Int) (p1 : Int) : List Value := ([(.int .i64 p0), (.int .i64 p1)] : List Value)
abbrev Zbq (p0 : Int) (p1 : Int) (p2 : Int) (p3 : Nat) : List Value := ([(.int .i64 p0), (.int .i64 p1), (.int .i64 p2), (pt p3 0), (.slice none 0 0)] : List Value)
def Z2I (f c : Int) : Bool := decide (1 ≤ f) && decide (f ≤ 21) && decide (1 ≤ c) && decide (c ≤ 100)
theorem Z7E {g g' n c n' c' : Nat} (h : Value.slice (some ⟨g, 0, none⟩) n c = .slice (some ⟨g', 0, none⟩) n' c') : g = g' := by
 simp only [Value.slice.injEq, Option.some.injEq, Addr.mk.injEq] at h; exact h.1.1
theorem Z8M (w : World) (f c : Int) :
  Calls Tryz.prog 27 #[(.agg ⟨([(.int .i64 (f)), (.int .i64 (c))] : List Value)⟩)] w fun e w' => e = .returned (.bool (Z2I f c)) ∧ Upd [] w w' := by
 have H := Sat.start0 w
 refine Zg Tryz.func27 rfl 21 rfl (Nat.le_of_ble_eq_true rfl) ?_
 apply zsl
 refine zwd fun Kq kq => ?_
 refine zdb (Z51 f c) H ?_
 intro b2 w3 H4
 refine kq _ _ ?_
 clear kq Kq
 refine wv 2 (.bool false) ?_
 apply znt
 refine Z0v (List.range' 2 19) (fun G_ W_ => G_ 2 = (.bool (Z2I f c)) ∧ Sat w [Z7 w (fun _ => False), Z3 b2 27 (Z51 f c)] W_) ?_ ?_
 ·apply Zt
  refine wv 3 (pt b2 0) ?_
  refine zw1 4 (.int .i64 (f)) (H4.cell 1 rfl rfl) ?_
  refine wv 5 (.bool (decide (f ≥ 1))) ?_
  refine wv 6 (.bool (decide (f ≥ 1))) ?_
  refine (ZC (decide (f ≥ 1))).elim (fun b6 => ?_) (fun b6 => ?_)
  ·have g7 := of_decide_eq_true b6
   refine ZP 6 (.bool true) (congrArg Value.bool b6) ?_
   refine wy 3 6 true 7 (pt b2 0) ?_
   refine wy 3 6 true 8 (.int .i64 (f)) ?_ (hr := Zi rfl (by kernel_rfl) (H4.cell 1 rfl rfl))
   refine wy 3 6 true 9 (.bool (decide (f ≤ 21))) ?_
   refine wv 10 (.bool (decide (f ≤ 21))) ?_
   refine wv 11 (.bool (decide (f ≤ 21))) ?_
   refine (ZC (decide (f ≤ 21))).elim (fun b8 => ?_) (fun b8 => ?_)
   ·have g9 := of_decide_eq_true b8
    refine ZP 11 (.bool true) (congrArg Value.bool b8) ?_
    refine wy 8 11 true 12 (pt b2 1) ?_
    refine wy 8 11 true 13 (.int .i64 (c)) ?_ (hr := Zi rfl (by kernel_rfl) (H4.cell 1 rfl rfl))
    refine wy 8 11 true 14 (.bool (decide (c ≥ 1))) ?_
    refine wv 15 (.bool (decide (c ≥ 1))) ?_
    refine wv 16 (.bool (decide (c ≥ 1))) ?_
    refine (ZC (decide (c ≥ 1))).elim (fun b10 => ?_) (fun b10 => ?_)
    ·have g11 := of_decide_eq_true b10
     refine ZP 16 (.bool true) (congrArg Value.bool b10) ?_
     refine wy 13 16 true 17 (pt b2 1) ?_
     refine wy 13 16 true 18 (.int .i64 (c)) ?_ (hr := Zi rfl (by kernel_rfl) (H4.cell 1 rfl rfl))
     refine wy 13 16 true 19 (.bool (decide (c ≤ 100))) ?_
     refine wv 20 (.bool (decide (c ≤ 100))) ?_
     refine wv 2 (.bool (decide (c ≤ 100))) ?_
     apply Zu
     refine ZJ ?_ ⟨(congrArg Value.bool (show (decide (c ≤ 100)) = (Z2I f c) by simp [Z2I, b6, b8, b10])), H4⟩
     exact zs
    have g12 := of_decide_eq_false b10
    refine ZP 16 (.bool false) (congrArg Value.bool b10) ?_
    iterate 3 refine wn 13 16 true ?_
    refine wv 20 (.bool false) ?_
    refine wv 2 (.bool false) ?_
    apply Zu
    refine ZJ ?_ ⟨(congrArg Value.bool (show false = (Z2I f c) by simp [Z2I, b6, b8, b10])), H4⟩
    exact zs
   have g13 := of_decide_eq_false b8
   refine ZP 11 (.bool false) (congrArg Value.bool b8) ?_
   iterate 3 refine wn 8 11 true ?_
   refine wv 15 (.bool false) ?_
   refine wv 16 (.bool false) ?_
   iterate 3 refine wn 13 16 true ?_
   refine wv 20 (.bool false) ?_
   refine wv 2 (.bool false) ?_
   apply Zu
   refine ZJ ?_ ⟨(congrArg Value.bool (show false = (Z2I f c) by simp [Z2I, b6, b8])), H4⟩
   exact zs
  have g14 := of_decide_eq_false b6
  refine ZP 6 (.bool false) (congrArg Value.bool b6) ?_
  iterate 3 refine wn 3 6 true ?_
  refine wv 10 (.bool false) ?_
  refine wv 11 (.bool false) ?_
  iterate 3 refine wn 8 11 true ?_
  refine wv 15 (.bool false) ?_
  refine wv 16 (.bool false) ?_
  iterate 3 refine wn 13 16 true ?_
  refine wv 20 (.bool false) ?_
  refine wv 2 (.bool false) ?_
  apply Zu
  refine ZJ ?_ ⟨(congrArg Value.bool (show false = (Z2I f c) by simp [Z2I, b6])), H4⟩
  exact zs
 rintro f15 w16 ⟨v18, H17⟩
 refine Zo 2 _ v18 ?_
 apply Zz
 refine ze1 (.bool (Z2I f c)) ?_
 exact ⟨rfl, H17.upd 0 rfl [] (fun _ h => h.elim)⟩
theorem Z6t (w : World) (F Cn id : Int) (bb : Nat) (hcf : Z2I F Cn = true) (hid : 0 ≤ id ∧ id < Cn) :
  Calls Tryz.prog 11 #[(.agg ⟨([(.int .i64 (F)), (.int .i64 (Cn))] : List Value)⟩), (.int .i64 (id)), (.pointer (some ⟨bb, 0, none⟩))] w fun e w' => ∃ c, e = .returned (.tuple #[.pointer (some ⟨c, 0, none⟩), .int .i64 0]) ∧ (Z3 c 112 [.int .i64 F, .int .i64 Cn, .int .i64 id, .pointer (some ⟨bb, 0, none⟩), .slice none 0 0]).ok w' ∧ Upd [] w w' ∧ ∀ q_, (Z3 c 112 [.int .i64 F, .int .i64 Cn, .int .i64 id, .pointer (some ⟨bb, 0, none⟩), .slice none 0 0]).fp q_ → w.heap.size ≤ q_ := by
 have H := Sat.start0 w
 refine Zg Tryz.func11 rfl 26 rfl (Nat.le_of_ble_eq_true rfl) ?_
 apply zsl
 refine zwd fun Kq kq => ?_
 refine zdb (Z51 F Cn) H ?_
 intro b2 w3 H4
 refine kq _ _ ?_
 clear kq Kq
 refine wv 6 (.pointer none) ?_
 refine wv 7 (.int .i64 (0)) ?_
 apply znt
 apply Zf
 apply zsl
 refine zwN 8 (Z51 F Cn) (H4.at 1 rfl) ?_
 refine zwd fun Kq kq => ?_
 refine zdq 9 (Z8M w3 F Cn) H4 ?_
 intro w6 H7
 refine kq _ _ ?_
 clear kq Kq
 refine wv 10 (.bool (!(Z2I F Cn))) ?_
 refine wv 11 (.bool (!(Z2I F Cn))) ?_
 have b9 : (!(Z2I F Cn)) = false := by rw [hcf]; rfl
 refine ZP 11 (.bool false) (congrArg Value.bool b9) ?_
 have g10 := Z03 b9
 refine wy 3 11 false 12 (.int .i64 (id)) ?_
 refine wy 3 11 false 13 (.bool (decide (id < 0))) ?_
 refine wv 14 (.bool (decide (id < 0))) ?_
 refine wv 15 (.bool (decide (id < 0))) ?_
 have b11 : (decide (id < 0)) = false := by exact decide_eq_false (by omega)
 refine ZP 15 (.bool false) (congrArg Value.bool b11) ?_
 have g12 := of_decide_eq_false b11
 refine wy 7 15 false 16 (.int .i64 (id)) ?_
 refine wy 7 15 false 17 (pt b2 1) ?_
 refine wy 7 15 false 18 (.int .i64 (Cn)) ?_ (hr := Zi rfl (by kernel_rfl) (H7.cell 1 rfl rfl))
 refine wy 7 15 false 19 (.bool (decide (id ≥ Cn))) ?_
 refine wv 20 (.bool (decide (id ≥ Cn))) ?_
 apply znt
 have b13 : (decide (id ≥ Cn)) = false := by exact decide_eq_false (by omega)
 have g14 := of_decide_eq_false b13
 refine Z1a _ b13 ?_
 apply ZF
 apply ztn
 apply zsl
 refine zwN 21 (Z51 F Cn) (H7.at 1 rfl) ?_
 refine wv 22 (.int .i64 (id)) ?_
 refine wv 23 (pt bb 0) ?_
 refine wv 24 (.agg ⟨(Zbq F Cn id bb)⟩) ?_
 refine zwd fun Kq kq => ?_
 refine zdb (Zbq F Cn id bb) H7 ?_
 intro b16 w17 H18
 refine kq _ _ ?_
 clear kq Kq
 refine wv 6 (pt b16 0) ?_
 refine wv 7 (.int .i64 (0)) ?_
 apply znt
 apply Zz
 refine ze2 (pt b16 0) (.int .i64 (0)) ?_
 exact ⟨b16, rfl, H18.at 2 rfl, H18.upd 0 rfl [] (fun _ h => h.elim), H18.fresh 0 rfl (fun _ h => h) 2 rfl rfl⟩
theorem Z1F (w : World) (c bb g lc : Nat) (F Cn id : Int) (Q : List Zq) (hcl : (Z3 c 112 [.int .i64 F, .int .i64 Cn, .int .i64 id, .pointer (some ⟨bb, 0, none⟩), .slice (some ⟨g, 0, none⟩) Q.length lc]).ok w) (hrow : (Zc 119 79 (.slice (some ⟨g, 0, none⟩) Q.length lc) Q.length (Q.flatMap Zh)).ok w) (hlQ : Q.length ≤ 64) (k : Nat) (q : Zq) (hq : Q[k]? = some q) (sq : Int) (hsq : sq = (k : Int) + 1) :
  Calls Tryz.prog 41 #[(.pointer (some ⟨c, 0, none⟩)), (.int .i64 (sq))] w fun e w' => e = .returned (.pointer (some ⟨g, 0 + ((k : Int)).toNat * 79, none⟩)) ∧ Upd [] w w' := by
 have H := Sat.start0 w
 have hkl : k < Q.length := (List.getElem?_eq_some_iff.1 hq).1
 refine Zg Tryz.func41 rfl 23 rfl (Nat.le_of_ble_eq_true rfl) ?_
 apply zsl
 refine wv 4 (.pointer none) ?_
 apply znt
 apply Zf
 apply zsl
 refine wv 5 (.int .i64 (sq)) ?_
 refine wv 6 (.bool (decide (sq < 1))) ?_
 refine wv 7 (.bool (decide (sq < 1))) ?_
 have b1 : (decide (sq < 1)) = false := by exact decide_eq_false (by omega)
 refine ZP 7 (.bool false) (congrArg Value.bool b1) ?_
 have g2 := of_decide_eq_false b1
 refine wy 2 7 false 8 (.int .i64 (sq)) ?_
 refine wy 2 7 false 9 (pt c 0) ?_
 refine wy 2 7 false 10 (pt c 0) ?_
 refine wy 2 7 false 11 (pt c 4) ?_
 refine wy 2 7 false 12 (.slice (some ⟨g, 0, none⟩) Q.length lc) ?_ (hr := Zi rfl (by kernel_rfl) (H.roCell 0 rfl hcl (fun h => h) rfl))
 refine wy 2 7 false 13 (.int .i64 ((Q.length : Int))) ?_
 refine wy 2 7 false 14 (.bool (decide (sq > (Q.length : Int)))) ?_
 refine wv 15 (.bool (decide (sq > (Q.length : Int)))) ?_
 apply znt
 have b3 : (decide (sq > (Q.length : Int))) = false := by exact decide_eq_false (by omega)
 have g4 := of_decide_eq_false b3
 refine Z1a _ b3 ?_
 apply ZF
 apply ztn
 apply zsl
 refine wv 16 (pt c 0) ?_
 refine wv 17 (pt c 0) ?_
 refine wv 18 (pt c 4) ?_
 refine zw1 19 (.slice (some ⟨g, 0, none⟩) Q.length lc) (H.roCell 0 rfl hcl (fun h => h) rfl) ?_
 refine wv 20 (.int .i64 (sq)) ?_
 refine zwi 21 (sq - 1) ?_
 obtain ⟨g5, c6, e7⟩ := Z18 hrow (by omega)
 obtain ⟨x8, h9⟩ := Z4X (show (sq - 1).toNat < Q.length by omega)
 refine wv 22 (.pointer (some ⟨g5, 0 + (sq - 1).toNat * 79, none⟩)) ?_ (hr := Z1R (E := 119) (by kernel_rfl) (by kernel_rfl) (Nat.le_of_ble_eq_true rfl) rfl e7 rfl (by omega) (by omega))
 refine wv 4 (.pointer (some ⟨g5, 0 + (sq - 1).toNat * 79, none⟩)) ?_
 apply znt
 apply Zz
 refine ze1 (.pointer (some ⟨g5, 0 + (sq - 1).toNat * 79, none⟩)) ?_
 obtain rfl : g = g5 := by have q_ := Z7E e7; exact q_
 exact ⟨by rw [show sq - 1 = (k : Int) by omega], H.upd 0 rfl [] (fun _ h => h.elim)⟩
theorem Z1J (w : World) (c bb g lc : Nat) (F Cn id : Int) (Q : List Zq) (hcl : (Z3 c 112 [.int .i64 F, .int .i64 Cn, .int .i64 id, .pointer (some ⟨bb, 0, none⟩), .slice (some ⟨g, 0, none⟩) Q.length lc]).ok w) (hrow : (Zc 119 79 (.slice (some ⟨g, 0, none⟩) Q.length lc) Q.length (Q.flatMap Zh)).ok w) (hlQ : Q.length ≤ 64) (k : Nat) (q : Zq) (hq : Q[k]? = some q) (sq : Int) (hsq : sq = (k : Int) + 1) :
  Calls Tryz.prog 56 #[(.pointer (some ⟨c, 0, none⟩)), (.agg ⟨([(.int .i64 (id)), (.int .i64 (sq))] : List Value)⟩), (.agg ⟨(hc q.x.h)⟩)] w fun e w' => e = .returned (.pointer (some ⟨g, 0 + ((k : Int)).toNat * 79, none⟩)) ∧ Upd [] w w' := by
 have H := Sat.start0 w
 have hkl : k < Q.length := (List.getElem?_eq_some_iff.1 hq).1
 refine Zg Tryz.func56 rfl 33 rfl (Nat.le_of_ble_eq_true rfl) ?_
 apply zsl
 refine zwd fun Kq kq => ?_
 refine zdb (Z51 id sq) H ?_
 intro b2 w3 H4
 refine kq _ _ ?_
 clear kq Kq
 refine zwd fun Kq kq => ?_
 refine zdb (hc q.x.h) H4 ?_
 intro b6 w7 H8
 refine kq _ _ ?_
 clear kq Kq
 refine wv 6 (.pointer none) ?_
 apply Z0N
 refine wv 8 (pt c 0) ?_
 refine wv 9 (pt b2 1) ?_
 refine zw1 10 (.int .i64 (sq)) (H8.cell 1 rfl rfl) ?_
 refine zwd fun Kq kq => ?_
 refine zdq 11 (Z1F w7 c bb g lc F Cn id Q (H8.roCk 0 rfl hcl (fun _ _ h => h)) (H8.roCk 0 rfl hrow (fun _ _ h => h)) hlQ k q hq sq (by omega)) H8 ?_
 intro w10 H11
 refine kq _ _ ?_
 clear kq Kq
 refine wv 7 (.pointer (some ⟨g, 0 + ((k : Int)).toNat * 79, none⟩)) ?_
 apply znt
 apply Zf
 apply Zf
 refine zqs H11 ?_
 refine qv 12 (.pointer (some ⟨g, 0 + ((k : Int)).toNat * 79, none⟩)) ?_
 refine qv 13 (.bool false) ?_
 refine qv 14 (.bool false) ?_
 refine qy 2 14 false 15 (pt b2 0) ?_
 refine qy 2 14 false 16 (.int .i64 (id)) ?_ (hr := fun _ H' => (Zi rfl (by kernel_rfl) (H'.cell 1 rfl rfl)))
 refine qy 2 14 false 17 (pt c 0) ?_
 refine qy 2 14 false 18 (pt c 0) ?_
 refine qy 2 14 false 19 (pt c 2) ?_
 refine qy 2 14 false 20 (.int .i64 (id)) ?_ (hr := fun _ H' => (Zi rfl (by kernel_rfl) (H'.roCell 0 rfl hcl (fun h => h) rfl)))
 refine qy 2 14 false 21 (.bool (!(decide (id = id)))) ?_
 refine qv 22 (.bool (!(decide (id = id)))) ?_
 refine qv 23 (.bool (!(decide (id = id)))) ?_
 have b13 : (!(decide (id = id))) = false := by rw [decide_eq_true rfl]; rfl
 refine Z17 23 (.bool false) (congrArg Value.bool b13) ?_
 have g14 := Z03 b13
 have g15 := of_decide_eq_true g14
 refine qy 11 23 false 24 (.pointer (some ⟨g, 0 + ((k : Int)).toNat * 79, none⟩)) ?_
 refine qy 11 23 false 25 (.pointer (some ⟨g, 0 + ((k : Int)).toNat * 79, none⟩)) ?_
 refine qy 11 23 false 26 (.pointer (some ⟨g, 0 + ((k : Int)).toNat * 79, none⟩)) ?_
 refine qy 11 23 false 27 (.pointer (some ⟨g, 0 + ((k : Int)).toNat * 79 + 2, none⟩)) ?_
 refine qy 11 23 false 28 (.agg ⟨(hc q.x.h)⟩) ?_ (hr := fun _ H' => (Z0a (vs := (hc q.x.h)) rfl (by kernel_rfl) (by kernel_rfl) (Nat.le_of_ble_eq_true (by kernel_rfl)) (Z1d (H'.roCk 0 rfl hrow (fun _ _ h => h)) rfl ZB hq 2 (show 0 + ((k : Int)).toNat * 79 + 2 = k * 79 + 2 by omega) (by kernel_rfl) (by kernel_rfl))))
 refine qy 11 23 false 29 (.agg ⟨(hc q.x.h)⟩) ?_ (hr := fun _ H' => (ZG (vs := (hc q.x.h)) rfl (by kernel_rfl) (by kernel_rfl) (by exact Nat.le_of_ble_eq_true (by kernel_rfl)) (H'.at 2 rfl) (by kernel_rfl)))
 refine qy 11 23 false 30 (.bool (!(decide (q.x.h = q.x.h)))) ?_ (hr := fun _ H' => (Z7W q.x.h q.x.h rfl rfl))
 refine qv 31 (.bool (!(decide (q.x.h = q.x.h)))) ?_
 refine Z1A ?_
 intro w16 H17
 apply ztn
 have b18 : (!(decide (q.x.h = q.x.h))) = false := by rw [decide_eq_true rfl]; rfl
 have g19 := Z03 b18
 have g20 := of_decide_eq_true g19
 refine Z1a _ b18 ?_
 apply ZF
 apply ztn
 apply zsl
 refine wv 32 (.pointer (some ⟨g, 0 + ((k : Int)).toNat * 79, none⟩)) ?_
 refine wv 6 (.pointer (some ⟨g, 0 + ((k : Int)).toNat * 79, none⟩)) ?_
 apply znt
 apply Zz
 refine ze1 (.pointer (some ⟨g, 0 + ((k : Int)).toNat * 79, none⟩)) ?_
 exact ⟨rfl, H17.upd 0 rfl [] (fun _ h => h.elim)⟩
end Go.Proofs.YtgigjkjdmalmaaaGreat
