/- WHAT IS PROVED: contracts and plain laws of ClA. Conditions: stated with each. -/
import Derived.Test.YtgigjkjdmalmaaaGreatPC11
import Derived.Test.YtgigjkjdmalmaaaGreatPC13
set_option maxHeartbeats 4000000
set_option maxRecDepth 100000
namespace Go.Proofs.YtgigjkjdmalmaaaGreat
open Go.RowKit
def Z21 (f c : Int) : Bool := decide (1 ≤ f) && decide (f ≤ 21) && decide (1 ≤ c) && decide (c ≤ 100)
theorem Z59 {g g' n c n' c' : Nat} (h : Value.slice (some ⟨g, 0, none⟩) n c = .slice (some ⟨g', 0, none⟩) n' c') : g = g' := by
 simp only [Value.slice.injEq, Option.some.injEq, Addr.mk.injEq] at h; exact h.1.1
theorem Z5U (w : World) (f c : Int) :
  Calls Tryz.prog 27 #[(.agg ⟨([(.int .i64 (f)), (.int .i64 (c))] : List Value)⟩)] w fun e w' => e = .returned (.bool (Z21 f c)) ∧ Upd [] w w' := by
 have H := Sat.start0 w
 refine Zv Tryz.func27 rfl 21 rfl (Nat.le_of_ble_eq_true rfl) ?_
 refine Zh ?_
 refine Zs ?_
 refine ZQ (Z2 rfl) (fun K1 hK1 => ?_)
 refine Z0N (vs := ([(.int .i64 (f)), (.int .i64 (c))] : List Value)) rfl H rfl rfl ?_
 intro b2 w3 (H4 : Sat w [Za w (fun _ => False), Z3 b2 27 ([(.int .i64 (f)), (.int .i64 (c))] : List Value)] w3)
 refine hK1 _ _ ?_
 clear hK1 K1
 refine Z5 (Z2 rfl) (d := 2) (v := (.bool false)) rfl (by kernel_rfl) ?_
 refine Zr ?_
 refine Z7 ?_
 refine Z0K [2, 3, 4, 5, 6, 7, 8, 9, 10, 11, 12, 13, 14, 15, 16, 17, 18, 19, 20] (fun G_ W_ => G_ 2 = (.bool (Z21 f c)) ∧ Sat w [Za w (fun _ => False), Z3 b2 27 ([(.int .i64 (f)), (.int .i64 (c))] : List Value)] W_) ?_ ?_
 ·refine Zs ?_
  refine Z5 (Z2 rfl) (d := 3) (v := (.pointer (some ⟨b2, 0, none⟩))) rfl (by kernel_rfl) ?_
  refine Z5 (Z2 rfl) (d := 4) (v := (.int .i64 (f))) rfl (Zi rfl (by kernel_rfl) (H4.cell 1 rfl rfl)) ?_
  refine Z5 (Z2 rfl) (d := 5) (v := (.bool (decide (f ≥ 1)))) rfl (by kernel_rfl) ?_
  refine Z5 (Z2 rfl) (d := 6) (v := (.bool (decide (f ≥ 1)))) rfl (by kernel_rfl) ?_
  refine (Z00 (decide (f ≥ 1))).elim (fun b6 => ?_) (fun b6 => ?_)
  ·have g7 := of_decide_eq_true b6
   refine Z05 6 (.bool true) (congrArg Value.bool b6) ?_
   refine Z5 (Zw 3 6 true rfl (by kernel_rfl) rfl (by kernel_rfl)) (d := 7) (v := (.pointer (some ⟨b2, 0, none⟩))) rfl (by kernel_rfl) ?_
   refine Z5 (Zw 3 6 true rfl (by kernel_rfl) rfl (by kernel_rfl)) (d := 8) (v := (.int .i64 (f))) rfl (Zi rfl (by kernel_rfl) (H4.cell 1 rfl rfl)) ?_
   refine Z5 (Zw 3 6 true rfl (by kernel_rfl) rfl (by kernel_rfl)) (d := 9) (v := (.bool (decide (f ≤ 21)))) rfl (by kernel_rfl) ?_
   refine Z5 (Z2 rfl) (d := 10) (v := (.bool (decide (f ≤ 21)))) rfl (by kernel_rfl) ?_
   refine Z5 (Z2 rfl) (d := 11) (v := (.bool (decide (f ≤ 21)))) rfl (by kernel_rfl) ?_
   refine (Z00 (decide (f ≤ 21))).elim (fun b8 => ?_) (fun b8 => ?_)
   ·have g9 := of_decide_eq_true b8
    refine Z05 11 (.bool true) (congrArg Value.bool b8) ?_
    refine Z5 (Zw 8 11 true rfl (by kernel_rfl) rfl (by kernel_rfl)) (d := 12) (v := (.pointer (some ⟨b2, 1, none⟩))) rfl (by kernel_rfl) ?_
    refine Z5 (Zw 8 11 true rfl (by kernel_rfl) rfl (by kernel_rfl)) (d := 13) (v := (.int .i64 (c))) rfl (Zi rfl (by kernel_rfl) (H4.cell 1 rfl rfl)) ?_
    refine Z5 (Zw 8 11 true rfl (by kernel_rfl) rfl (by kernel_rfl)) (d := 14) (v := (.bool (decide (c ≥ 1)))) rfl (by kernel_rfl) ?_
    refine Z5 (Z2 rfl) (d := 15) (v := (.bool (decide (c ≥ 1)))) rfl (by kernel_rfl) ?_
    refine Z5 (Z2 rfl) (d := 16) (v := (.bool (decide (c ≥ 1)))) rfl (by kernel_rfl) ?_
    refine (Z00 (decide (c ≥ 1))).elim (fun b10 => ?_) (fun b10 => ?_)
    ·have g11 := of_decide_eq_true b10
     refine Z05 16 (.bool true) (congrArg Value.bool b10) ?_
     refine Z5 (Zw 13 16 true rfl (by kernel_rfl) rfl (by kernel_rfl)) (d := 17) (v := (.pointer (some ⟨b2, 1, none⟩))) rfl (by kernel_rfl) ?_
     refine Z5 (Zw 13 16 true rfl (by kernel_rfl) rfl (by kernel_rfl)) (d := 18) (v := (.int .i64 (c))) rfl (Zi rfl (by kernel_rfl) (H4.cell 1 rfl rfl)) ?_
     refine Z5 (Zw 13 16 true rfl (by kernel_rfl) rfl (by kernel_rfl)) (d := 19) (v := (.bool (decide (c ≤ 100)))) rfl (by kernel_rfl) ?_
     refine Z5 (Z2 rfl) (d := 20) (v := (.bool (decide (c ≤ 100)))) rfl (by kernel_rfl) ?_
     refine Z5 (Z2 rfl) (d := 2) (v := (.bool (decide (c ≤ 100)))) rfl (by kernel_rfl) ?_
     refine Zr ?_
     refine Z02 ?_ ⟨(congrArg Value.bool (show (decide (c ≤ 100)) = (Z21 f c) by simp [Z21, b6, b8, b10])), H4⟩
     exact (Z6 rfl (Z6 rfl (Z6 rfl (Z6 rfl (Z6 rfl (Z6 rfl (Z6 rfl (Z6 rfl (Z6 rfl (Z6 rfl (Z6 rfl (Z6 rfl (Z6 rfl (Z6 rfl (Z6 rfl (Z6 rfl (Z6 rfl (Z6 rfl (Z6 rfl (Z6 rfl (Z6 rfl (Z6 rfl (Z0B)))))))))))))))))))))))
    ·have g12 := of_decide_eq_false b10
     refine Z05 16 (.bool false) (congrArg Value.bool b10) ?_
     refine ZI (Zx 13 16 true rfl (by kernel_rfl) rfl (by kernel_rfl)) rfl ?_
     refine ZI (Zx 13 16 true rfl (by kernel_rfl) rfl (by kernel_rfl)) rfl ?_
     refine ZI (Zx 13 16 true rfl (by kernel_rfl) rfl (by kernel_rfl)) rfl ?_
     refine Z5 (Z2 rfl) (d := 20) (v := (.bool false)) rfl (by kernel_rfl) ?_
     refine Z5 (Z2 rfl) (d := 2) (v := (.bool false)) rfl (by kernel_rfl) ?_
     refine Zr ?_
     refine Z02 ?_ ⟨(congrArg Value.bool (show false = (Z21 f c) by simp [Z21, b6, b8, b10])), H4⟩
     exact (Z6 rfl (Z6 rfl (Z6 rfl (Z6 rfl (Z6 rfl (Z6 rfl (Z6 rfl (Z6 rfl (Z6 rfl (Z6 rfl (Z6 rfl (Z6 rfl (Z6 rfl (Z6 rfl (Z6 rfl (Z6 rfl (Z6 rfl (Z6 rfl (Z6 rfl (Z6 rfl (Z6 rfl (Z6 rfl (Z0B)))))))))))))))))))))))
   ·have g13 := of_decide_eq_false b8
    refine Z05 11 (.bool false) (congrArg Value.bool b8) ?_
    refine ZI (Zx 8 11 true rfl (by kernel_rfl) rfl (by kernel_rfl)) rfl ?_
    refine ZI (Zx 8 11 true rfl (by kernel_rfl) rfl (by kernel_rfl)) rfl ?_
    refine ZI (Zx 8 11 true rfl (by kernel_rfl) rfl (by kernel_rfl)) rfl ?_
    refine Z5 (Z2 rfl) (d := 15) (v := (.bool false)) rfl (by kernel_rfl) ?_
    refine Z5 (Z2 rfl) (d := 16) (v := (.bool false)) rfl (by kernel_rfl) ?_
    refine ZI (Zx 13 16 true rfl (by kernel_rfl) rfl (by kernel_rfl)) rfl ?_
    refine ZI (Zx 13 16 true rfl (by kernel_rfl) rfl (by kernel_rfl)) rfl ?_
    refine ZI (Zx 13 16 true rfl (by kernel_rfl) rfl (by kernel_rfl)) rfl ?_
    refine Z5 (Z2 rfl) (d := 20) (v := (.bool false)) rfl (by kernel_rfl) ?_
    refine Z5 (Z2 rfl) (d := 2) (v := (.bool false)) rfl (by kernel_rfl) ?_
    refine Zr ?_
    refine Z02 ?_ ⟨(congrArg Value.bool (show false = (Z21 f c) by simp [Z21, b6, b8])), H4⟩
    exact (Z6 rfl (Z6 rfl (Z6 rfl (Z6 rfl (Z6 rfl (Z6 rfl (Z6 rfl (Z6 rfl (Z6 rfl (Z6 rfl (Z6 rfl (Z6 rfl (Z6 rfl (Z6 rfl (Z6 rfl (Z6 rfl (Z6 rfl (Z6 rfl (Z6 rfl (Z6 rfl (Z6 rfl (Z0B))))))))))))))))))))))
  ·have g14 := of_decide_eq_false b6
   refine Z05 6 (.bool false) (congrArg Value.bool b6) ?_
   refine ZI (Zx 3 6 true rfl (by kernel_rfl) rfl (by kernel_rfl)) rfl ?_
   refine ZI (Zx 3 6 true rfl (by kernel_rfl) rfl (by kernel_rfl)) rfl ?_
   refine ZI (Zx 3 6 true rfl (by kernel_rfl) rfl (by kernel_rfl)) rfl ?_
   refine Z5 (Z2 rfl) (d := 10) (v := (.bool false)) rfl (by kernel_rfl) ?_
   refine Z5 (Z2 rfl) (d := 11) (v := (.bool false)) rfl (by kernel_rfl) ?_
   refine ZI (Zx 8 11 true rfl (by kernel_rfl) rfl (by kernel_rfl)) rfl ?_
   refine ZI (Zx 8 11 true rfl (by kernel_rfl) rfl (by kernel_rfl)) rfl ?_
   refine ZI (Zx 8 11 true rfl (by kernel_rfl) rfl (by kernel_rfl)) rfl ?_
   refine Z5 (Z2 rfl) (d := 15) (v := (.bool false)) rfl (by kernel_rfl) ?_
   refine Z5 (Z2 rfl) (d := 16) (v := (.bool false)) rfl (by kernel_rfl) ?_
   refine ZI (Zx 13 16 true rfl (by kernel_rfl) rfl (by kernel_rfl)) rfl ?_
   refine ZI (Zx 13 16 true rfl (by kernel_rfl) rfl (by kernel_rfl)) rfl ?_
   refine ZI (Zx 13 16 true rfl (by kernel_rfl) rfl (by kernel_rfl)) rfl ?_
   refine Z5 (Z2 rfl) (d := 20) (v := (.bool false)) rfl (by kernel_rfl) ?_
   refine Z5 (Z2 rfl) (d := 2) (v := (.bool false)) rfl (by kernel_rfl) ?_
   refine Zr ?_
   refine Z02 ?_ ⟨(congrArg Value.bool (show false = (Z21 f c) by simp [Z21, b6])), H4⟩
   exact (Z6 rfl (Z6 rfl (Z6 rfl (Z6 rfl (Z6 rfl (Z6 rfl (Z6 rfl (Z6 rfl (Z6 rfl (Z6 rfl (Z6 rfl (Z6 rfl (Z6 rfl (Z6 rfl (Z6 rfl (Z6 rfl (Z6 rfl (Z6 rfl (Z6 rfl (Z6 rfl (Z0B)))))))))))))))))))))
 ·rintro f15 w16 ⟨v18, H17⟩
  refine Zy 2 _ v18 ?_
  refine ZU ?_
  refine Z0T rfl (ZK (v := (.bool (Z21 f c))) rfl) ?_
  exact ⟨rfl, H17.upd 0 rfl [] (fun _ h => h.elim)⟩
theorem Z4l (w : World) (F Cn id : Int) (bb : Nat) (hcf : Z21 F Cn = true) (hid : 0 ≤ id ∧ id < Cn) :
  Calls Tryz.prog 11 #[(.agg ⟨([(.int .i64 (F)), (.int .i64 (Cn))] : List Value)⟩), (.int .i64 (id)), (.pointer (some ⟨bb, 0, none⟩))] w fun e w' => ∃ c, e = .returned (.tuple #[.pointer (some ⟨c, 0, none⟩), .int .i64 0]) ∧ (Z3 c 112 [.int .i64 F, .int .i64 Cn, .int .i64 id, .pointer (some ⟨bb, 0, none⟩), .slice none 0 0]).ok w' ∧ Upd [] w w' ∧ ∀ q_, (Z3 c 112 [.int .i64 F, .int .i64 Cn, .int .i64 id, .pointer (some ⟨bb, 0, none⟩), .slice none 0 0]).fp q_ → w.heap.size ≤ q_ := by
 have H := Sat.start0 w
 refine Zv Tryz.func11 rfl 26 rfl (Nat.le_of_ble_eq_true rfl) ?_
 refine Zh ?_
 refine Zs ?_
 refine ZQ (Z2 rfl) (fun K1 hK1 => ?_)
 refine Z0N (vs := ([(.int .i64 (F)), (.int .i64 (Cn))] : List Value)) rfl H rfl rfl ?_
 intro b2 w3 (H4 : Sat w [Za w (fun _ => False), Z3 b2 27 ([(.int .i64 (F)), (.int .i64 (Cn))] : List Value)] w3)
 refine hK1 _ _ ?_
 clear hK1 K1
 refine Z5 (Z2 rfl) (d := 6) (v := (.pointer none)) rfl (by kernel_rfl) ?_
 refine Z5 (Z2 rfl) (d := 7) (v := (.int .i64 (0))) rfl (by kernel_rfl) ?_
 refine Zr ?_
 refine Z7 ?_
 refine Zh ?_
 refine Zh ?_
 refine Zs ?_
 refine Z5 (Z2 rfl) (d := 8) (v := (.agg ⟨([(.int .i64 (F)), (.int .i64 (Cn))] : List Value)⟩)) rfl (ZE (vs := ([(.int .i64 (F)), (.int .i64 (Cn))] : List Value)) rfl (by kernel_rfl) (by kernel_rfl) (by exact Nat.le_of_ble_eq_true (by kernel_rfl)) (H4.at 1 rfl) (by kernel_rfl)) ?_
 refine ZQ (Z2 rfl) (fun K5 hK5 => ?_)
 refine ZJ (d := 9) rfl (by kernel_rfl) (Z5U w3 F Cn) ?_
 rintro _ w6 ⟨rfl, u8⟩
 have H7 := H4.keepU u8
 refine ⟨_, rfl, ?_⟩
 refine hK5 _ _ ?_
 clear hK5 K5
 refine Z5 (Z2 rfl) (d := 10) (v := (.bool (!(Z21 F Cn)))) rfl (by kernel_rfl) ?_
 refine Z5 (Z2 rfl) (d := 11) (v := (.bool (!(Z21 F Cn)))) rfl (by kernel_rfl) ?_
 have b9 : (!(Z21 F Cn)) = false := by rw [hcf]; rfl
 refine Z05 11 (.bool false) (congrArg Value.bool b9) ?_
 have g10 := Z09 b9
 refine Z5 (Zw 3 11 false rfl (by kernel_rfl) rfl (by kernel_rfl)) (d := 12) (v := (.int .i64 (id))) rfl (by kernel_rfl) ?_
 refine Z5 (Zw 3 11 false rfl (by kernel_rfl) rfl (by kernel_rfl)) (d := 13) (v := (.bool (decide (id < 0)))) rfl (by kernel_rfl) ?_
 refine Z5 (Z2 rfl) (d := 14) (v := (.bool (decide (id < 0)))) rfl (by kernel_rfl) ?_
 refine Z5 (Z2 rfl) (d := 15) (v := (.bool (decide (id < 0)))) rfl (by kernel_rfl) ?_
 have b11 : (decide (id < 0)) = false := by exact decide_eq_false (by omega)
 refine Z05 15 (.bool false) (congrArg Value.bool b11) ?_
 have g12 := of_decide_eq_false b11
 refine Z5 (Zw 7 15 false rfl (by kernel_rfl) rfl (by kernel_rfl)) (d := 16) (v := (.int .i64 (id))) rfl (by kernel_rfl) ?_
 refine Z5 (Zw 7 15 false rfl (by kernel_rfl) rfl (by kernel_rfl)) (d := 17) (v := (.pointer (some ⟨b2, 1, none⟩))) rfl (by kernel_rfl) ?_
 refine Z5 (Zw 7 15 false rfl (by kernel_rfl) rfl (by kernel_rfl)) (d := 18) (v := (.int .i64 (Cn))) rfl (Zi rfl (by kernel_rfl) (H7.cell 1 rfl rfl)) ?_
 refine Z5 (Zw 7 15 false rfl (by kernel_rfl) rfl (by kernel_rfl)) (d := 19) (v := (.bool (decide (id ≥ Cn)))) rfl (by kernel_rfl) ?_
 refine Z5 (Z2 rfl) (d := 20) (v := (.bool (decide (id ≥ Cn)))) rfl (by kernel_rfl) ?_
 refine Zr ?_
 refine Z7 ?_
 have b13 : (decide (id ≥ Cn)) = false := by exact decide_eq_false (by omega)
 refine Zy 20 (.bool false) (congrArg Value.bool b13) ?_
 have g14 := of_decide_eq_false b13
 refine Z0o rfl ?_
 refine ZW ?_
 refine Z7 ?_
 refine Zh ?_
 refine Zs ?_
 refine Z5 (Z2 rfl) (d := 21) (v := (.agg ⟨([(.int .i64 (F)), (.int .i64 (Cn))] : List Value)⟩)) rfl (ZE (vs := ([(.int .i64 (F)), (.int .i64 (Cn))] : List Value)) rfl (by kernel_rfl) (by kernel_rfl) (by exact Nat.le_of_ble_eq_true (by kernel_rfl)) (H7.at 1 rfl) (by kernel_rfl)) ?_
 refine Z5 (Z2 rfl) (d := 22) (v := (.int .i64 (id))) rfl (by kernel_rfl) ?_
 refine Z5 (Z2 rfl) (d := 23) (v := (.pointer (some ⟨bb, 0, none⟩))) rfl (by kernel_rfl) ?_
 refine Z5 (Z2 rfl) (d := 24) (v := (.agg ⟨([(.int .i64 (F)), (.int .i64 (Cn)), (.int .i64 (id)), (.pointer (some ⟨bb, 0, none⟩)), (.slice none 0 0)] : List Value)⟩)) rfl (by kernel_rfl) ?_
 refine ZQ (Z2 rfl) (fun K15 hK15 => ?_)
 refine Z0N (vs := ([(.int .i64 (F)), (.int .i64 (Cn)), (.int .i64 (id)), (.pointer (some ⟨bb, 0, none⟩)), (.slice none 0 0)] : List Value)) rfl H7 rfl rfl ?_
 intro b16 w17 (H18 : Sat w [Za w (fun _ => False), Z3 b2 27 ([(.int .i64 (F)), (.int .i64 (Cn))] : List Value), Z3 b16 112 ([(.int .i64 (F)), (.int .i64 (Cn)), (.int .i64 (id)), (.pointer (some ⟨bb, 0, none⟩)), (.slice none 0 0)] : List Value)] w17)
 refine hK15 _ _ ?_
 clear hK15 K15
 refine Z5 (Z2 rfl) (d := 6) (v := (.pointer (some ⟨b16, 0, none⟩))) rfl (by kernel_rfl) ?_
 refine Z5 (Z2 rfl) (d := 7) (v := (.int .i64 (0))) rfl (by kernel_rfl) ?_
 refine Zr ?_
 refine Z7 ?_
 refine ZU ?_
 refine Z7N rfl (ZK (v := (.pointer (some ⟨b16, 0, none⟩))) rfl) (ZK (v := (.int .i64 (0))) rfl) ?_
 exact ⟨b16, rfl, H18.at 2 rfl, H18.upd 0 rfl [] (fun _ h => h.elim), H18.fresh 0 rfl (fun _ h => h) 2 rfl rfl⟩
theorem Z2x (w : World) (c bb g lc : Nat) (F Cn id : Int) (Q : List Zq) (hcl : (Z3 c 112 [.int .i64 F, .int .i64 Cn, .int .i64 id, .pointer (some ⟨bb, 0, none⟩), .slice (some ⟨g, 0, none⟩) Q.length lc]).ok w) (hrow : (Ze 119 79 (.slice (some ⟨g, 0, none⟩) Q.length lc) Q.length (Q.flatMap Zm)).ok w) (hlQ : Q.length ≤ 64) (k : Nat) (q : Zq) (hq : Q[k]? = some q) (sq : Int) (hsq : sq = (k : Int) + 1) :
  Calls Tryz.prog 41 #[(.pointer (some ⟨c, 0, none⟩)), (.int .i64 (sq))] w fun e w' => e = .returned (.pointer (some ⟨g, 0 + ((k : Int)).toNat * 79, none⟩)) ∧ Upd [] w w' := by
 have H := Sat.start0 w
 have hkl : k < Q.length := (List.getElem?_eq_some_iff.1 hq).1
 refine Zv Tryz.func41 rfl 23 rfl (Nat.le_of_ble_eq_true rfl) ?_
 refine Zh ?_
 refine Zs ?_
 refine Z5 (Z2 rfl) (d := 4) (v := (.pointer none)) rfl (by kernel_rfl) ?_
 refine Zr ?_
 refine Z7 ?_
 refine Zh ?_
 refine Zh ?_
 refine Zs ?_
 refine Z5 (Z2 rfl) (d := 5) (v := (.int .i64 (sq))) rfl (by kernel_rfl) ?_
 refine Z5 (Z2 rfl) (d := 6) (v := (.bool (decide (sq < 1)))) rfl (by kernel_rfl) ?_
 refine Z5 (Z2 rfl) (d := 7) (v := (.bool (decide (sq < 1)))) rfl (by kernel_rfl) ?_
 have b1 : (decide (sq < 1)) = false := by exact decide_eq_false (by omega)
 refine Z05 7 (.bool false) (congrArg Value.bool b1) ?_
 have g2 := of_decide_eq_false b1
 refine Z5 (Zw 2 7 false rfl (by kernel_rfl) rfl (by kernel_rfl)) (d := 8) (v := (.int .i64 (sq))) rfl (by kernel_rfl) ?_
 refine Z5 (Zw 2 7 false rfl (by kernel_rfl) rfl (by kernel_rfl)) (d := 9) (v := (.pointer (some ⟨c, 0, none⟩))) rfl (by kernel_rfl) ?_
 refine Z5 (Zw 2 7 false rfl (by kernel_rfl) rfl (by kernel_rfl)) (d := 10) (v := (.pointer (some ⟨c, 0, none⟩))) rfl (by kernel_rfl) ?_
 refine Z5 (Zw 2 7 false rfl (by kernel_rfl) rfl (by kernel_rfl)) (d := 11) (v := (.pointer (some ⟨c, 4, none⟩))) rfl (by kernel_rfl) ?_
 refine Z5 (Zw 2 7 false rfl (by kernel_rfl) rfl (by kernel_rfl)) (d := 12) (v := (.slice (some ⟨g, 0, none⟩) Q.length lc)) rfl (Zi rfl (by kernel_rfl) (H.roCell 0 rfl hcl (fun h => h) rfl)) ?_
 refine Z5 (Zw 2 7 false rfl (by kernel_rfl) rfl (by kernel_rfl)) (d := 13) (v := (.int .i64 ((Q.length : Int)))) rfl (by kernel_rfl) ?_
 refine Z5 (Zw 2 7 false rfl (by kernel_rfl) rfl (by kernel_rfl)) (d := 14) (v := (.bool (decide (sq > (Q.length : Int))))) rfl (by kernel_rfl) ?_
 refine Z5 (Z2 rfl) (d := 15) (v := (.bool (decide (sq > (Q.length : Int))))) rfl (by kernel_rfl) ?_
 refine Zr ?_
 refine Z7 ?_
 have b3 : (decide (sq > (Q.length : Int))) = false := by exact decide_eq_false (by omega)
 refine Zy 15 (.bool false) (congrArg Value.bool b3) ?_
 have g4 := of_decide_eq_false b3
 refine Z0o rfl ?_
 refine ZW ?_
 refine Z7 ?_
 refine Zh ?_
 refine Zs ?_
 refine Z5 (Z2 rfl) (d := 16) (v := (.pointer (some ⟨c, 0, none⟩))) rfl (by kernel_rfl) ?_
 refine Z5 (Z2 rfl) (d := 17) (v := (.pointer (some ⟨c, 0, none⟩))) rfl (by kernel_rfl) ?_
 refine Z5 (Z2 rfl) (d := 18) (v := (.pointer (some ⟨c, 4, none⟩))) rfl (by kernel_rfl) ?_
 refine Z5 (Z2 rfl) (d := 19) (v := (.slice (some ⟨g, 0, none⟩) Q.length lc)) rfl (Zi rfl (by kernel_rfl) (H.roCell 0 rfl hcl (fun h => h) rfl)) ?_
 refine Z5 (Z2 rfl) (d := 20) (v := (.int .i64 (sq))) rfl (by kernel_rfl) ?_
 refine Z5 (Z2 rfl) (d := 21) (v := (.int .i64 (sq - 1))) rfl (Z0h (z := sq - 1) (by kernel_rfl) (IntWalk.i64_in _ (by omega))) ?_
 obtain ⟨g5, c6, e7⟩ := Z0R hrow (by omega)
 obtain ⟨x8, h9⟩ := Z3C (show (sq - 1).toNat < Q.length by omega)
 refine Z5 (Z2 rfl) (d := 22) (v := (.pointer (some ⟨g5, 0 + (sq - 1).toNat * 79, none⟩))) rfl (Z0O (E := 119) (by kernel_rfl) (by kernel_rfl) (Nat.le_of_ble_eq_true rfl) rfl e7 rfl (by omega) (by omega)) ?_
 refine Z5 (Z2 rfl) (d := 4) (v := (.pointer (some ⟨g5, 0 + (sq - 1).toNat * 79, none⟩))) rfl (by kernel_rfl) ?_
 refine Zr ?_
 refine Z7 ?_
 refine ZU ?_
 refine Z0T rfl (ZK (v := (.pointer (some ⟨g5, 0 + (sq - 1).toNat * 79, none⟩))) rfl) ?_
 obtain rfl : g = g5 := by have q_ := Z59 e7; exact q_
 exact ⟨by rw [show sq - 1 = (k : Int) by omega], H.upd 0 rfl [] (fun _ h => h.elim)⟩
theorem Z4V (w : World) (c bb g lc : Nat) (F Cn id : Int) (Q : List Zq) (hcl : (Z3 c 112 [.int .i64 F, .int .i64 Cn, .int .i64 id, .pointer (some ⟨bb, 0, none⟩), .slice (some ⟨g, 0, none⟩) Q.length lc]).ok w) (hrow : (Ze 119 79 (.slice (some ⟨g, 0, none⟩) Q.length lc) Q.length (Q.flatMap Zm)).ok w) (hlQ : Q.length ≤ 64) (k : Nat) (q : Zq) (hq : Q[k]? = some q) (sq : Int) (hsq : sq = (k : Int) + 1) :
  Calls Tryz.prog 56 #[(.pointer (some ⟨c, 0, none⟩)), (.agg ⟨([(.int .i64 (id)), (.int .i64 (sq))] : List Value)⟩), (.agg ⟨(hc q.x.h)⟩)] w fun e w' => e = .returned (.pointer (some ⟨g, 0 + ((k : Int)).toNat * 79, none⟩)) ∧ Upd [] w w' := by
 have H := Sat.start0 w
 have hkl : k < Q.length := (List.getElem?_eq_some_iff.1 hq).1
 refine Zv Tryz.func56 rfl 33 rfl (Nat.le_of_ble_eq_true rfl) ?_
 refine Zh ?_
 refine Zs ?_
 refine ZQ (Z2 rfl) (fun K1 hK1 => ?_)
 refine Z0N (vs := ([(.int .i64 (id)), (.int .i64 (sq))] : List Value)) rfl H rfl rfl ?_
 intro b2 w3 (H4 : Sat w [Za w (fun _ => False), Z3 b2 43 ([(.int .i64 (id)), (.int .i64 (sq))] : List Value)] w3)
 refine hK1 _ _ ?_
 clear hK1 K1
 refine ZQ (Z2 rfl) (fun K5 hK5 => ?_)
 refine Z0N (vs := (hc q.x.h)) rfl H4 rfl rfl ?_
 intro b6 w7 (H8 : Sat w [Za w (fun _ => False), Z3 b2 43 ([(.int .i64 (id)), (.int .i64 (sq))] : List Value), Z3 b6 40 (hc q.x.h)] w7)
 refine hK5 _ _ ?_
 clear hK5 K5
 refine Z5 (Z2 rfl) (d := 6) (v := (.pointer none)) rfl (by kernel_rfl) ?_
 refine Zr ?_
 refine Z7 ?_
 refine Zh ?_
 refine Zs ?_
 refine Z5 (Z2 rfl) (d := 8) (v := (.pointer (some ⟨c, 0, none⟩))) rfl (by kernel_rfl) ?_
 refine Z5 (Z2 rfl) (d := 9) (v := (.pointer (some ⟨b2, 1, none⟩))) rfl (by kernel_rfl) ?_
 refine Z5 (Z2 rfl) (d := 10) (v := (.int .i64 (sq))) rfl (Zi rfl (by kernel_rfl) (H8.cell 1 rfl rfl)) ?_
 refine ZQ (Z2 rfl) (fun K9 hK9 => ?_)
 refine ZJ (d := 11) rfl (by kernel_rfl) (Z2x w7 c bb g lc F Cn id Q (H8.roCk 0 rfl hcl (fun _ _ h => h)) (H8.roCk 0 rfl hrow (fun _ _ h => h)) hlQ k q hq sq (by omega)) ?_
 rintro _ w10 ⟨rfl, u12⟩
 have H11 := H8.keepU u12
 refine ⟨_, rfl, ?_⟩
 refine hK9 _ _ ?_
 clear hK9 K9
 refine Z5 (Z2 rfl) (d := 7) (v := (.pointer (some ⟨g, 0 + ((k : Int)).toNat * 79, none⟩))) rfl (by kernel_rfl) ?_
 refine Zr ?_
 refine Z7 ?_
 refine Zh ?_
 refine Zh ?_
 refine Z49 H11 (by kernel_rfl) (by kernel_rfl) ?_
 refine Z0C (Z2 rfl) (d := 12) (v := (.pointer (some ⟨g, 0 + ((k : Int)).toNat * 79, none⟩))) rfl (fun _ H' => (by kernel_rfl)) ?_
 refine Z0C (Z2 rfl) (d := 13) (v := (.bool false)) rfl (fun _ H' => (by kernel_rfl)) ?_
 refine Z0C (Z2 rfl) (d := 14) (v := (.bool false)) rfl (fun _ H' => (by kernel_rfl)) ?_
 refine Z0C (Zw 2 14 false rfl (by kernel_rfl) rfl (by kernel_rfl)) (d := 15) (v := (.pointer (some ⟨b2, 0, none⟩))) rfl (fun _ H' => (by kernel_rfl)) ?_
 refine Z0C (Zw 2 14 false rfl (by kernel_rfl) rfl (by kernel_rfl)) (d := 16) (v := (.int .i64 (id))) rfl (fun _ H' => (Zi rfl (by kernel_rfl) (H'.cell 1 rfl rfl))) ?_
 refine Z0C (Zw 2 14 false rfl (by kernel_rfl) rfl (by kernel_rfl)) (d := 17) (v := (.pointer (some ⟨c, 0, none⟩))) rfl (fun _ H' => (by kernel_rfl)) ?_
 refine Z0C (Zw 2 14 false rfl (by kernel_rfl) rfl (by kernel_rfl)) (d := 18) (v := (.pointer (some ⟨c, 0, none⟩))) rfl (fun _ H' => (by kernel_rfl)) ?_
 refine Z0C (Zw 2 14 false rfl (by kernel_rfl) rfl (by kernel_rfl)) (d := 19) (v := (.pointer (some ⟨c, 2, none⟩))) rfl (fun _ H' => (by kernel_rfl)) ?_
 refine Z0C (Zw 2 14 false rfl (by kernel_rfl) rfl (by kernel_rfl)) (d := 20) (v := (.int .i64 (id))) rfl (fun _ H' => (Zi rfl (by kernel_rfl) (H'.roCell 0 rfl hcl (fun h => h) rfl))) ?_
 refine Z0C (Zw 2 14 false rfl (by kernel_rfl) rfl (by kernel_rfl)) (d := 21) (v := (.bool (!(decide (id = id))))) rfl (fun _ H' => (by kernel_rfl)) ?_
 refine Z0C (Z2 rfl) (d := 22) (v := (.bool (!(decide (id = id))))) rfl (fun _ H' => (by kernel_rfl)) ?_
 refine Z0C (Z2 rfl) (d := 23) (v := (.bool (!(decide (id = id))))) rfl (fun _ H' => (by kernel_rfl)) ?_
 have b13 : (!(decide (id = id))) = false := by rw [decide_eq_true rfl]; rfl
 refine Z3f 23 (.bool false) (congrArg Value.bool b13) ?_
 have g14 := Z09 b13
 have g15 := of_decide_eq_true g14
 refine Z0C (Zw 11 23 false rfl (by kernel_rfl) rfl (by kernel_rfl)) (d := 24) (v := (.pointer (some ⟨g, 0 + ((k : Int)).toNat * 79, none⟩))) rfl (fun _ H' => (by kernel_rfl)) ?_
 refine Z0C (Zw 11 23 false rfl (by kernel_rfl) rfl (by kernel_rfl)) (d := 25) (v := (.pointer (some ⟨g, 0 + ((k : Int)).toNat * 79, none⟩))) rfl (fun _ H' => (by kernel_rfl)) ?_
 refine Z0C (Zw 11 23 false rfl (by kernel_rfl) rfl (by kernel_rfl)) (d := 26) (v := (.pointer (some ⟨g, 0 + ((k : Int)).toNat * 79, none⟩))) rfl (fun _ H' => (by kernel_rfl)) ?_
 refine Z0C (Zw 11 23 false rfl (by kernel_rfl) rfl (by kernel_rfl)) (d := 27) (v := (.pointer (some ⟨g, 0 + ((k : Int)).toNat * 79 + 2, none⟩))) rfl (fun _ H' => (by kernel_rfl)) ?_
 refine Z0C (Zw 11 23 false rfl (by kernel_rfl) rfl (by kernel_rfl)) (d := 28) (v := (.agg ⟨(hc q.x.h)⟩)) rfl (fun _ H' => (Z0P (vs := (hc q.x.h)) rfl (by kernel_rfl) (by kernel_rfl) (Nat.le_of_ble_eq_true (by kernel_rfl)) (Z1u (H'.roCk 0 rfl hrow (fun _ _ h => h)) rfl Z0r hq 2 (show 0 + ((k : Int)).toNat * 79 + 2 = k * 79 + 2 by omega) (by kernel_rfl) (by kernel_rfl)))) ?_
 refine Z0C (Zw 11 23 false rfl (by kernel_rfl) rfl (by kernel_rfl)) (d := 29) (v := (.agg ⟨(hc q.x.h)⟩)) rfl (fun _ H' => (ZE (vs := (hc q.x.h)) rfl (by kernel_rfl) (by kernel_rfl) (by exact Nat.le_of_ble_eq_true (by kernel_rfl)) (H'.at 2 rfl) (by kernel_rfl))) ?_
 refine Z0C (Zw 11 23 false rfl (by kernel_rfl) rfl (by kernel_rfl)) (d := 30) (v := (.bool (!(decide (q.x.h = q.x.h))))) rfl (fun _ H' => (Z77 q.x.h q.x.h rfl rfl)) ?_
 refine Z0C (Z2 rfl) (d := 31) (v := (.bool (!(decide (q.x.h = q.x.h))))) rfl (fun _ H' => (by kernel_rfl)) ?_
 refine Z22 ?_
 intro w16 H17
 refine Z7 ?_
 have b18 : (!(decide (q.x.h = q.x.h))) = false := by rw [decide_eq_true rfl]; rfl
 refine Zy 31 (.bool false) (congrArg Value.bool b18) ?_
 have g19 := Z09 b18
 have g20 := of_decide_eq_true g19
 refine Z0o rfl ?_
 refine ZW ?_
 refine Z7 ?_
 refine Zh ?_
 refine Zs ?_
 refine Z5 (Z2 rfl) (d := 32) (v := (.pointer (some ⟨g, 0 + ((k : Int)).toNat * 79, none⟩))) rfl (by kernel_rfl) ?_
 refine Z5 (Z2 rfl) (d := 6) (v := (.pointer (some ⟨g, 0 + ((k : Int)).toNat * 79, none⟩))) rfl (by kernel_rfl) ?_
 refine Zr ?_
 refine Z7 ?_
 refine ZU ?_
 refine Z0T rfl (ZK (v := (.pointer (some ⟨g, 0 + ((k : Int)).toNat * 79, none⟩))) rfl) ?_
 exact ⟨rfl, H17.upd 0 rfl [] (fun _ h => h.elim)⟩
end Go.Proofs.YtgigjkjdmalmaaaGreat
