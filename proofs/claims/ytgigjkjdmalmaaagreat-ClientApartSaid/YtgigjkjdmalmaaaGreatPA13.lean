/- WHAT IS PROVED: contracts and plain laws of ClA. Conditions: stated with each. -/
import Derived.Test.YtgigjkjdmalmaaaGreatPA12
set_option maxHeartbeats 4000000
set_option maxRecDepth 100000
namespace Go.Proofs.YtgigjkjdmalmaaaGreat
open Go.RowKit
def Z1G (f c : Int) : Bool := decide (1 ≤ f) && decide (f ≤ 21) && decide (1 ≤ c) && decide (c ≤ 100)
theorem Z4b {g g' n c n' c' : Nat} (h : Value.slice (some ⟨g, 0, none⟩) n c = .slice (some ⟨g', 0, none⟩) n' c') : g = g' := by
 simp only [Value.slice.injEq, Option.some.injEq, Addr.mk.injEq] at h; exact h.1.1
theorem Z4J (w : World) (f c : Int) :
  Calls Tryz.prog 27 #[(.agg ⟨([(.int .i64 (f)), (.int .i64 (c))] : List Value)⟩)] w fun e w' => e = .returned (.bool (Z1G f c)) ∧ Upd [] w w' := by
 have H := Sat.start0 w
 refine Zx Tryz.func27 rfl 21 rfl (Nat.le_of_ble_eq_true rfl) ?_
 refine Zg ?_
 refine Zn ?_
 refine ZE (Z1 rfl) (fun K1 hK1 => ?_)
 refine Z0Y (vs := ([(.int .i64 (f)), (.int .i64 (c))] : List Value)) rfl H rfl rfl ?_
 intro b2 w3 (H4 : Sat w [Zb w (fun _ => False), Z5 b2 27 ([(.int .i64 (f)), (.int .i64 (c))] : List Value)] w3)
 refine hK1 _ _ ?_
 clear hK1 K1
 refine Z3 (Z1 rfl) (d := 2) (v := (.bool false)) rfl (by kernel_rfl) ?_
 refine Zm ?_
 refine Z7 ?_
 refine Z0x [2, 3, 4, 5, 6, 7, 8, 9, 10, 11, 12, 13, 14, 15, 16, 17, 18, 19, 20] (fun G_ W_ => G_ 2 = (.bool (Z1G f c)) ∧ Sat w [Zb w (fun _ => False), Z5 b2 27 ([(.int .i64 (f)), (.int .i64 (c))] : List Value)] W_) ?_ ?_
 ·refine Zn ?_
  refine Z3 (Z1 rfl) (d := 3) (v := (.pointer (some ⟨b2, 0, none⟩))) rfl (by kernel_rfl) ?_
  refine Z3 (Z1 rfl) (d := 4) (v := (.int .i64 (f))) rfl (Zj rfl (by kernel_rfl) (H4.cell 1 rfl rfl)) ?_
  refine Z3 (Z1 rfl) (d := 5) (v := (.bool (decide (f ≥ 1)))) rfl (by kernel_rfl) ?_
  refine Z3 (Z1 rfl) (d := 6) (v := (.bool (decide (f ≥ 1)))) rfl (by kernel_rfl) ?_
  refine (Z06 (decide (f ≥ 1))).elim (fun b6 => ?_) (fun b6 => ?_)
  ·have g7 := of_decide_eq_true b6
   refine Z01 6 (.bool true) (congrArg Value.bool b6) ?_
   refine Z3 (Zr 3 6 true rfl (by kernel_rfl) rfl (by kernel_rfl)) (d := 7) (v := (.pointer (some ⟨b2, 0, none⟩))) rfl (by kernel_rfl) ?_
   refine Z3 (Zr 3 6 true rfl (by kernel_rfl) rfl (by kernel_rfl)) (d := 8) (v := (.int .i64 (f))) rfl (Zj rfl (by kernel_rfl) (H4.cell 1 rfl rfl)) ?_
   refine Z3 (Zr 3 6 true rfl (by kernel_rfl) rfl (by kernel_rfl)) (d := 9) (v := (.bool (decide (f ≤ 21)))) rfl (by kernel_rfl) ?_
   refine Z3 (Z1 rfl) (d := 10) (v := (.bool (decide (f ≤ 21)))) rfl (by kernel_rfl) ?_
   refine Z3 (Z1 rfl) (d := 11) (v := (.bool (decide (f ≤ 21)))) rfl (by kernel_rfl) ?_
   refine (Z06 (decide (f ≤ 21))).elim (fun b8 => ?_) (fun b8 => ?_)
   ·have g9 := of_decide_eq_true b8
    refine Z01 11 (.bool true) (congrArg Value.bool b8) ?_
    refine Z3 (Zr 8 11 true rfl (by kernel_rfl) rfl (by kernel_rfl)) (d := 12) (v := (.pointer (some ⟨b2, 1, none⟩))) rfl (by kernel_rfl) ?_
    refine Z3 (Zr 8 11 true rfl (by kernel_rfl) rfl (by kernel_rfl)) (d := 13) (v := (.int .i64 (c))) rfl (Zj rfl (by kernel_rfl) (H4.cell 1 rfl rfl)) ?_
    refine Z3 (Zr 8 11 true rfl (by kernel_rfl) rfl (by kernel_rfl)) (d := 14) (v := (.bool (decide (c ≥ 1)))) rfl (by kernel_rfl) ?_
    refine Z3 (Z1 rfl) (d := 15) (v := (.bool (decide (c ≥ 1)))) rfl (by kernel_rfl) ?_
    refine Z3 (Z1 rfl) (d := 16) (v := (.bool (decide (c ≥ 1)))) rfl (by kernel_rfl) ?_
    refine (Z06 (decide (c ≥ 1))).elim (fun b10 => ?_) (fun b10 => ?_)
    ·have g11 := of_decide_eq_true b10
     refine Z01 16 (.bool true) (congrArg Value.bool b10) ?_
     refine Z3 (Zr 13 16 true rfl (by kernel_rfl) rfl (by kernel_rfl)) (d := 17) (v := (.pointer (some ⟨b2, 1, none⟩))) rfl (by kernel_rfl) ?_
     refine Z3 (Zr 13 16 true rfl (by kernel_rfl) rfl (by kernel_rfl)) (d := 18) (v := (.int .i64 (c))) rfl (Zj rfl (by kernel_rfl) (H4.cell 1 rfl rfl)) ?_
     refine Z3 (Zr 13 16 true rfl (by kernel_rfl) rfl (by kernel_rfl)) (d := 19) (v := (.bool (decide (c ≤ 100)))) rfl (by kernel_rfl) ?_
     refine Z3 (Z1 rfl) (d := 20) (v := (.bool (decide (c ≤ 100)))) rfl (by kernel_rfl) ?_
     refine Z3 (Z1 rfl) (d := 2) (v := (.bool (decide (c ≤ 100)))) rfl (by kernel_rfl) ?_
     refine Zm ?_
     refine ZX ?_ ⟨(congrArg Value.bool (show (decide (c ≤ 100)) = (Z1G f c) by simp [Z1G, b6, b8, b10])), H4⟩
     exact (Z6 rfl (Z6 rfl (Z6 rfl (Z6 rfl (Z6 rfl (Z6 rfl (Z6 rfl (Z6 rfl (Z6 rfl (Z6 rfl (Z6 rfl (Z6 rfl (Z6 rfl (Z6 rfl (Z6 rfl (Z6 rfl (Z6 rfl (Z6 rfl (Z6 rfl (Z6 rfl (Z6 rfl (Z6 rfl (ZV)))))))))))))))))))))))
    ·have g12 := of_decide_eq_false b10
     refine Z01 16 (.bool false) (congrArg Value.bool b10) ?_
     refine ZR (Z03 13 16 true rfl (by kernel_rfl) rfl (by kernel_rfl)) rfl ?_
     refine ZR (Z03 13 16 true rfl (by kernel_rfl) rfl (by kernel_rfl)) rfl ?_
     refine ZR (Z03 13 16 true rfl (by kernel_rfl) rfl (by kernel_rfl)) rfl ?_
     refine Z3 (Z1 rfl) (d := 20) (v := (.bool false)) rfl (by kernel_rfl) ?_
     refine Z3 (Z1 rfl) (d := 2) (v := (.bool false)) rfl (by kernel_rfl) ?_
     refine Zm ?_
     refine ZX ?_ ⟨(congrArg Value.bool (show false = (Z1G f c) by simp [Z1G, b6, b8, b10])), H4⟩
     exact (Z6 rfl (Z6 rfl (Z6 rfl (Z6 rfl (Z6 rfl (Z6 rfl (Z6 rfl (Z6 rfl (Z6 rfl (Z6 rfl (Z6 rfl (Z6 rfl (Z6 rfl (Z6 rfl (Z6 rfl (Z6 rfl (Z6 rfl (Z6 rfl (Z6 rfl (Z6 rfl (Z6 rfl (Z6 rfl (ZV)))))))))))))))))))))))
   ·have g13 := of_decide_eq_false b8
    refine Z01 11 (.bool false) (congrArg Value.bool b8) ?_
    refine ZR (Z03 8 11 true rfl (by kernel_rfl) rfl (by kernel_rfl)) rfl ?_
    refine ZR (Z03 8 11 true rfl (by kernel_rfl) rfl (by kernel_rfl)) rfl ?_
    refine ZR (Z03 8 11 true rfl (by kernel_rfl) rfl (by kernel_rfl)) rfl ?_
    refine Z3 (Z1 rfl) (d := 15) (v := (.bool false)) rfl (by kernel_rfl) ?_
    refine Z3 (Z1 rfl) (d := 16) (v := (.bool false)) rfl (by kernel_rfl) ?_
    refine ZR (Z03 13 16 true rfl (by kernel_rfl) rfl (by kernel_rfl)) rfl ?_
    refine ZR (Z03 13 16 true rfl (by kernel_rfl) rfl (by kernel_rfl)) rfl ?_
    refine ZR (Z03 13 16 true rfl (by kernel_rfl) rfl (by kernel_rfl)) rfl ?_
    refine Z3 (Z1 rfl) (d := 20) (v := (.bool false)) rfl (by kernel_rfl) ?_
    refine Z3 (Z1 rfl) (d := 2) (v := (.bool false)) rfl (by kernel_rfl) ?_
    refine Zm ?_
    refine ZX ?_ ⟨(congrArg Value.bool (show false = (Z1G f c) by simp [Z1G, b6, b8])), H4⟩
    exact (Z6 rfl (Z6 rfl (Z6 rfl (Z6 rfl (Z6 rfl (Z6 rfl (Z6 rfl (Z6 rfl (Z6 rfl (Z6 rfl (Z6 rfl (Z6 rfl (Z6 rfl (Z6 rfl (Z6 rfl (Z6 rfl (Z6 rfl (Z6 rfl (Z6 rfl (Z6 rfl (Z6 rfl (ZV))))))))))))))))))))))
  ·have g14 := of_decide_eq_false b6
   refine Z01 6 (.bool false) (congrArg Value.bool b6) ?_
   refine ZR (Z03 3 6 true rfl (by kernel_rfl) rfl (by kernel_rfl)) rfl ?_
   refine ZR (Z03 3 6 true rfl (by kernel_rfl) rfl (by kernel_rfl)) rfl ?_
   refine ZR (Z03 3 6 true rfl (by kernel_rfl) rfl (by kernel_rfl)) rfl ?_
   refine Z3 (Z1 rfl) (d := 10) (v := (.bool false)) rfl (by kernel_rfl) ?_
   refine Z3 (Z1 rfl) (d := 11) (v := (.bool false)) rfl (by kernel_rfl) ?_
   refine ZR (Z03 8 11 true rfl (by kernel_rfl) rfl (by kernel_rfl)) rfl ?_
   refine ZR (Z03 8 11 true rfl (by kernel_rfl) rfl (by kernel_rfl)) rfl ?_
   refine ZR (Z03 8 11 true rfl (by kernel_rfl) rfl (by kernel_rfl)) rfl ?_
   refine Z3 (Z1 rfl) (d := 15) (v := (.bool false)) rfl (by kernel_rfl) ?_
   refine Z3 (Z1 rfl) (d := 16) (v := (.bool false)) rfl (by kernel_rfl) ?_
   refine ZR (Z03 13 16 true rfl (by kernel_rfl) rfl (by kernel_rfl)) rfl ?_
   refine ZR (Z03 13 16 true rfl (by kernel_rfl) rfl (by kernel_rfl)) rfl ?_
   refine ZR (Z03 13 16 true rfl (by kernel_rfl) rfl (by kernel_rfl)) rfl ?_
   refine Z3 (Z1 rfl) (d := 20) (v := (.bool false)) rfl (by kernel_rfl) ?_
   refine Z3 (Z1 rfl) (d := 2) (v := (.bool false)) rfl (by kernel_rfl) ?_
   refine Zm ?_
   refine ZX ?_ ⟨(congrArg Value.bool (show false = (Z1G f c) by simp [Z1G, b6])), H4⟩
   exact (Z6 rfl (Z6 rfl (Z6 rfl (Z6 rfl (Z6 rfl (Z6 rfl (Z6 rfl (Z6 rfl (Z6 rfl (Z6 rfl (Z6 rfl (Z6 rfl (Z6 rfl (Z6 rfl (Z6 rfl (Z6 rfl (Z6 rfl (Z6 rfl (Z6 rfl (Z6 rfl (ZV)))))))))))))))))))))
 ·rintro f15 w16 ⟨v18, H17⟩
  refine Zs 2 _ v18 ?_
  refine ZW ?_
  refine Z0J rfl (ZI (v := (.bool (Z1G f c))) rfl) ?_
  exact ⟨rfl, H17.upd 0 rfl [] (fun _ h => h.elim)⟩
theorem Z3t (w : World) (F Cn id : Int) (bb : Nat) (hcf : Z1G F Cn = true) (hid : 0 ≤ id ∧ id < Cn) :
  Calls Tryz.prog 11 #[(.agg ⟨([(.int .i64 (F)), (.int .i64 (Cn))] : List Value)⟩), (.int .i64 (id)), (.pointer (some ⟨bb, 0, none⟩))] w fun e w' => ∃ c, e = .returned (.tuple #[.pointer (some ⟨c, 0, none⟩), .int .i64 0]) ∧ (Z5 c 112 [.int .i64 F, .int .i64 Cn, .int .i64 id, .pointer (some ⟨bb, 0, none⟩), .slice none 0 0]).ok w' ∧ Upd [] w w' ∧ ∀ q_, (Z5 c 112 [.int .i64 F, .int .i64 Cn, .int .i64 id, .pointer (some ⟨bb, 0, none⟩), .slice none 0 0]).fp q_ → w.heap.size ≤ q_ := by
 have H := Sat.start0 w
 refine Zx Tryz.func11 rfl 26 rfl (Nat.le_of_ble_eq_true rfl) ?_
 refine Zg ?_
 refine Zn ?_
 refine ZE (Z1 rfl) (fun K1 hK1 => ?_)
 refine Z0Y (vs := ([(.int .i64 (F)), (.int .i64 (Cn))] : List Value)) rfl H rfl rfl ?_
 intro b2 w3 (H4 : Sat w [Zb w (fun _ => False), Z5 b2 27 ([(.int .i64 (F)), (.int .i64 (Cn))] : List Value)] w3)
 refine hK1 _ _ ?_
 clear hK1 K1
 refine Z3 (Z1 rfl) (d := 6) (v := (.pointer none)) rfl (by kernel_rfl) ?_
 refine Z3 (Z1 rfl) (d := 7) (v := (.int .i64 (0))) rfl (by kernel_rfl) ?_
 refine Zm ?_
 refine Z7 ?_
 refine Zg ?_
 refine Zg ?_
 refine Zn ?_
 refine Z3 (Z1 rfl) (d := 8) (v := (.agg ⟨([(.int .i64 (F)), (.int .i64 (Cn))] : List Value)⟩)) rfl (ZJ (vs := ([(.int .i64 (F)), (.int .i64 (Cn))] : List Value)) rfl (by kernel_rfl) (by kernel_rfl) (by exact Nat.le_of_ble_eq_true (by kernel_rfl)) (H4.at 1 rfl) (by kernel_rfl)) ?_
 refine ZE (Z1 rfl) (fun K5 hK5 => ?_)
 refine ZC (d := 9) rfl (by kernel_rfl) (Z4J w3 F Cn) ?_
 rintro _ w6 ⟨rfl, u8⟩
 have H7 := H4.keepU u8
 refine ⟨_, rfl, ?_⟩
 refine hK5 _ _ ?_
 clear hK5 K5
 refine Z3 (Z1 rfl) (d := 10) (v := (.bool (!(Z1G F Cn)))) rfl (by kernel_rfl) ?_
 refine Z3 (Z1 rfl) (d := 11) (v := (.bool (!(Z1G F Cn)))) rfl (by kernel_rfl) ?_
 have b9 : (!(Z1G F Cn)) = false := by rw [hcf]; rfl
 refine Z01 11 (.bool false) (congrArg Value.bool b9) ?_
 have g10 := Z09 b9
 refine Z3 (Zr 3 11 false rfl (by kernel_rfl) rfl (by kernel_rfl)) (d := 12) (v := (.int .i64 (id))) rfl (by kernel_rfl) ?_
 refine Z3 (Zr 3 11 false rfl (by kernel_rfl) rfl (by kernel_rfl)) (d := 13) (v := (.bool (decide (id < 0)))) rfl (by kernel_rfl) ?_
 refine Z3 (Z1 rfl) (d := 14) (v := (.bool (decide (id < 0)))) rfl (by kernel_rfl) ?_
 refine Z3 (Z1 rfl) (d := 15) (v := (.bool (decide (id < 0)))) rfl (by kernel_rfl) ?_
 have b11 : (decide (id < 0)) = false := by exact decide_eq_false (by omega)
 refine Z01 15 (.bool false) (congrArg Value.bool b11) ?_
 have g12 := of_decide_eq_false b11
 refine Z3 (Zr 7 15 false rfl (by kernel_rfl) rfl (by kernel_rfl)) (d := 16) (v := (.int .i64 (id))) rfl (by kernel_rfl) ?_
 refine Z3 (Zr 7 15 false rfl (by kernel_rfl) rfl (by kernel_rfl)) (d := 17) (v := (.pointer (some ⟨b2, 1, none⟩))) rfl (by kernel_rfl) ?_
 refine Z3 (Zr 7 15 false rfl (by kernel_rfl) rfl (by kernel_rfl)) (d := 18) (v := (.int .i64 (Cn))) rfl (Zj rfl (by kernel_rfl) (H7.cell 1 rfl rfl)) ?_
 refine Z3 (Zr 7 15 false rfl (by kernel_rfl) rfl (by kernel_rfl)) (d := 19) (v := (.bool (decide (id ≥ Cn)))) rfl (by kernel_rfl) ?_
 refine Z3 (Z1 rfl) (d := 20) (v := (.bool (decide (id ≥ Cn)))) rfl (by kernel_rfl) ?_
 refine Zm ?_
 refine Z7 ?_
 have b13 : (decide (id ≥ Cn)) = false := by exact decide_eq_false (by omega)
 refine Zs 20 (.bool false) (congrArg Value.bool b13) ?_
 have g14 := of_decide_eq_false b13
 refine ZY rfl ?_
 refine ZN ?_
 refine Z7 ?_
 refine Zg ?_
 refine Zn ?_
 refine Z3 (Z1 rfl) (d := 21) (v := (.agg ⟨([(.int .i64 (F)), (.int .i64 (Cn))] : List Value)⟩)) rfl (ZJ (vs := ([(.int .i64 (F)), (.int .i64 (Cn))] : List Value)) rfl (by kernel_rfl) (by kernel_rfl) (by exact Nat.le_of_ble_eq_true (by kernel_rfl)) (H7.at 1 rfl) (by kernel_rfl)) ?_
 refine Z3 (Z1 rfl) (d := 22) (v := (.int .i64 (id))) rfl (by kernel_rfl) ?_
 refine Z3 (Z1 rfl) (d := 23) (v := (.pointer (some ⟨bb, 0, none⟩))) rfl (by kernel_rfl) ?_
 refine Z3 (Z1 rfl) (d := 24) (v := (.agg ⟨([(.int .i64 (F)), (.int .i64 (Cn)), (.int .i64 (id)), (.pointer (some ⟨bb, 0, none⟩)), (.slice none 0 0)] : List Value)⟩)) rfl (by kernel_rfl) ?_
 refine ZE (Z1 rfl) (fun K15 hK15 => ?_)
 refine Z0Y (vs := ([(.int .i64 (F)), (.int .i64 (Cn)), (.int .i64 (id)), (.pointer (some ⟨bb, 0, none⟩)), (.slice none 0 0)] : List Value)) rfl H7 rfl rfl ?_
 intro b16 w17 (H18 : Sat w [Zb w (fun _ => False), Z5 b2 27 ([(.int .i64 (F)), (.int .i64 (Cn))] : List Value), Z5 b16 112 ([(.int .i64 (F)), (.int .i64 (Cn)), (.int .i64 (id)), (.pointer (some ⟨bb, 0, none⟩)), (.slice none 0 0)] : List Value)] w17)
 refine hK15 _ _ ?_
 clear hK15 K15
 refine Z3 (Z1 rfl) (d := 6) (v := (.pointer (some ⟨b16, 0, none⟩))) rfl (by kernel_rfl) ?_
 refine Z3 (Z1 rfl) (d := 7) (v := (.int .i64 (0))) rfl (by kernel_rfl) ?_
 refine Zm ?_
 refine Z7 ?_
 refine ZW ?_
 refine Z6v rfl (ZI (v := (.pointer (some ⟨b16, 0, none⟩))) rfl) (ZI (v := (.int .i64 (0))) rfl) ?_
 exact ⟨b16, rfl, H18.at 2 rfl, H18.upd 0 rfl [] (fun _ h => h.elim), H18.fresh 0 rfl (fun _ h => h) 2 rfl rfl⟩
theorem Z12 (w : World) (c bb g lc : Nat) (F Cn id : Int) (Q : List Zl) (hcl : (Z5 c 112 [.int .i64 F, .int .i64 Cn, .int .i64 id, .pointer (some ⟨bb, 0, none⟩), .slice (some ⟨g, 0, none⟩) Q.length lc]).ok w) (hrow : (Zd 119 79 (.slice (some ⟨g, 0, none⟩) Q.length lc) Q.length (Q.flatMap Zf)).ok w) (hlQ : Q.length ≤ 64) (k : Nat) (q : Zl) (hq : Q[k]? = some q) (sq : Int) (hsq : sq = (k : Int) + 1) :
  Calls Tryz.prog 41 #[(.pointer (some ⟨c, 0, none⟩)), (.int .i64 (sq))] w fun e w' => e = .returned (.pointer (some ⟨g, 0 + ((k : Int)).toNat * 79, none⟩)) ∧ Upd [] w w' := by
 have H := Sat.start0 w
 have hkl : k < Q.length := (List.getElem?_eq_some_iff.1 hq).1
 refine Zx Tryz.func41 rfl 23 rfl (Nat.le_of_ble_eq_true rfl) ?_
 refine Zg ?_
 refine Zn ?_
 refine Z3 (Z1 rfl) (d := 4) (v := (.pointer none)) rfl (by kernel_rfl) ?_
 refine Zm ?_
 refine Z7 ?_
 refine Zg ?_
 refine Zg ?_
 refine Zn ?_
 refine Z3 (Z1 rfl) (d := 5) (v := (.int .i64 (sq))) rfl (by kernel_rfl) ?_
 refine Z3 (Z1 rfl) (d := 6) (v := (.bool (decide (sq < 1)))) rfl (by kernel_rfl) ?_
 refine Z3 (Z1 rfl) (d := 7) (v := (.bool (decide (sq < 1)))) rfl (by kernel_rfl) ?_
 have b1 : (decide (sq < 1)) = false := by exact decide_eq_false (by omega)
 refine Z01 7 (.bool false) (congrArg Value.bool b1) ?_
 have g2 := of_decide_eq_false b1
 refine Z3 (Zr 2 7 false rfl (by kernel_rfl) rfl (by kernel_rfl)) (d := 8) (v := (.int .i64 (sq))) rfl (by kernel_rfl) ?_
 refine Z3 (Zr 2 7 false rfl (by kernel_rfl) rfl (by kernel_rfl)) (d := 9) (v := (.pointer (some ⟨c, 0, none⟩))) rfl (by kernel_rfl) ?_
 refine Z3 (Zr 2 7 false rfl (by kernel_rfl) rfl (by kernel_rfl)) (d := 10) (v := (.pointer (some ⟨c, 0, none⟩))) rfl (by kernel_rfl) ?_
 refine Z3 (Zr 2 7 false rfl (by kernel_rfl) rfl (by kernel_rfl)) (d := 11) (v := (.pointer (some ⟨c, 4, none⟩))) rfl (by kernel_rfl) ?_
 refine Z3 (Zr 2 7 false rfl (by kernel_rfl) rfl (by kernel_rfl)) (d := 12) (v := (.slice (some ⟨g, 0, none⟩) Q.length lc)) rfl (Zj rfl (by kernel_rfl) (H.roCell 0 rfl hcl (fun h => h) rfl)) ?_
 refine Z3 (Zr 2 7 false rfl (by kernel_rfl) rfl (by kernel_rfl)) (d := 13) (v := (.int .i64 ((Q.length : Int)))) rfl (by kernel_rfl) ?_
 refine Z3 (Zr 2 7 false rfl (by kernel_rfl) rfl (by kernel_rfl)) (d := 14) (v := (.bool (decide (sq > (Q.length : Int))))) rfl (by kernel_rfl) ?_
 refine Z3 (Z1 rfl) (d := 15) (v := (.bool (decide (sq > (Q.length : Int))))) rfl (by kernel_rfl) ?_
 refine Zm ?_
 refine Z7 ?_
 have b3 : (decide (sq > (Q.length : Int))) = false := by exact decide_eq_false (by omega)
 refine Zs 15 (.bool false) (congrArg Value.bool b3) ?_
 have g4 := of_decide_eq_false b3
 refine ZY rfl ?_
 refine ZN ?_
 refine Z7 ?_
 refine Zg ?_
 refine Zn ?_
 refine Z3 (Z1 rfl) (d := 16) (v := (.pointer (some ⟨c, 0, none⟩))) rfl (by kernel_rfl) ?_
 refine Z3 (Z1 rfl) (d := 17) (v := (.pointer (some ⟨c, 0, none⟩))) rfl (by kernel_rfl) ?_
 refine Z3 (Z1 rfl) (d := 18) (v := (.pointer (some ⟨c, 4, none⟩))) rfl (by kernel_rfl) ?_
 refine Z3 (Z1 rfl) (d := 19) (v := (.slice (some ⟨g, 0, none⟩) Q.length lc)) rfl (Zj rfl (by kernel_rfl) (H.roCell 0 rfl hcl (fun h => h) rfl)) ?_
 refine Z3 (Z1 rfl) (d := 20) (v := (.int .i64 (sq))) rfl (by kernel_rfl) ?_
 refine Z3 (Z1 rfl) (d := 21) (v := (.int .i64 (sq - 1))) rfl (Z05 (z := sq - 1) (by kernel_rfl) (IntWalk.i64_in _ (by omega))) ?_
 obtain ⟨g5, c6, e7⟩ := Z1h hrow (by omega)
 obtain ⟨x8, h9⟩ := Z6n (show (sq - 1).toNat < Q.length by omega)
 refine Z3 (Z1 rfl) (d := 22) (v := (.pointer (some ⟨g5, 0 + (sq - 1).toNat * 79, none⟩))) rfl (Z2f (E := 119) (by kernel_rfl) (by kernel_rfl) (Nat.le_of_ble_eq_true rfl) rfl e7 rfl (by omega) (by omega)) ?_
 refine Z3 (Z1 rfl) (d := 4) (v := (.pointer (some ⟨g5, 0 + (sq - 1).toNat * 79, none⟩))) rfl (by kernel_rfl) ?_
 refine Zm ?_
 refine Z7 ?_
 refine ZW ?_
 refine Z0J rfl (ZI (v := (.pointer (some ⟨g5, 0 + (sq - 1).toNat * 79, none⟩))) rfl) ?_
 obtain rfl : g = g5 := by have q_ := Z4b e7; exact q_
 exact ⟨by rw [show sq - 1 = (k : Int) by omega], H.upd 0 rfl [] (fun _ h => h.elim)⟩
theorem Z3V (w : World) (c bb g lc : Nat) (F Cn id : Int) (Q : List Zl) (hcl : (Z5 c 112 [.int .i64 F, .int .i64 Cn, .int .i64 id, .pointer (some ⟨bb, 0, none⟩), .slice (some ⟨g, 0, none⟩) Q.length lc]).ok w) (hrow : (Zd 119 79 (.slice (some ⟨g, 0, none⟩) Q.length lc) Q.length (Q.flatMap Zf)).ok w) (hlQ : Q.length ≤ 64) (k : Nat) (q : Zl) (hq : Q[k]? = some q) (sq : Int) (hsq : sq = (k : Int) + 1) :
  Calls Tryz.prog 56 #[(.pointer (some ⟨c, 0, none⟩)), (.agg ⟨([(.int .i64 (id)), (.int .i64 (sq))] : List Value)⟩), (.agg ⟨(hc q.x.h)⟩)] w fun e w' => e = .returned (.pointer (some ⟨g, 0 + ((k : Int)).toNat * 79, none⟩)) ∧ Upd [] w w' := by
 have H := Sat.start0 w
 have hkl : k < Q.length := (List.getElem?_eq_some_iff.1 hq).1
 refine Zx Tryz.func56 rfl 33 rfl (Nat.le_of_ble_eq_true rfl) ?_
 refine Zg ?_
 refine Zn ?_
 refine ZE (Z1 rfl) (fun K1 hK1 => ?_)
 refine Z0Y (vs := ([(.int .i64 (id)), (.int .i64 (sq))] : List Value)) rfl H rfl rfl ?_
 intro b2 w3 (H4 : Sat w [Zb w (fun _ => False), Z5 b2 43 ([(.int .i64 (id)), (.int .i64 (sq))] : List Value)] w3)
 refine hK1 _ _ ?_
 clear hK1 K1
 refine ZE (Z1 rfl) (fun K5 hK5 => ?_)
 refine Z0Y (vs := (hc q.x.h)) rfl H4 rfl rfl ?_
 intro b6 w7 (H8 : Sat w [Zb w (fun _ => False), Z5 b2 43 ([(.int .i64 (id)), (.int .i64 (sq))] : List Value), Z5 b6 40 (hc q.x.h)] w7)
 refine hK5 _ _ ?_
 clear hK5 K5
 refine Z3 (Z1 rfl) (d := 6) (v := (.pointer none)) rfl (by kernel_rfl) ?_
 refine Zm ?_
 refine Z7 ?_
 refine Zg ?_
 refine Zn ?_
 refine Z3 (Z1 rfl) (d := 8) (v := (.pointer (some ⟨c, 0, none⟩))) rfl (by kernel_rfl) ?_
 refine Z3 (Z1 rfl) (d := 9) (v := (.pointer (some ⟨b2, 1, none⟩))) rfl (by kernel_rfl) ?_
 refine Z3 (Z1 rfl) (d := 10) (v := (.int .i64 (sq))) rfl (Zj rfl (by kernel_rfl) (H8.cell 1 rfl rfl)) ?_
 refine ZE (Z1 rfl) (fun K9 hK9 => ?_)
 refine ZC (d := 11) rfl (by kernel_rfl) (Z12 w7 c bb g lc F Cn id Q (H8.roCk 0 rfl hcl (fun _ _ h => h)) (H8.roCk 0 rfl hrow (fun _ _ h => h)) hlQ k q hq sq (by omega)) ?_
 rintro _ w10 ⟨rfl, u12⟩
 have H11 := H8.keepU u12
 refine ⟨_, rfl, ?_⟩
 refine hK9 _ _ ?_
 clear hK9 K9
 refine Z3 (Z1 rfl) (d := 7) (v := (.pointer (some ⟨g, 0 + ((k : Int)).toNat * 79, none⟩))) rfl (by kernel_rfl) ?_
 refine Zm ?_
 refine Z7 ?_
 refine Zg ?_
 refine Zg ?_
 refine Z1s H11 (by kernel_rfl) (by kernel_rfl) ?_
 refine ZO (Z1 rfl) (d := 12) (v := (.pointer (some ⟨g, 0 + ((k : Int)).toNat * 79, none⟩))) rfl (fun _ H' => (by kernel_rfl)) ?_
 refine ZO (Z1 rfl) (d := 13) (v := (.bool false)) rfl (fun _ H' => (by kernel_rfl)) ?_
 refine ZO (Z1 rfl) (d := 14) (v := (.bool false)) rfl (fun _ H' => (by kernel_rfl)) ?_
 refine ZO (Zr 2 14 false rfl (by kernel_rfl) rfl (by kernel_rfl)) (d := 15) (v := (.pointer (some ⟨b2, 0, none⟩))) rfl (fun _ H' => (by kernel_rfl)) ?_
 refine ZO (Zr 2 14 false rfl (by kernel_rfl) rfl (by kernel_rfl)) (d := 16) (v := (.int .i64 (id))) rfl (fun _ H' => (Zj rfl (by kernel_rfl) (H'.cell 1 rfl rfl))) ?_
 refine ZO (Zr 2 14 false rfl (by kernel_rfl) rfl (by kernel_rfl)) (d := 17) (v := (.pointer (some ⟨c, 0, none⟩))) rfl (fun _ H' => (by kernel_rfl)) ?_
 refine ZO (Zr 2 14 false rfl (by kernel_rfl) rfl (by kernel_rfl)) (d := 18) (v := (.pointer (some ⟨c, 0, none⟩))) rfl (fun _ H' => (by kernel_rfl)) ?_
 refine ZO (Zr 2 14 false rfl (by kernel_rfl) rfl (by kernel_rfl)) (d := 19) (v := (.pointer (some ⟨c, 2, none⟩))) rfl (fun _ H' => (by kernel_rfl)) ?_
 refine ZO (Zr 2 14 false rfl (by kernel_rfl) rfl (by kernel_rfl)) (d := 20) (v := (.int .i64 (id))) rfl (fun _ H' => (Zj rfl (by kernel_rfl) (H'.roCell 0 rfl hcl (fun h => h) rfl))) ?_
 refine ZO (Zr 2 14 false rfl (by kernel_rfl) rfl (by kernel_rfl)) (d := 21) (v := (.bool (!(decide (id = id))))) rfl (fun _ H' => (by kernel_rfl)) ?_
 refine ZO (Z1 rfl) (d := 22) (v := (.bool (!(decide (id = id))))) rfl (fun _ H' => (by kernel_rfl)) ?_
 refine ZO (Z1 rfl) (d := 23) (v := (.bool (!(decide (id = id))))) rfl (fun _ H' => (by kernel_rfl)) ?_
 have b13 : (!(decide (id = id))) = false := by rw [decide_eq_true rfl]; rfl
 refine Z5l 23 (.bool false) (congrArg Value.bool b13) ?_
 have g14 := Z09 b13
 have g15 := of_decide_eq_true g14
 refine ZO (Zr 11 23 false rfl (by kernel_rfl) rfl (by kernel_rfl)) (d := 24) (v := (.pointer (some ⟨g, 0 + ((k : Int)).toNat * 79, none⟩))) rfl (fun _ H' => (by kernel_rfl)) ?_
 refine ZO (Zr 11 23 false rfl (by kernel_rfl) rfl (by kernel_rfl)) (d := 25) (v := (.pointer (some ⟨g, 0 + ((k : Int)).toNat * 79, none⟩))) rfl (fun _ H' => (by kernel_rfl)) ?_
 refine ZO (Zr 11 23 false rfl (by kernel_rfl) rfl (by kernel_rfl)) (d := 26) (v := (.pointer (some ⟨g, 0 + ((k : Int)).toNat * 79, none⟩))) rfl (fun _ H' => (by kernel_rfl)) ?_
 refine ZO (Zr 11 23 false rfl (by kernel_rfl) rfl (by kernel_rfl)) (d := 27) (v := (.pointer (some ⟨g, 0 + ((k : Int)).toNat * 79 + 2, none⟩))) rfl (fun _ H' => (by kernel_rfl)) ?_
 refine ZO (Zr 11 23 false rfl (by kernel_rfl) rfl (by kernel_rfl)) (d := 28) (v := (.agg ⟨(hc q.x.h)⟩)) rfl (fun _ H' => (Z0D (vs := (hc q.x.h)) rfl (by kernel_rfl) (by kernel_rfl) (Nat.le_of_ble_eq_true (by kernel_rfl)) (Z1c (H'.roCk 0 rfl hrow (fun _ _ h => h)) rfl ZK hq 2 (show 0 + ((k : Int)).toNat * 79 + 2 = k * 79 + 2 by omega) (by kernel_rfl) (by kernel_rfl)))) ?_
 refine ZO (Zr 11 23 false rfl (by kernel_rfl) rfl (by kernel_rfl)) (d := 29) (v := (.agg ⟨(hc q.x.h)⟩)) rfl (fun _ H' => (ZJ (vs := (hc q.x.h)) rfl (by kernel_rfl) (by kernel_rfl) (by exact Nat.le_of_ble_eq_true (by kernel_rfl)) (H'.at 2 rfl) (by kernel_rfl))) ?_
 refine ZO (Zr 11 23 false rfl (by kernel_rfl) rfl (by kernel_rfl)) (d := 30) (v := (.bool (!(decide (q.x.h = q.x.h))))) rfl (fun _ H' => (Z5I q.x.h q.x.h rfl rfl)) ?_
 refine ZO (Z1 rfl) (d := 31) (v := (.bool (!(decide (q.x.h = q.x.h))))) rfl (fun _ H' => (by kernel_rfl)) ?_
 refine Z1Q ?_
 intro w16 H17
 refine Z7 ?_
 have b18 : (!(decide (q.x.h = q.x.h))) = false := by rw [decide_eq_true rfl]; rfl
 refine Zs 31 (.bool false) (congrArg Value.bool b18) ?_
 have g19 := Z09 b18
 have g20 := of_decide_eq_true g19
 refine ZY rfl ?_
 refine ZN ?_
 refine Z7 ?_
 refine Zg ?_
 refine Zn ?_
 refine Z3 (Z1 rfl) (d := 32) (v := (.pointer (some ⟨g, 0 + ((k : Int)).toNat * 79, none⟩))) rfl (by kernel_rfl) ?_
 refine Z3 (Z1 rfl) (d := 6) (v := (.pointer (some ⟨g, 0 + ((k : Int)).toNat * 79, none⟩))) rfl (by kernel_rfl) ?_
 refine Zm ?_
 refine Z7 ?_
 refine ZW ?_
 refine Z0J rfl (ZI (v := (.pointer (some ⟨g, 0 + ((k : Int)).toNat * 79, none⟩))) rfl) ?_
 exact ⟨rfl, H17.upd 0 rfl [] (fun _ h => h.elim)⟩
theorem Z1K (w : World) (c bb g lc : Nat) (F Cn id : Int) (Q : List Zl) (hcl : (Z5 c 112 [.int .i64 F, .int .i64 Cn, .int .i64 id, .pointer (some ⟨bb, 0, none⟩), .slice (some ⟨g, 0, none⟩) Q.length lc]).ok w) (hrow : (Zd 119 79 (.slice (some ⟨g, 0, none⟩) Q.length lc) Q.length (Q.flatMap Zf)).ok w) (hlQ : Q.length ≤ 64) (k : Nat) (q : Zl) (hq : Q[k]? = some q) (sq : Int) (hsq : sq = (k : Int) + 1) :
  Calls Tryz.prog 24 #[(.pointer (some ⟨c, 0, none⟩)), (.int .i64 (sq))] w fun e w' => e = .returned (.tuple #[.int .i64 q.pl, .bool q.op]) ∧ Upd [] w w' := by
 have H := Sat.start0 w
 have hkl : k < Q.length := (List.getElem?_eq_some_iff.1 hq).1
 refine Zx Tryz.func24 rfl 20 rfl (Nat.le_of_ble_eq_true rfl) ?_
 refine Zg ?_
 refine Zn ?_
 refine Z3 (Z1 rfl) (d := 4) (v := (.int .i64 (0))) rfl (by kernel_rfl) ?_
 refine Z3 (Z1 rfl) (d := 5) (v := (.bool false)) rfl (by kernel_rfl) ?_
 refine Zm ?_
 refine Z7 ?_
 refine Zg ?_
 refine Zn ?_
 refine Z3 (Z1 rfl) (d := 7) (v := (.pointer (some ⟨c, 0, none⟩))) rfl (by kernel_rfl) ?_
 refine Z3 (Z1 rfl) (d := 8) (v := (.int .i64 (sq))) rfl (by kernel_rfl) ?_
 refine ZE (Z1 rfl) (fun K1 hK1 => ?_)
 refine ZC (d := 9) rfl (by kernel_rfl) (Z12 w c bb g lc F Cn id Q (H.roCk 0 rfl hcl (fun _ _ h => h)) (H.roCk 0 rfl hrow (fun _ _ h => h)) hlQ k q hq sq (by omega)) ?_
 rintro _ w2 ⟨rfl, u4⟩
 have H3 := H.keepU u4
 refine ⟨_, rfl, ?_⟩
 refine hK1 _ _ ?_
 clear hK1 K1
 refine Z3 (Z1 rfl) (d := 6) (v := (.pointer (some ⟨g, 0 + ((k : Int)).toNat * 79, none⟩))) rfl (by kernel_rfl) ?_
 refine Zm ?_
 refine Z7 ?_
 refine Zg ?_
 refine Zg ?_
 refine Zn ?_
 refine Z3 (Z1 rfl) (d := 10) (v := (.pointer (some ⟨g, 0 + ((k : Int)).toNat * 79, none⟩))) rfl (by kernel_rfl) ?_
 refine Z3 (Z1 rfl) (d := 11) (v := (.bool false)) rfl (by kernel_rfl) ?_
 refine Zm ?_
 refine Z7 ?_
 refine ZY rfl ?_
 refine ZN ?_
 refine Z7 ?_
 refine Zg ?_
 refine Z1s H3 (by kernel_rfl) (by kernel_rfl) ?_
 refine ZO (Z1 rfl) (d := 12) (v := (.pointer (some ⟨g, 0 + ((k : Int)).toNat * 79, none⟩))) rfl (fun _ H' => (by kernel_rfl)) ?_
 refine ZO (Z1 rfl) (d := 13) (v := (.pointer (some ⟨g, 0 + ((k : Int)).toNat * 79, none⟩))) rfl (fun _ H' => (by kernel_rfl)) ?_
 refine ZO (Z1 rfl) (d := 14) (v := (.pointer (some ⟨g, 0 + ((k : Int)).toNat * 79 + 75, none⟩))) rfl (fun _ H' => (by kernel_rfl)) ?_
 refine ZO (Z1 rfl) (d := 15) (v := (.int .i64 (q.pl))) rfl (fun _ H' => (Zj rfl (by kernel_rfl) (Z00 (H'.roCk 0 rfl hrow (fun _ _ h => h)) rfl ZK hq 75 rfl (show 0 + ((k : Int)).toNat * 79 + 75 = k * 79 + 75 by omega) (by kernel_rfl)))) ?_
 refine ZO (Z1 rfl) (d := 16) (v := (.pointer (some ⟨g, 0 + ((k : Int)).toNat * 79, none⟩))) rfl (fun _ H' => (by kernel_rfl)) ?_
 refine ZO (Z1 rfl) (d := 17) (v := (.pointer (some ⟨g, 0 + ((k : Int)).toNat * 79, none⟩))) rfl (fun _ H' => (by kernel_rfl)) ?_
 refine ZO (Z1 rfl) (d := 18) (v := (.pointer (some ⟨g, 0 + ((k : Int)).toNat * 79 + 74, none⟩))) rfl (fun _ H' => (by kernel_rfl)) ?_
 refine ZO (Z1 rfl) (d := 19) (v := (.bool (q.op))) rfl (fun _ H' => (Zj rfl (by kernel_rfl) (Z00 (H'.roCk 0 rfl hrow (fun _ _ h => h)) rfl ZK hq 74 rfl (show 0 + ((k : Int)).toNat * 79 + 74 = k * 79 + 74 by omega) (by kernel_rfl)))) ?_
 refine ZO (Z1 rfl) (d := 4) (v := (.int .i64 (q.pl))) rfl (fun _ H' => (by kernel_rfl)) ?_
 refine ZO (Z1 rfl) (d := 5) (v := (.bool (q.op))) rfl (fun _ H' => (by kernel_rfl)) ?_
 refine Z1Q ?_
 intro w5 H6
 refine Z7 ?_
 refine ZW ?_
 refine Z6v rfl (ZI (v := (.int .i64 (q.pl))) rfl) (ZI (v := (.bool (q.op))) rfl) ?_
 exact ⟨rfl, H6.upd 0 rfl [] (fun _ h => h.elim)⟩
theorem Z1o (w : World) (c bb g lc : Nat) (F Cn id : Int) (Q : List Zl) (hcl : (Z5 c 112 [.int .i64 F, .int .i64 Cn, .int .i64 id, .pointer (some ⟨bb, 0, none⟩), .slice (some ⟨g, 0, none⟩) Q.length lc]).ok w) (hrow : (Zd 119 79 (.slice (some ⟨g, 0, none⟩) Q.length lc) Q.length (Q.flatMap Zf)).ok w) (hlQ : Q.length ≤ 64) (k : Nat) (q : Zl) (hq : Q[k]? = some q) (sq : Int) (hsq : sq = (k : Int) + 1) :
  Calls Tryz.prog 25 #[(.pointer (some ⟨c, 0, none⟩)), (.int .i64 (sq))] w fun e w' => e = .returned (.bool q.op) ∧ Upd [] w w' := by
 have H := Sat.start0 w
 have hkl : k < Q.length := (List.getElem?_eq_some_iff.1 hq).1
 refine Zx Tryz.func25 rfl 17 rfl (Nat.le_of_ble_eq_true rfl) ?_
 refine Zg ?_
 refine Zn ?_
 refine Z3 (Z1 rfl) (d := 4) (v := (.bool false)) rfl (by kernel_rfl) ?_
 refine Zm ?_
 refine Z7 ?_
 refine Zg ?_
 refine Zn ?_
 refine Z3 (Z1 rfl) (d := 6) (v := (.pointer (some ⟨c, 0, none⟩))) rfl (by kernel_rfl) ?_
 refine Z3 (Z1 rfl) (d := 7) (v := (.int .i64 (sq))) rfl (by kernel_rfl) ?_
 refine ZE (Z1 rfl) (fun K1 hK1 => ?_)
 refine ZC (d := 8) rfl (by kernel_rfl) (Z12 w c bb g lc F Cn id Q (H.roCk 0 rfl hcl (fun _ _ h => h)) (H.roCk 0 rfl hrow (fun _ _ h => h)) hlQ k q hq sq (by omega)) ?_
 rintro _ w2 ⟨rfl, u4⟩
 have H3 := H.keepU u4
 refine ⟨_, rfl, ?_⟩
 refine hK1 _ _ ?_
 clear hK1 K1
 refine Z3 (Z1 rfl) (d := 5) (v := (.pointer (some ⟨g, 0 + ((k : Int)).toNat * 79, none⟩))) rfl (by kernel_rfl) ?_
 refine Zm ?_
 refine Z7 ?_
 refine Zg ?_
 refine Zn ?_
 refine Z3 (Z1 rfl) (d := 9) (v := (.pointer (some ⟨g, 0 + ((k : Int)).toNat * 79, none⟩))) rfl (by kernel_rfl) ?_
 refine Z3 (Z1 rfl) (d := 10) (v := (.bool true)) rfl (by kernel_rfl) ?_
 refine Z3 (Z1 rfl) (d := 11) (v := (.bool true)) rfl (by kernel_rfl) ?_
 refine Z3 (Zr 2 11 true rfl (by kernel_rfl) rfl (by kernel_rfl)) (d := 12) (v := (.pointer (some ⟨g, 0 + ((k : Int)).toNat * 79, none⟩))) rfl (by kernel_rfl) ?_
 refine Z3 (Zr 2 11 true rfl (by kernel_rfl) rfl (by kernel_rfl)) (d := 13) (v := (.pointer (some ⟨g, 0 + ((k : Int)).toNat * 79, none⟩))) rfl (by kernel_rfl) ?_
 refine Z3 (Zr 2 11 true rfl (by kernel_rfl) rfl (by kernel_rfl)) (d := 14) (v := (.pointer (some ⟨g, 0 + ((k : Int)).toNat * 79 + 74, none⟩))) rfl (by kernel_rfl) ?_
 refine Z3 (Zr 2 11 true rfl (by kernel_rfl) rfl (by kernel_rfl)) (d := 15) (v := (.bool (q.op))) rfl (Zj rfl (by kernel_rfl) (Z00 (H3.roCk 0 rfl hrow (fun _ _ h => h)) rfl ZK hq 74 rfl (show 0 + ((k : Int)).toNat * 79 + 74 = k * 79 + 74 by omega) (by kernel_rfl))) ?_
 refine Z3 (Z1 rfl) (d := 16) (v := (.bool (q.op))) rfl (by kernel_rfl) ?_
 refine Z3 (Z1 rfl) (d := 4) (v := (.bool (q.op))) rfl (by kernel_rfl) ?_
 refine Zm ?_
 refine Z7 ?_
 refine ZW ?_
 refine Z0J rfl (ZI (v := (.bool (q.op))) rfl) ?_
 exact ⟨rfl, H3.upd 0 rfl [] (fun _ h => h.elim)⟩
theorem Z1L (w : World) (c bb g lc : Nat) (F Cn id : Int) (Q : List Zl) (hcl : (Z5 c 112 [.int .i64 F, .int .i64 Cn, .int .i64 id, .pointer (some ⟨bb, 0, none⟩), .slice (some ⟨g, 0, none⟩) Q.length lc]).ok w) (hrow : (Zd 119 79 (.slice (some ⟨g, 0, none⟩) Q.length lc) Q.length (Q.flatMap Zf)).ok w) (hlQ : Q.length ≤ 64) (k : Nat) (q : Zl) (hq : Q[k]? = some q) (sq : Int) (hsq : sq = (k : Int) + 1) :
  Calls Tryz.prog 26 #[(.pointer (some ⟨c, 0, none⟩)), (.int .i64 (sq))] w fun e w' => e = .returned (.tuple #[Zu q.rp, .bool q.dn]) ∧ Upd [] w w' := by
 have H := Sat.start0 w
 have hkl : k < Q.length := (List.getElem?_eq_some_iff.1 hq).1
 refine Zx Tryz.func26 rfl 20 rfl (Nat.le_of_ble_eq_true rfl) ?_
 refine Zg ?_
 refine Zn ?_
 refine Z3 (Z1 rfl) (d := 4) (v := (Zu ([] : List UInt8))) rfl (by kernel_rfl) ?_
 refine Z3 (Z1 rfl) (d := 5) (v := (.bool false)) rfl (by kernel_rfl) ?_
 refine Zm ?_
 refine Z7 ?_
 refine Zg ?_
 refine Zn ?_
 refine Z3 (Z1 rfl) (d := 7) (v := (.pointer (some ⟨c, 0, none⟩))) rfl (by kernel_rfl) ?_
 refine Z3 (Z1 rfl) (d := 8) (v := (.int .i64 (sq))) rfl (by kernel_rfl) ?_
 refine ZE (Z1 rfl) (fun K1 hK1 => ?_)
 refine ZC (d := 9) rfl (by kernel_rfl) (Z12 w c bb g lc F Cn id Q (H.roCk 0 rfl hcl (fun _ _ h => h)) (H.roCk 0 rfl hrow (fun _ _ h => h)) hlQ k q hq sq (by omega)) ?_
 rintro _ w2 ⟨rfl, u4⟩
 have H3 := H.keepU u4
 refine ⟨_, rfl, ?_⟩
 refine hK1 _ _ ?_
 clear hK1 K1
 refine Z3 (Z1 rfl) (d := 6) (v := (.pointer (some ⟨g, 0 + ((k : Int)).toNat * 79, none⟩))) rfl (by kernel_rfl) ?_
 refine Zm ?_
 refine Z7 ?_
 refine Zg ?_
 refine Zg ?_
 refine Zn ?_
 refine Z3 (Z1 rfl) (d := 10) (v := (.pointer (some ⟨g, 0 + ((k : Int)).toNat * 79, none⟩))) rfl (by kernel_rfl) ?_
 refine Z3 (Z1 rfl) (d := 11) (v := (.bool false)) rfl (by kernel_rfl) ?_
 refine Zm ?_
 refine Z7 ?_
 refine ZY rfl ?_
 refine ZN ?_
 refine Z7 ?_
 refine Zg ?_
 refine Z1s H3 (by kernel_rfl) (by kernel_rfl) ?_
 refine ZO (Z1 rfl) (d := 12) (v := (.pointer (some ⟨g, 0 + ((k : Int)).toNat * 79, none⟩))) rfl (fun _ H' => (by kernel_rfl)) ?_
 refine ZO (Z1 rfl) (d := 13) (v := (.pointer (some ⟨g, 0 + ((k : Int)).toNat * 79, none⟩))) rfl (fun _ H' => (by kernel_rfl)) ?_
 refine ZO (Z1 rfl) (d := 14) (v := (.pointer (some ⟨g, 0 + ((k : Int)).toNat * 79 + 78, none⟩))) rfl (fun _ H' => (by kernel_rfl)) ?_
 refine ZO (Z1 rfl) (d := 15) (v := (Zu q.rp)) rfl (fun _ H' => (Zj rfl (by kernel_rfl) (Z00 (H'.roCk 0 rfl hrow (fun _ _ h => h)) rfl ZK hq 78 rfl (show 0 + ((k : Int)).toNat * 79 + 78 = k * 79 + 78 by omega) (by kernel_rfl)))) ?_
 refine ZO (Z1 rfl) (d := 16) (v := (.pointer (some ⟨g, 0 + ((k : Int)).toNat * 79, none⟩))) rfl (fun _ H' => (by kernel_rfl)) ?_
 refine ZO (Z1 rfl) (d := 17) (v := (.pointer (some ⟨g, 0 + ((k : Int)).toNat * 79, none⟩))) rfl (fun _ H' => (by kernel_rfl)) ?_
 refine ZO (Z1 rfl) (d := 18) (v := (.pointer (some ⟨g, 0 + ((k : Int)).toNat * 79 + 77, none⟩))) rfl (fun _ H' => (by kernel_rfl)) ?_
 refine ZO (Z1 rfl) (d := 19) (v := (.bool (q.dn))) rfl (fun _ H' => (Zj rfl (by kernel_rfl) (Z00 (H'.roCk 0 rfl hrow (fun _ _ h => h)) rfl ZK hq 77 rfl (show 0 + ((k : Int)).toNat * 79 + 77 = k * 79 + 77 by omega) (by kernel_rfl)))) ?_
 refine ZO (Z1 rfl) (d := 4) (v := (Zu q.rp)) rfl (fun _ H' => (by kernel_rfl)) ?_
 refine ZO (Z1 rfl) (d := 5) (v := (.bool (q.dn))) rfl (fun _ H' => (by kernel_rfl)) ?_
 refine Z1Q ?_
 intro w5 H6
 refine Z7 ?_
 refine ZW ?_
 refine Z6v rfl (ZI (v := (Zu q.rp)) rfl) (ZI (v := (.bool (q.dn))) rfl) ?_
 exact ⟨rfl, H6.upd 0 rfl [] (fun _ h => h.elim)⟩
end Go.Proofs.YtgigjkjdmalmaaaGreat
