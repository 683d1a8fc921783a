/- WHAT IS PROVED: contracts and plain laws of MkG. Conditions: stated with each. -/
import Derived.Test.YtgigjkjdmalmaaaGreatPC12
import Derived.Test.YtgigjkjdmalmaaaGreatPC26
set_option maxHeartbeats 4000000
set_option maxRecDepth 100000
namespace Go.Proofs.YtgigjkjdmalmaaaGreat
open Go.RowKit
def Z7K : Z0 := ⟨0, 0, Zb, 0, 0, 0⟩
theorem Z5z (w : World) (f cn : Int) (hf : 1 ≤ f ∧ f ≤ 5) (Q : Nat) (hQ : (Q : Int) = 2 * f + 1) : Calls Tryz.prog 58 #[.agg ⟨[.int .i64 f, .int .i64 cn]⟩] w fun e w' => e = .returned (.int .i64 (Q : Int)) ∧ Upd [] w w' := by
 rw [hQ]; exact Z8c w f cn (by omega)
theorem Z3S (w : World) (f cn : Int) (x : Z0) (N Q : Nat) (hN : (N : Int) = 3 * f + 1) (hQ : (Q : Int) = 2 * f + 1) (hf : 1 ≤ f ∧ f ≤ 5) (sa : Option Addr) (sc : Nat) (S : List Zl) (hS : ListAt ZT 38 w (.slice sa S.length sc) S) (hlS : S.length ≤ 1000) (hlo : (Z4f f x S).length ≤ 12) :
  Calls Tryz.prog 61 #[(.agg ⟨([(.int .i64 (f)), (.int .i64 (cn))] : List Value)⟩), (.agg ⟨(([(.int .i64 (x.cl)), (.int .i64 (x.seq))] : List Value) ++ hc x.h ++ ([(.int .i64 (x.len)), (.int .i64 (x.sb)), (.int .i64 (x.sm))] : List Value))⟩), (.slice sa S.length sc)] w fun e w' => (e = .returned (.tuple #[.agg ⟨Z1I Z7K ++ [.slice none 0 0]⟩, .int .i64 8]) ∧ (Z4H x S N).length < Q ∧ Upd [] w w') ∨ ∃ g c, e = .returned (.tuple #[.agg ⟨Z1I x ++ [.slice (some ⟨g, 0, none⟩) Q c]⟩, .int .i64 0]) ∧ Q ≤ (Z4H x S N).length ∧ (Ze 49 38 (.slice (some ⟨g, 0, none⟩) (Z4H x S N).length c) (Z4H x S N).length ((Z4H x S N).flatMap ZT)).ok w' ∧ Upd [] w w' ∧ w.heap.size ≤ g := by
 have H := Sat.start0 w
 refine Zv Tryz.func61 rfl 62 rfl (Nat.le_of_ble_eq_true rfl) ?_
 refine Zh ?_
 refine Zs ?_
 refine ZQ (Z2 rfl) (fun K1 hK1 => ?_)
 refine Z0N (vs := ([(.int .i64 (f)), (.int .i64 (cn))] : List Value)) rfl H rfl rfl ?_
 intro b2 w3 (H4 : Sat w [Za w (fun _ => False), Z3 b2 27 ([(.int .i64 (f)), (.int .i64 (cn))] : List Value)] w3)
 refine hK1 _ _ ?_
 clear hK1 K1
 refine ZQ (Z2 rfl) (fun K5 hK5 => ?_)
 refine Z0N (vs := (([(.int .i64 (x.cl)), (.int .i64 (x.seq))] : List Value) ++ hc x.h ++ ([(.int .i64 (x.len)), (.int .i64 (x.sb)), (.int .i64 (x.sm))] : List Value))) rfl H4 rfl rfl ?_
 intro b6 w7 (H8 : Sat w [Za w (fun _ => False), Z3 b2 27 ([(.int .i64 (f)), (.int .i64 (cn))] : List Value), Z3 b6 54 (([(.int .i64 (x.cl)), (.int .i64 (x.seq))] : List Value) ++ hc x.h ++ ([(.int .i64 (x.len)), (.int .i64 (x.sb)), (.int .i64 (x.sm))] : List Value))] w7)
 refine hK5 _ _ ?_
 clear hK5 K5
 refine ZQ (Z2 rfl) (fun K9 hK9 => ?_)
 refine Z0V (zs := (([(.int .i64 (0)), (.int .i64 (0))] : List Value) ++ hc Zb ++ ([(.int .i64 (0)), (.int .i64 (0)), (.int .i64 (0)), (.slice none 0 0)] : List Value))) (z := (.agg ⟨(([(.int .i64 (0)), (.int .i64 (0))] : List Value) ++ hc Zb ++ ([(.int .i64 (0)), (.int .i64 (0)), (.int .i64 (0)), (.slice none 0 0)] : List Value))⟩)) rfl H8 (by kernel_rfl) (by kernel_rfl) ?_
 intro b10 w11 (H12 : Sat w [Za w (fun _ => False), Z3 b2 27 ([(.int .i64 (f)), (.int .i64 (cn))] : List Value), Z3 b6 54 (([(.int .i64 (x.cl)), (.int .i64 (x.seq))] : List Value) ++ hc x.h ++ ([(.int .i64 (x.len)), (.int .i64 (x.sb)), (.int .i64 (x.sm))] : List Value)), Z3 b10 57 (([(.int .i64 (0)), (.int .i64 (0))] : List Value) ++ hc Zb ++ ([(.int .i64 (0)), (.int .i64 (0)), (.int .i64 (0)), (.slice none 0 0)] : List Value))] w11)
 refine hK9 _ _ ?_
 clear hK9 K9
 refine Z5 (Z2 rfl) (d := 7) (v := (.int .i64 (0))) rfl (by kernel_rfl) ?_
 refine Zr ?_
 refine Z7 ?_
 refine Zh ?_
 refine Zs ?_
 refine Z5 (Z2 rfl) (d := 8) (v := (.slice none 0 0)) rfl (by kernel_rfl) ?_
 refine Zr ?_
 refine Z7 ?_
 refine Zh ?_
 refine Zh ?_
 refine Zs ?_
 refine Z5 (Z2 rfl) (d := 12) (v := (.slice sa S.length sc)) rfl (by kernel_rfl) ?_
 refine Z5 (Z2 rfl) (d := 13) (v := (.int .i64 ((S.length : Int)))) rfl (by kernel_rfl) ?_
 refine Z5 (Z2 rfl) (d := 14) (v := (.int .i64 (0))) rfl (by kernel_rfl) ?_
 refine Zr ?_
 refine Z7 ?_
 refine ZM ?_
 have H13 := H12.addNil 49 38
 refine Z07 [8, 10, 11, 14, 15, 16, 17, 18, 19, 20, 21, 22, 23, 24, 25, 26, 27, 28, 29, 30, 31, 32, 33, 34, 35, 36, 37, 38, 39, 40, 41, 42, 43, 44, 45, 46, 47] (fun F_ W_ m_ => ∃ (i : Nat) (a : Option Addr) (c : Nat) (D : List Zl), F_ 14 = (.int .i64 ((i : Int))) ∧ F_ 8 = (.slice a D.length c) ∧ (i ≤ S.length) ∧ (D = Z4f f x (S.take i)) ∧ Sat w [Za w (fun _ => False), Z3 b2 27 ([(.int .i64 (f)), (.int .i64 (cn))] : List Value), Z3 b6 54 (([(.int .i64 (x.cl)), (.int .i64 (x.seq))] : List Value) ++ hc x.h ++ ([(.int .i64 (x.len)), (.int .i64 (x.sb)), (.int .i64 (x.sm))] : List Value)), Z3 b10 57 (([(.int .i64 (0)), (.int .i64 (0))] : List Value) ++ hc Zb ++ ([(.int .i64 (0)), (.int .i64 (0)), (.int .i64 (0)), (.slice none 0 0)] : List Value)), Ze 49 38 (.slice a D.length c) D.length (D.flatMap ZT)] W_ ∧ m_ = S.length - i) _ ⟨0, none, 0, [], (show ((.int .i64 (0)) : Value) = _ by first | rfl | go_num), (by first | rfl | go_num), (Nat.zero_le _), rfl, H13, rfl⟩ ?_
 rintro g14 w15 _ ⟨i, a, c, D, v17, v18, hi, hD, H16, rfl⟩
 refine Zy 14 _ v17 ?_
 refine Zy 8 _ v18 ?_
 have hDl : D.length ≤ i := by rw [hD]; have := Z5o f x (S.take i); rw [List.length_take] at this; omega
 refine Zh ?_
 refine Zs ?_
 refine Z5 (Z2 rfl) (d := 15) (v := (.bool (decide ((i : Int) < (S.length : Int))))) rfl (by kernel_rfl) ?_
 refine Zr ?_
 refine Z7 ?_
 refine Zh ?_
 refine (Z00 (decide ((i : Int) < (S.length : Int)))).elim (fun b20 => ?_) (fun b20 => ?_)
 ·have g21 := of_decide_eq_true b20
  refine Zy 15 (.bool true) (congrArg Value.bool b20) ?_
  have g22 := of_decide_eq_true b20
  refine Z1j rfl ?_
  refine ZW ?_
  refine Z7 ?_
  refine Zh ?_
  refine ZM ?_
  refine Zh ?_
  refine Zs ?_
  obtain ⟨g23, o24, c25, e26, R27⟩ := SliceOf.atD hS Zf (show i < S.length by omega)
  refine Z5 (Z2 rfl) (d := 16) (v := (.pointer (some ⟨g23, o24 + ((i : Int)).toNat * 38, none⟩))) rfl (Z0d (E := 49) (by kernel_rfl) (by kernel_rfl) (Nat.le_of_ble_eq_true rfl) rfl e26 rfl (by omega) (by omega)) ?_
  refine Z5 (Z2 rfl) (d := 17) (v := (.agg ⟨(([(.int .i64 ((S.getD i Zf).r)), (.int .i64 ((S.getD i Zf).cl)), (.int .i64 ((S.getD i Zf).seq))] : List Value) ++ hc (S.getD i Zf).h ++ ([(.int .u64 ((S.getD i Zf).t)), (.int .i64 ((S.getD i Zf).sb)), (.int .i64 ((S.getD i Zf).sm))] : List Value))⟩)) rfl (Z0P (vs := (([(.int .i64 ((S.getD i Zf).r)), (.int .i64 ((S.getD i Zf).cl)), (.int .i64 ((S.getD i Zf).seq))] : List Value) ++ hc (S.getD i Zf).h ++ ([(.int .u64 ((S.getD i Zf).t)), (.int .i64 ((S.getD i Zf).sb)), (.int .i64 ((S.getD i Zf).sm))] : List Value))) rfl (by kernel_rfl) (by kernel_rfl) (Nat.le_of_ble_eq_true (by kernel_rfl)) (H16.runR 0 rfl (Z4i R27 0 (by kernel_rfl) (show o24 + ((i : Int)).toNat * 38 = o24 + i * 38 + 0 by omega)) (fun h => h))) ?_
  refine ZQ (Z2 rfl) (fun K28 hK28 => ?_)
  refine Z0V (zs := (([(.int .i64 (0)), (.int .i64 (0)), (.int .i64 (0))] : List Value) ++ hc Zb ++ ([(.int .u64 (0)), (.int .i64 (0)), (.int .i64 (0))] : List Value))) (z := (.agg ⟨(([(.int .i64 (0)), (.int .i64 (0)), (.int .i64 (0))] : List Value) ++ hc Zb ++ ([(.int .u64 (0)), (.int .i64 (0)), (.int .i64 (0))] : List Value))⟩)) rfl H16 (by kernel_rfl) (by kernel_rfl) ?_
  intro b29 w30 (H31 : Sat w [Za w (fun _ => False), Z3 b2 27 ([(.int .i64 (f)), (.int .i64 (cn))] : List Value), Z3 b6 54 (([(.int .i64 (x.cl)), (.int .i64 (x.seq))] : List Value) ++ hc x.h ++ ([(.int .i64 (x.len)), (.int .i64 (x.sb)), (.int .i64 (x.sm))] : List Value)), Z3 b10 57 (([(.int .i64 (0)), (.int .i64 (0))] : List Value) ++ hc Zb ++ ([(.int .i64 (0)), (.int .i64 (0)), (.int .i64 (0)), (.slice none 0 0)] : List Value)), Ze 49 38 (.slice a D.length c) D.length (D.flatMap ZT), Z3 b29 49 (([(.int .i64 (0)), (.int .i64 (0)), (.int .i64 (0))] : List Value) ++ hc Zb ++ ([(.int .u64 (0)), (.int .i64 (0)), (.int .i64 (0))] : List Value))] w30)
  refine hK28 _ _ ?_
  clear hK28 K28
  refine ZQ (Z2 rfl) (fun K32 hK32 => ?_)
  refine Z01 (vs := (([(.int .i64 ((S.getD i Zf).r)), (.int .i64 ((S.getD i Zf).cl)), (.int .i64 ((S.getD i Zf).seq))] : List Value) ++ hc (S.getD i Zf).h ++ ([(.int .u64 ((S.getD i Zf).t)), (.int .i64 ((S.getD i Zf).sb)), (.int .i64 ((S.getD i Zf).sm))] : List Value))) (cs' := (([(.int .i64 ((S.getD i Zf).r)), (.int .i64 ((S.getD i Zf).cl)), (.int .i64 ((S.getD i Zf).seq))] : List Value) ++ hc (S.getD i Zf).h ++ ([(.int .u64 ((S.getD i Zf).t)), (.int .i64 ((S.getD i Zf).sb)), (.int .i64 ((S.getD i Zf).sm))] : List Value))) rfl H31 5 rfl rfl rfl rfl (by kernel_rfl) (Nat.le_of_ble_eq_true (by kernel_rfl)) (Nat.le_of_ble_eq_true (by kernel_rfl)) (by kernel_rfl) (by kernel_rfl) ?_
  intro w33 (H34 : Sat w [Za w (fun _ => False), Z3 b2 27 ([(.int .i64 (f)), (.int .i64 (cn))] : List Value), Z3 b6 54 (([(.int .i64 (x.cl)), (.int .i64 (x.seq))] : List Value) ++ hc x.h ++ ([(.int .i64 (x.len)), (.int .i64 (x.sb)), (.int .i64 (x.sm))] : List Value)), Z3 b10 57 (([(.int .i64 (0)), (.int .i64 (0))] : List Value) ++ hc Zb ++ ([(.int .i64 (0)), (.int .i64 (0)), (.int .i64 (0)), (.slice none 0 0)] : List Value)), Ze 49 38 (.slice a D.length c) D.length (D.flatMap ZT), Z3 b29 49 (([(.int .i64 ((S.getD i Zf).r)), (.int .i64 ((S.getD i Zf).cl)), (.int .i64 ((S.getD i Zf).seq))] : List Value) ++ hc (S.getD i Zf).h ++ ([(.int .u64 ((S.getD i Zf).t)), (.int .i64 ((S.getD i Zf).sb)), (.int .i64 ((S.getD i Zf).sm))] : List Value))] w33)
  refine hK32 _ _ ?_
  clear hK32 K32
  refine Zr ?_
  refine Z7 ?_
  refine Zh ?_
  refine Zs ?_
  refine Z5 (Z2 rfl) (d := 18) (v := (.func (.func 81) #[] #[(.pointer (some ⟨b29, 0, none⟩))])) rfl (by kernel_rfl) ?_
  refine Z5 (Z2 rfl) (d := 11) (v := (.func (.func 81) #[] #[(.pointer (some ⟨b29, 0, none⟩))])) rfl (by kernel_rfl) ?_
  refine Zr ?_
  refine Z7 ?_
  refine Z0K [19, 20, 21, 22, 23, 24, 25, 26, 27, 28, 29, 30, 31, 32, 33, 34, 35, 36, 37, 38, 39, 40, 41, 42] (fun G_ W_ => G_ 42 = (.bool (Z5m f x (S.getD i Zf) && !Z5i D (S.getD i Zf).r)) ∧ Sat w [Za w (fun _ => False), Z3 b2 27 ([(.int .i64 (f)), (.int .i64 (cn))] : List Value), Z3 b6 54 (([(.int .i64 (x.cl)), (.int .i64 (x.seq))] : List Value) ++ hc x.h ++ ([(.int .i64 (x.len)), (.int .i64 (x.sb)), (.int .i64 (x.sm))] : List Value)), Z3 b10 57 (([(.int .i64 (0)), (.int .i64 (0))] : List Value) ++ hc Zb ++ ([(.int .i64 (0)), (.int .i64 (0)), (.int .i64 (0)), (.slice none 0 0)] : List Value)), Ze 49 38 (.slice a D.length c) D.length (D.flatMap ZT), Z3 b29 49 (([(.int .i64 ((S.getD i Zf).r)), (.int .i64 ((S.getD i Zf).cl)), (.int .i64 ((S.getD i Zf).seq))] : List Value) ++ hc (S.getD i Zf).h ++ ([(.int .u64 ((S.getD i Zf).t)), (.int .i64 ((S.getD i Zf).sb)), (.int .i64 ((S.getD i Zf).sm))] : List Value))] W_) ?_ ?_
  ·refine Zs ?_
   refine Z5 (Z2 rfl) (d := 19) (v := (.agg ⟨([(.int .i64 (f)), (.int .i64 (cn))] : List Value)⟩)) rfl (ZE (vs := ([(.int .i64 (f)), (.int .i64 (cn))] : List Value)) rfl (by kernel_rfl) (by kernel_rfl) (by exact Nat.le_of_ble_eq_true (by kernel_rfl)) (H34.at 1 rfl) (by kernel_rfl)) ?_
   refine Z5 (Z2 rfl) (d := 20) (v := (.pointer (some ⟨b29, 0, none⟩))) rfl (by kernel_rfl) ?_
   refine Z5 (Z2 rfl) (d := 21) (v := (.int .i64 ((S.getD i Zf).r))) rfl (Zi rfl (by kernel_rfl) (H34.cell 5 rfl (by kernel_rfl))) ?_
   refine ZQ (Z2 rfl) (fun K37 hK37 => ?_)
   refine ZJ (d := 22) rfl (by kernel_rfl) (Z7z w33 f cn ((S.getD i Zf).r) (by omega)) ?_
   rintro _ w38 ⟨rfl, u40⟩
   have H39 := H34.keepU u40
   refine ⟨_, rfl, ?_⟩
   refine hK37 _ _ ?_
   clear hK37 K37
   refine Z5 (Z2 rfl) (d := 23) (v := (.bool (inB f ((S.getD i Zf).r)))) rfl (by kernel_rfl) ?_
   refine (Z00 (inB f ((S.getD i Zf).r))).elim (fun b41 => ?_) (fun b41 => ?_)
   ·refine Z05 23 (.bool true) (congrArg Value.bool b41) ?_
    refine Z5 (Zw 4 23 true rfl (by kernel_rfl) rfl (by kernel_rfl)) (d := 24) (v := (.pointer (some ⟨b29, 1, none⟩))) rfl (by kernel_rfl) ?_
    refine Z5 (Zw 4 23 true rfl (by kernel_rfl) rfl (by kernel_rfl)) (d := 25) (v := (.agg ⟨([(.int .i64 ((S.getD i Zf).cl)), (.int .i64 ((S.getD i Zf).seq))] : List Value)⟩)) rfl (ZE (vs := ([(.int .i64 ((S.getD i Zf).cl)), (.int .i64 ((S.getD i Zf).seq))] : List Value)) rfl (by kernel_rfl) (by kernel_rfl) (by exact Nat.le_of_ble_eq_true (by kernel_rfl)) (H39.at 5 rfl) (by kernel_rfl)) ?_
    refine Z5 (Zw 4 23 true rfl (by kernel_rfl) rfl (by kernel_rfl)) (d := 26) (v := (.pointer (some ⟨b6, 0, none⟩))) rfl (by kernel_rfl) ?_
    refine Z5 (Zw 4 23 true rfl (by kernel_rfl) rfl (by kernel_rfl)) (d := 27) (v := (.agg ⟨([(.int .i64 (x.cl)), (.int .i64 (x.seq))] : List Value)⟩)) rfl (ZE (vs := ([(.int .i64 (x.cl)), (.int .i64 (x.seq))] : List Value)) rfl (by kernel_rfl) (by kernel_rfl) (by exact Nat.le_of_ble_eq_true (by kernel_rfl)) (H39.at 2 rfl) (by kernel_rfl)) ?_
    refine Z5 (Zw 4 23 true rfl (by kernel_rfl) rfl (by kernel_rfl)) (d := 28) (v := (.bool (decide (((S.getD i Zf).cl) = x.cl ∧ ((S.getD i Zf).seq) = x.seq)))) rfl (Z76 ((S.getD i Zf).cl) ((S.getD i Zf).seq) x.cl x.seq rfl rfl) ?_
    refine Z5 (Z2 rfl) (d := 29) (v := (.bool (decide (((S.getD i Zf).cl) = x.cl ∧ ((S.getD i Zf).seq) = x.seq)))) rfl (by kernel_rfl) ?_
    refine Z5 (Z2 rfl) (d := 30) (v := (.bool (decide (((S.getD i Zf).cl) = x.cl ∧ ((S.getD i Zf).seq) = x.seq)))) rfl (by kernel_rfl) ?_
    refine (Z00 (decide (((S.getD i Zf).cl) = x.cl ∧ ((S.getD i Zf).seq) = x.seq))).elim (fun b42 => ?_) (fun b42 => ?_)
    ·refine Z05 30 (.bool true) (congrArg Value.bool b42) ?_
     refine Z5 (Zw 11 30 true rfl (by kernel_rfl) rfl (by kernel_rfl)) (d := 31) (v := (.pointer (some ⟨b29, 3, none⟩))) rfl (by kernel_rfl) ?_
     refine Z5 (Zw 11 30 true rfl (by kernel_rfl) rfl (by kernel_rfl)) (d := 32) (v := (.agg ⟨(hc (S.getD i Zf).h)⟩)) rfl (ZE (vs := (hc (S.getD i Zf).h)) rfl (by kernel_rfl) (by kernel_rfl) (by exact Nat.le_of_ble_eq_true (by kernel_rfl)) (H39.at 5 rfl) (by kernel_rfl)) ?_
     refine Z5 (Zw 11 30 true rfl (by kernel_rfl) rfl (by kernel_rfl)) (d := 33) (v := (.pointer (some ⟨b6, 2, none⟩))) rfl (by kernel_rfl) ?_
     refine Z5 (Zw 11 30 true rfl (by kernel_rfl) rfl (by kernel_rfl)) (d := 34) (v := (.agg ⟨(hc x.h)⟩)) rfl (ZE (vs := (hc x.h)) rfl (by kernel_rfl) (by kernel_rfl) (by exact Nat.le_of_ble_eq_true (by kernel_rfl)) (H39.at 2 rfl) (by kernel_rfl)) ?_
     refine Z5 (Zw 11 30 true rfl (by kernel_rfl) rfl (by kernel_rfl)) (d := 35) (v := (.bool (decide (((S.getD i Zf).h) = x.h)))) rfl (Z75 ((S.getD i Zf).h) x.h rfl rfl) ?_
     refine Z5 (Z2 rfl) (d := 36) (v := (.bool (decide (((S.getD i Zf).h) = x.h)))) rfl (by kernel_rfl) ?_
     refine Z5 (Z2 rfl) (d := 37) (v := (.bool (decide (((S.getD i Zf).h) = x.h)))) rfl (by kernel_rfl) ?_
     refine (Z00 (decide (((S.getD i Zf).h) = x.h))).elim (fun b43 => ?_) (fun b43 => ?_)
     ·have g44 := of_decide_eq_true b43
      refine Z05 37 (.bool true) (congrArg Value.bool b43) ?_
      have g45 := of_decide_eq_true b43
      refine Z5 (Zw 18 37 true rfl (by kernel_rfl) rfl (by kernel_rfl)) (d := 38) (v := (.slice a D.length c)) rfl (by kernel_rfl) ?_
      refine Z5 (Zw 18 37 true rfl (by kernel_rfl) rfl (by kernel_rfl)) (d := 39) (v := (.func (.func 81) #[] #[(.pointer (some ⟨b29, 0, none⟩))])) rfl (by kernel_rfl) ?_
      refine ZQ (Zw 18 37 true rfl (by kernel_rfl) rfl (by kernel_rfl)) (fun K46 hK46 => ?_)
      refine ZJ (d := 40) rfl (by kernel_rfl) (Z4o w38 b29 (S.getD i Zf) (H39.at 5 rfl) (.slice a D.length c) D (H39.at 4 rfl) (by omega)) ?_
      rintro _ w47 ⟨rfl, u49⟩
      have H48 := H39.keepU u49
      refine ⟨_, rfl, ?_⟩
      refine hK46 _ _ ?_
      clear hK46 K46
      refine Z5 (Zw 18 37 true rfl (by kernel_rfl) rfl (by kernel_rfl)) (d := 41) (v := (.bool (!(Z5i D (S.getD i Zf).r)))) rfl (by kernel_rfl) ?_
      refine Z5 (Z2 rfl) (d := 42) (v := (.bool (!(Z5i D (S.getD i Zf).r)))) rfl (by kernel_rfl) ?_
      refine Zr ?_
      refine Z02 ?_ ⟨(congrArg Value.bool (show (!(Z5i D (S.getD i Zf).r)) = (Z5m f x (S.getD i Zf) && !Z5i D (S.getD i Zf).r) by simp only [Z5m, Z2H, b41, b42, b43, Bool.not_true, Bool.not_false, Bool.true_or, Bool.false_or, Bool.or_true, Bool.or_false, Bool.and_true, Bool.true_and, Bool.and_false, Bool.false_and])), H48⟩
      exact (Z6 rfl (Z6 rfl (Z6 rfl (Z6 rfl (Z6 rfl (Z6 rfl (Z6 rfl (Z6 rfl (Z6 rfl (Z6 rfl (Z6 rfl (Z6 rfl (Z6 rfl (Z6 rfl (Z6 rfl (Z6 rfl (Z6 rfl (Z6 rfl (Z6 rfl (Z6 rfl (Z6 rfl (Z6 rfl (Z6 rfl (Z6 rfl (Z6 rfl (Z6 rfl (Z6 rfl (Z0B))))))))))))))))))))))))))))
     ·have g50 := of_decide_eq_false b43
      refine Z05 37 (.bool false) (congrArg Value.bool b43) ?_
      have g51 := of_decide_eq_false b43
      refine ZI (Zx 18 37 true rfl (by kernel_rfl) rfl (by kernel_rfl)) rfl ?_
      refine ZI (Zx 18 37 true rfl (by kernel_rfl) rfl (by kernel_rfl)) rfl ?_
      refine ZI (Zx 18 37 true rfl (by kernel_rfl) rfl (by kernel_rfl)) rfl ?_
      refine ZI (Zx 18 37 true rfl (by kernel_rfl) rfl (by kernel_rfl)) rfl ?_
      refine Z5 (Z2 rfl) (d := 42) (v := (.bool false)) rfl (by kernel_rfl) ?_
      refine Zr ?_
      refine Z02 ?_ ⟨(congrArg Value.bool (show false = (Z5m f x (S.getD i Zf) && !Z5i D (S.getD i Zf).r) by simp only [Z5m, Z2H, b41, b42, b43, Bool.not_true, Bool.not_false, Bool.true_or, Bool.false_or, Bool.or_true, Bool.or_false, Bool.and_true, Bool.true_and, Bool.and_false, Bool.false_and])), H39⟩
      exact (Z6 rfl (Z6 rfl (Z6 rfl (Z6 rfl (Z6 rfl (Z6 rfl (Z6 rfl (Z6 rfl (Z6 rfl (Z6 rfl (Z6 rfl (Z6 rfl (Z6 rfl (Z6 rfl (Z6 rfl (Z6 rfl (Z6 rfl (Z6 rfl (Z6 rfl (Z6 rfl (Z6 rfl (Z6 rfl (Z6 rfl (Z6 rfl (Z6 rfl (Z6 rfl (Z6 rfl (Z0B))))))))))))))))))))))))))))
    ·refine Z05 30 (.bool false) (congrArg Value.bool b42) ?_
     refine ZI (Zx 11 30 true rfl (by kernel_rfl) rfl (by kernel_rfl)) rfl ?_
     refine ZI (Zx 11 30 true rfl (by kernel_rfl) rfl (by kernel_rfl)) rfl ?_
     refine ZI (Zx 11 30 true rfl (by kernel_rfl) rfl (by kernel_rfl)) rfl ?_
     refine ZI (Zx 11 30 true rfl (by kernel_rfl) rfl (by kernel_rfl)) rfl ?_
     refine ZI (Zx 11 30 true rfl (by kernel_rfl) rfl (by kernel_rfl)) rfl ?_
     refine Z5 (Z2 rfl) (d := 36) (v := (.bool false)) rfl (by kernel_rfl) ?_
     refine Z5 (Z2 rfl) (d := 37) (v := (.bool false)) rfl (by kernel_rfl) ?_
     refine ZI (Zx 18 37 true rfl (by kernel_rfl) rfl (by kernel_rfl)) rfl ?_
     refine ZI (Zx 18 37 true rfl (by kernel_rfl) rfl (by kernel_rfl)) rfl ?_
     refine ZI (Zx 18 37 true rfl (by kernel_rfl) rfl (by kernel_rfl)) rfl ?_
     refine ZI (Zx 18 37 true rfl (by kernel_rfl) rfl (by kernel_rfl)) rfl ?_
     refine Z5 (Z2 rfl) (d := 42) (v := (.bool false)) rfl (by kernel_rfl) ?_
     refine Zr ?_
     refine Z02 ?_ ⟨(congrArg Value.bool (show false = (Z5m f x (S.getD i Zf) && !Z5i D (S.getD i Zf).r) by simp only [Z5m, Z2H, b41, b42, Bool.not_true, Bool.not_false, Bool.true_or, Bool.false_or, Bool.or_true, Bool.or_false, Bool.and_true, Bool.true_and, Bool.and_false, Bool.false_and])), H39⟩
     exact (Z6 rfl (Z6 rfl (Z6 rfl (Z6 rfl (Z6 rfl (Z6 rfl (Z6 rfl (Z6 rfl (Z6 rfl (Z6 rfl (Z6 rfl (Z6 rfl (Z6 rfl (Z6 rfl (Z6 rfl (Z6 rfl (Z6 rfl (Z6 rfl (Z6 rfl (Z6 rfl (Z6 rfl (Z6 rfl (Z6 rfl (Z6 rfl (Z6 rfl (Z6 rfl (Z0B)))))))))))))))))))))))))))
   ·refine Z05 23 (.bool false) (congrArg Value.bool b41) ?_
    refine ZI (Zx 4 23 true rfl (by kernel_rfl) rfl (by kernel_rfl)) rfl ?_
    refine ZI (Zx 4 23 true rfl (by kernel_rfl) rfl (by kernel_rfl)) rfl ?_
    refine ZI (Zx 4 23 true rfl (by kernel_rfl) rfl (by kernel_rfl)) rfl ?_
    refine ZI (Zx 4 23 true rfl (by kernel_rfl) rfl (by kernel_rfl)) rfl ?_
    refine ZI (Zx 4 23 true rfl (by kernel_rfl) rfl (by kernel_rfl)) rfl ?_
    refine Z5 (Z2 rfl) (d := 29) (v := (.bool false)) rfl (by kernel_rfl) ?_
    refine Z5 (Z2 rfl) (d := 30) (v := (.bool false)) rfl (by kernel_rfl) ?_
    refine ZI (Zx 11 30 true rfl (by kernel_rfl) rfl (by kernel_rfl)) rfl ?_
    refine ZI (Zx 11 30 true rfl (by kernel_rfl) rfl (by kernel_rfl)) rfl ?_
    refine ZI (Zx 11 30 true rfl (by kernel_rfl) rfl (by kernel_rfl)) rfl ?_
    refine ZI (Zx 11 30 true rfl (by kernel_rfl) rfl (by kernel_rfl)) rfl ?_
    refine ZI (Zx 11 30 true rfl (by kernel_rfl) rfl (by kernel_rfl)) rfl ?_
    refine Z5 (Z2 rfl) (d := 36) (v := (.bool false)) rfl (by kernel_rfl) ?_
    refine Z5 (Z2 rfl) (d := 37) (v := (.bool false)) rfl (by kernel_rfl) ?_
    refine ZI (Zx 18 37 true rfl (by kernel_rfl) rfl (by kernel_rfl)) rfl ?_
    refine ZI (Zx 18 37 true rfl (by kernel_rfl) rfl (by kernel_rfl)) rfl ?_
    refine ZI (Zx 18 37 true rfl (by kernel_rfl) rfl (by kernel_rfl)) rfl ?_
    refine ZI (Zx 18 37 true rfl (by kernel_rfl) rfl (by kernel_rfl)) rfl ?_
    refine Z5 (Z2 rfl) (d := 42) (v := (.bool false)) rfl (by kernel_rfl) ?_
    refine Zr ?_
    refine Z02 ?_ ⟨(congrArg Value.bool (show false = (Z5m f x (S.getD i Zf) && !Z5i D (S.getD i Zf).r) by simp only [Z5m, Z2H, b41, Bool.not_true, Bool.not_false, Bool.true_or, Bool.false_or, Bool.or_true, Bool.or_false, Bool.and_true, Bool.true_and, Bool.and_false, Bool.false_and])), H39⟩
    exact (Z6 rfl (Z6 rfl (Z6 rfl (Z6 rfl (Z6 rfl (Z6 rfl (Z6 rfl (Z6 rfl (Z6 rfl (Z6 rfl (Z6 rfl (Z6 rfl (Z6 rfl (Z6 rfl (Z6 rfl (Z6 rfl (Z6 rfl (Z6 rfl (Z6 rfl (Z6 rfl (Z6 rfl (Z6 rfl (Z6 rfl (Z6 rfl (Z6 rfl (Z0B))))))))))))))))))))))))))
  ·rintro f52 w53 ⟨v55, H54⟩
   refine Zy 42 _ v55 ?_
   refine (Z00 (Z5m f x (S.getD i Zf) && !Z5i D (S.getD i Zf).r)).elim (fun b56 => ?_) (fun b56 => ?_)
   ·refine Zy 42 (.bool true) (congrArg Value.bool b56) ?_
    refine Z1j rfl ?_
    refine Zs ?_
    refine Z5 (Z2 rfl) (d := 43) (v := (.slice a D.length c)) rfl (by kernel_rfl) ?_
    refine Z5 (Z2 rfl) (d := 44) (v := (.agg ⟨(([(.int .i64 ((S.getD i Zf).r)), (.int .i64 ((S.getD i Zf).cl)), (.int .i64 ((S.getD i Zf).seq))] : List Value) ++ hc (S.getD i Zf).h ++ ([(.int .u64 ((S.getD i Zf).t)), (.int .i64 ((S.getD i Zf).sb)), (.int .i64 ((S.getD i Zf).sm))] : List Value))⟩)) rfl (ZE (vs := (([(.int .i64 ((S.getD i Zf).r)), (.int .i64 ((S.getD i Zf).cl)), (.int .i64 ((S.getD i Zf).seq))] : List Value) ++ hc (S.getD i Zf).h ++ ([(.int .u64 ((S.getD i Zf).t)), (.int .i64 ((S.getD i Zf).sb)), (.int .i64 ((S.getD i Zf).sm))] : List Value))) rfl (by kernel_rfl) (by kernel_rfl) (by exact Nat.le_of_ble_eq_true (by kernel_rfl)) (H54.at 5 rfl) (by kernel_rfl)) ?_
    refine ZQ (Z2 rfl) (fun K57 hK57 => ?_)
    refine ZY (e := 49) (size := 38) (bytes := 80) (z := (.agg ⟨(([(.int .i64 (0)), (.int .i64 (0)), (.int .i64 (0))] : List Value) ++ hc Zb ++ ([(.int .u64 (0)), (.int .i64 (0)), (.int .i64 (0))] : List Value))⟩)) (pvs := [(0, (.agg ⟨(([(.int .i64 ((S.getD i Zf).r)), (.int .i64 ((S.getD i Zf).cl)), (.int .i64 ((S.getD i Zf).seq))] : List Value) ++ hc (S.getD i Zf).h ++ ([(.int .u64 ((S.getD i Zf).t)), (.int .i64 ((S.getD i Zf).sb)), (.int .i64 ((S.getD i Zf).sm))] : List Value))⟩))]) (vs := (([(.int .i64 ((S.getD i Zf).r)), (.int .i64 ((S.getD i Zf).cl)), (.int .i64 ((S.getD i Zf).seq))] : List Value) ++ hc (S.getD i Zf).h ++ ([(.int .u64 ((S.getD i Zf).t)), (.int .i64 ((S.getD i Zf).sb)), (.int .i64 ((S.getD i Zf).sm))] : List Value))) rfl H54 (by kernel_rfl) (by kernel_rfl) (by kernel_rfl) (by kernel_rfl) (by kernel_rfl) rfl rfl ?_
    intro b58 w59 (H60 : Sat w [Za w (fun _ => False), Z3 b2 27 ([(.int .i64 (f)), (.int .i64 (cn))] : List Value), Z3 b6 54 (([(.int .i64 (x.cl)), (.int .i64 (x.seq))] : List Value) ++ hc x.h ++ ([(.int .i64 (x.len)), (.int .i64 (x.sb)), (.int .i64 (x.sm))] : List Value)), Z3 b10 57 (([(.int .i64 (0)), (.int .i64 (0))] : List Value) ++ hc Zb ++ ([(.int .i64 (0)), (.int .i64 (0)), (.int .i64 (0)), (.slice none 0 0)] : List Value)), Ze 49 38 (.slice a D.length c) D.length (D.flatMap ZT), Z3 b29 49 (([(.int .i64 ((S.getD i Zf).r)), (.int .i64 ((S.getD i Zf).cl)), (.int .i64 ((S.getD i Zf).seq))] : List Value) ++ hc (S.getD i Zf).h ++ ([(.int .u64 ((S.getD i Zf).t)), (.int .i64 ((S.getD i Zf).sb)), (.int .i64 ((S.getD i Zf).sm))] : List Value)), Ze 49 38 (.slice (some ⟨b58, 0, none⟩) 1 1) 1 (([(.int .i64 ((S.getD i Zf).r)), (.int .i64 ((S.getD i Zf).cl)), (.int .i64 ((S.getD i Zf).seq))] : List Value) ++ hc (S.getD i Zf).h ++ ([(.int .u64 ((S.getD i Zf).t)), (.int .i64 ((S.getD i Zf).sb)), (.int .i64 ((S.getD i Zf).sm))] : List Value))] w59)
    have H61 : Sat w [Za w (fun _ => False), Z3 b2 27 ([(.int .i64 (f)), (.int .i64 (cn))] : List Value), Z3 b6 54 (([(.int .i64 (x.cl)), (.int .i64 (x.seq))] : List Value) ++ hc x.h ++ ([(.int .i64 (x.len)), (.int .i64 (x.sb)), (.int .i64 (x.sm))] : List Value)), Z3 b10 57 (([(.int .i64 (0)), (.int .i64 (0))] : List Value) ++ hc Zb ++ ([(.int .i64 (0)), (.int .i64 (0)), (.int .i64 (0)), (.slice none 0 0)] : List Value)), Ze 49 38 (.slice a D.length c) D.length (D.flatMap ZT), Z3 b29 49 (([(.int .i64 ((S.getD i Zf).r)), (.int .i64 ((S.getD i Zf).cl)), (.int .i64 ((S.getD i Zf).seq))] : List Value) ++ hc (S.getD i Zf).h ++ ([(.int .u64 ((S.getD i Zf).t)), (.int .i64 ((S.getD i Zf).sb)), (.int .i64 ((S.getD i Zf).sm))] : List Value)), Ze 49 38 (.slice (some ⟨b58, 0, none⟩) 1 1) 1 ([(S.getD i Zf)].flatMap ZT)] w59 := H60.cast (by rw [show ((([(.int .i64 ((S.getD i Zf).r)), (.int .i64 ((S.getD i Zf).cl)), (.int .i64 ((S.getD i Zf).seq))] : List Value) ++ hc (S.getD i Zf).h ++ ([(.int .u64 ((S.getD i Zf).t)), (.int .i64 ((S.getD i Zf).sb)), (.int .i64 ((S.getD i Zf).sm))] : List Value)) : List Value) = [(S.getD i Zf)].flatMap ZT from by simp only [List.flatMap_cons, List.flatMap_nil, List.append_nil]; rfl])
    refine hK57 _ _ ?_
    clear hK57 K57
    refine ZQ (Z2 rfl) (fun K62 hK62 => ?_)
    refine Z0z (T := 55) (e := 49) (size := 38) (bytes := 80) rfl H61 (by kernel_rfl) 4 6 rfl rfl rfl rfl (Z0m ZT Z2i [(S.getD i Zf)]) (by omega) (by omega) ?_
    intro v63 w64 (H65 : Sat w [Za w (fun _ => False), Z3 b2 27 ([(.int .i64 (f)), (.int .i64 (cn))] : List Value), Z3 b6 54 (([(.int .i64 (x.cl)), (.int .i64 (x.seq))] : List Value) ++ hc x.h ++ ([(.int .i64 (x.len)), (.int .i64 (x.sb)), (.int .i64 (x.sm))] : List Value)), Z3 b10 57 (([(.int .i64 (0)), (.int .i64 (0))] : List Value) ++ hc Zb ++ ([(.int .i64 (0)), (.int .i64 (0)), (.int .i64 (0)), (.slice none 0 0)] : List Value)), Ze 49 38 v63 (D.length + 1) ((D.flatMap ZT) ++ ([(S.getD i Zf)].flatMap ZT)), Z3 b29 49 (([(.int .i64 ((S.getD i Zf).r)), (.int .i64 ((S.getD i Zf).cl)), (.int .i64 ((S.getD i Zf).seq))] : List Value) ++ hc (S.getD i Zf).h ++ ([(.int .u64 ((S.getD i Zf).t)), (.int .i64 ((S.getD i Zf).sb)), (.int .i64 ((S.getD i Zf).sm))] : List Value)), Ze 49 38 (.slice (some ⟨b58, 0, none⟩) 1 1) 1 ([(S.getD i Zf)].flatMap ZT)] w64)
    have H68 : Sat w [Za w (fun _ => False), Z3 b2 27 ([(.int .i64 (f)), (.int .i64 (cn))] : List Value), Z3 b6 54 (([(.int .i64 (x.cl)), (.int .i64 (x.seq))] : List Value) ++ hc x.h ++ ([(.int .i64 (x.len)), (.int .i64 (x.sb)), (.int .i64 (x.sm))] : List Value)), Z3 b10 57 (([(.int .i64 (0)), (.int .i64 (0))] : List Value) ++ hc Zb ++ ([(.int .i64 (0)), (.int .i64 (0)), (.int .i64 (0)), (.slice none 0 0)] : List Value)), Ze 49 38 v63 ((D ++ [(S.getD i Zf)]).length) ((D ++ [(S.getD i Zf)]).flatMap ZT), Z3 b29 49 (([(.int .i64 ((S.getD i Zf).r)), (.int .i64 ((S.getD i Zf).cl)), (.int .i64 ((S.getD i Zf).seq))] : List Value) ++ hc (S.getD i Zf).h ++ ([(.int .u64 ((S.getD i Zf).t)), (.int .i64 ((S.getD i Zf).sb)), (.int .i64 ((S.getD i Zf).sm))] : List Value)), Ze 49 38 (.slice (some ⟨b58, 0, none⟩) 1 1) 1 ([(S.getD i Zf)].flatMap ZT)] w64 := H65.cast (by simp only [List.length_append, List.flatMap_append] <;> rfl)
    obtain ⟨a66, c67, rfl⟩ := Zg (H68.at 4 rfl)
    refine hK62 _ _ ?_
    clear hK62 K62
    refine Z5 (Z2 rfl) (d := 8) (v := (.slice a66 ((D ++ [(S.getD i Zf)]).length) c67)) rfl (by kernel_rfl) ?_
    refine Zr ?_
    refine ZR ?_
    refine Z7 ?_
    refine Zs ?_
    refine Z5 (Z2 rfl) (d := 47) (v := (.int .i64 ((i : Int) + 1))) rfl (Z0h (z := (i : Int) + 1) (by kernel_rfl) (IntWalk.i64_in _ (by omega))) ?_
    refine Z5 (Z2 rfl) (d := 14) (v := (.int .i64 ((i : Int) + 1))) rfl (by kernel_rfl) ?_
    refine Zr ?_
    have H69 : Sat w [Za w (fun _ => False), Z3 b2 27 ([(.int .i64 (f)), (.int .i64 (cn))] : List Value), Z3 b6 54 (([(.int .i64 (x.cl)), (.int .i64 (x.seq))] : List Value) ++ hc x.h ++ ([(.int .i64 (x.len)), (.int .i64 (x.sb)), (.int .i64 (x.sm))] : List Value)), Z3 b10 57 (([(.int .i64 (0)), (.int .i64 (0))] : List Value) ++ hc Zb ++ ([(.int .i64 (0)), (.int .i64 (0)), (.int .i64 (0)), (.slice none 0 0)] : List Value)), Ze 49 38 (.slice a66 ((D ++ [(S.getD i Zf)]).length) c67) ((D ++ [(S.getD i Zf)]).length) ((D ++ [(S.getD i Zf)]).flatMap ZT)] w64 := H68.pick [0, 1, 2, 3, 4] (by decide)
    refine ZS ?_ _ ⟨(i + 1), a66, c67, (D ++ [(S.getD i Zf)]), (show ((.int .i64 ((i : Int) + 1)) : Value) = _ by first | rfl | go_num), (show ((.slice a66 ((D ++ [(S.getD i Zf)]).length) c67) : Value) = _ by first | rfl | go_num), (by omega), (by rw [Z2o _ _ _ (by omega), ← hD]; unfold Z3l; rw [if_pos b56]), H69, rfl⟩ (by omega)
    exact (Z6 rfl (Z6 rfl (Z6 rfl (Z6 rfl (Z6 rfl (Z6 rfl (Z6 rfl (Z6 rfl (Z6 rfl (Z3h rfl (Z6 rfl (Z6 rfl (Z6 rfl (Z6 rfl (Z6 rfl (Z6 rfl (Z6 rfl (Z6 rfl (Z6 rfl (Z1D))))))))))))))))))))
   ·refine Zy 42 (.bool false) (congrArg Value.bool b56) ?_
    refine Z0o rfl ?_
    refine ZW ?_
    refine ZR ?_
    refine Z7 ?_
    refine Zs ?_
    refine Z5 (Z2 rfl) (d := 47) (v := (.int .i64 ((i : Int) + 1))) rfl (Z0h (z := (i : Int) + 1) (by kernel_rfl) (IntWalk.i64_in _ (by omega))) ?_
    refine Z5 (Z2 rfl) (d := 14) (v := (.int .i64 ((i : Int) + 1))) rfl (by kernel_rfl) ?_
    refine Zr ?_
    have H70 : Sat w [Za w (fun _ => False), Z3 b2 27 ([(.int .i64 (f)), (.int .i64 (cn))] : List Value), Z3 b6 54 (([(.int .i64 (x.cl)), (.int .i64 (x.seq))] : List Value) ++ hc x.h ++ ([(.int .i64 (x.len)), (.int .i64 (x.sb)), (.int .i64 (x.sm))] : List Value)), Z3 b10 57 (([(.int .i64 (0)), (.int .i64 (0))] : List Value) ++ hc Zb ++ ([(.int .i64 (0)), (.int .i64 (0)), (.int .i64 (0)), (.slice none 0 0)] : List Value)), Ze 49 38 (.slice a D.length c) D.length (D.flatMap ZT)] w53 := H54.pick [0, 1, 2, 3, 4] (by decide)
    refine ZS ?_ _ ⟨(i + 1), a, c, D, (show ((.int .i64 ((i : Int) + 1)) : Value) = _ by first | rfl | go_num), (show ((.slice a D.length c) : Value) = _ by first | rfl | go_num), (by omega), (by rw [Z2o _ _ _ (by omega), ← hD]; unfold Z3l; rw [if_neg (by rw [b56]; exact Bool.false_ne_true)]), H70, rfl⟩ (by omega)
    exact (Z6 rfl (Z6 rfl (Z6 rfl (Z6 rfl (Z3h rfl (Z6 rfl (Z6 rfl (Z6 rfl (Z6 rfl (Z6 rfl (Z6 rfl (Z6 rfl (Z6 rfl (Z6 rfl (Z1D)))))))))))))))
 ·have g71 := of_decide_eq_false b20
  refine Zy 15 (.bool false) (congrArg Value.bool b20) ?_
  have g72 := of_decide_eq_false b20
  refine Z0o rfl ?_
  refine Z3T ?_
  refine Z1z ?_
  refine Z1x ?_
  refine Z2w ?_
  refine Z7 ?_
  refine Zh ?_
  refine Zh ?_
  have hT : D = Z4f f x S := by rw [hD, List.take_of_length_le (by omega)]
  have hrl : D.length = (Z4H x S N).length := by rw [hT]; exact Z80 hN
  have hD12 : D.length ≤ 12 := by rw [hT]; exact hlo
  refine Zs ?_
  refine Z5 (Z2 rfl) (d := 48) (v := (.slice a D.length c)) rfl (by kernel_rfl) ?_
  refine Z5 (Z2 rfl) (d := 49) (v := (.int .i64 ((D.length : Int)))) rfl (by kernel_rfl) ?_
  refine Z5 (Z2 rfl) (d := 50) (v := (.agg ⟨([(.int .i64 (f)), (.int .i64 (cn))] : List Value)⟩)) rfl (ZE (vs := ([(.int .i64 (f)), (.int .i64 (cn))] : List Value)) rfl (by kernel_rfl) (by kernel_rfl) (by exact Nat.le_of_ble_eq_true (by kernel_rfl)) (H16.at 1 rfl) (by kernel_rfl)) ?_
  refine ZQ (Z2 rfl) (fun K73 hK73 => ?_)
  refine ZJ (d := 51) rfl (by kernel_rfl) (Z5z w15 f cn hf Q hQ) ?_
  rintro _ w74 ⟨rfl, u76⟩
  have H75 := H16.keepU u76
  refine ⟨_, rfl, ?_⟩
  refine hK73 _ _ ?_
  clear hK73 K73
  refine Z5 (Z2 rfl) (d := 52) (v := (.bool (decide ((D.length : Int) < (Q : Int))))) rfl (by kernel_rfl) ?_
  refine Zr ?_
  refine Z7 ?_
  refine (Z00 (decide ((D.length : Int) < (Q : Int)))).elim (fun b77 => ?_) (fun b77 => ?_)
  ·have g78 := of_decide_eq_true b77
   refine Zy 52 (.bool true) (congrArg Value.bool b77) ?_
   have g79 := of_decide_eq_true b77
   refine Z1j rfl ?_
   refine Zh ?_
   refine Zs ?_
   refine Z5 (Z2 rfl) (d := 53) (v := (.agg ⟨(([(.int .i64 (0)), (.int .i64 (0))] : List Value) ++ hc Zb ++ ([(.int .i64 (0)), (.int .i64 (0)), (.int .i64 (0)), (.slice none 0 0)] : List Value))⟩)) rfl (by kernel_rfl) ?_
   refine ZQ (Z2 rfl) (fun K80 hK80 => ?_)
   refine Z01 (vs := (([(.int .i64 (0)), (.int .i64 (0))] : List Value) ++ hc Zb ++ ([(.int .i64 (0)), (.int .i64 (0)), (.int .i64 (0)), (.slice none 0 0)] : List Value))) (cs' := (([(.int .i64 (0)), (.int .i64 (0))] : List Value) ++ hc Zb ++ ([(.int .i64 (0)), (.int .i64 (0)), (.int .i64 (0)), (.slice none 0 0)] : List Value))) rfl H75 3 rfl rfl rfl rfl (by kernel_rfl) (Nat.le_of_ble_eq_true (by kernel_rfl)) (Nat.le_of_ble_eq_true (by kernel_rfl)) (by kernel_rfl) (by kernel_rfl) ?_
   intro w81 (H82 : Sat w [Za w (fun _ => False), Z3 b2 27 ([(.int .i64 (f)), (.int .i64 (cn))] : List Value), Z3 b6 54 (([(.int .i64 (x.cl)), (.int .i64 (x.seq))] : List Value) ++ hc x.h ++ ([(.int .i64 (x.len)), (.int .i64 (x.sb)), (.int .i64 (x.sm))] : List Value)), Z3 b10 57 (([(.int .i64 (0)), (.int .i64 (0))] : List Value) ++ hc Zb ++ ([(.int .i64 (0)), (.int .i64 (0)), (.int .i64 (0)), (.slice none 0 0)] : List Value)), Ze 49 38 (.slice a D.length c) D.length (D.flatMap ZT)] w81)
   refine hK80 _ _ ?_
   clear hK80 K80
   refine Z5 (Z2 rfl) (d := 7) (v := (.int .i64 (8))) rfl (by kernel_rfl) ?_
   refine Zr ?_
   refine Z7 ?_
   refine ZU ?_
   refine Z0Y ?_
   refine Z7N rfl (Z0a (vs := (([(.int .i64 (0)), (.int .i64 (0))] : List Value) ++ hc Zb ++ ([(.int .i64 (0)), (.int .i64 (0)), (.int .i64 (0)), (.slice none 0 0)] : List Value))) rfl (by kernel_rfl) (by kernel_rfl) (by exact Nat.le_of_ble_eq_true (by kernel_rfl)) (H82.at 3 rfl) (by kernel_rfl)) (ZK (v := (.int .i64 (8))) rfl) ?_
   exact .inl ⟨rfl, by omega, H82.upd 0 rfl [] (fun _ h => h.elim)⟩
  ·have g84 := of_decide_eq_false b77
   refine Zy 52 (.bool false) (congrArg Value.bool b77) ?_
   have g85 := of_decide_eq_false b77
   refine Z0o rfl ?_
   refine ZW ?_
   refine Z7 ?_
   refine Zh ?_
   refine Zs ?_
   refine Z5 (Z2 rfl) (d := 54) (v := (.slice a D.length c)) rfl (by kernel_rfl) ?_
   refine ZQ (Z2 rfl) (fun K86 hK86 => ?_)
   obtain ⟨g87, c88, e89⟩ := Z0R (H75.at 4 rfl) (by omega)
   obtain rfl : a = some ⟨g87, 0, none⟩ := by cases e89; rfl
   refine ZJ (d := 55) rfl (by kernel_rfl) (Z6O w74 g87 c D (H75.at 4 rfl) (by omega) (fun s hs => by rw [hT] at hs; have := ((Z3m f x S).mem s).1 hs; omega)) ?_
   rintro _ w90 ⟨rfl, D91, p92, s93, k94, u95⟩
   have H96 : Sat w [Za w (fun _ => False), Z3 b2 27 ([(.int .i64 (f)), (.int .i64 (cn))] : List Value), Z3 b6 54 (([(.int .i64 (x.cl)), (.int .i64 (x.seq))] : List Value) ++ hc x.h ++ ([(.int .i64 (x.len)), (.int .i64 (x.sb)), (.int .i64 (x.sm))] : List Value)), Z3 b10 57 (([(.int .i64 (0)), (.int .i64 (0))] : List Value) ++ hc Zb ++ ([(.int .i64 (0)), (.int .i64 (0)), (.int .i64 (0)), (.slice none 0 0)] : List Value)), Ze 49 38 (.slice (some ⟨g87, 0, none⟩) D.length c) D.length (D91.flatMap ZT)] w90 := H75.setU u95 4 rfl (by rintro b hb; obtain rfl := List.mem_singleton.1 hb; rfl) k94 (fun b hb => .inl hb)
   have hDl := p92.length_eq
   refine ⟨_, rfl, ?_⟩
   refine hK86 _ _ ?_
   clear hK86 K86
   refine Zr ?_
   refine Z7 ?_
   refine Zh ?_
   have hR : D91 = Z4H x S N := Z3P (F := f) (L := S) (x := x) hN (by rw [← hT]; exact p92) s93
   have hcap : D.length ≤ c := by have q := ListAt.cap (ListAt.row (enc := ZT) (sz := 38) Z0Q (by decide) (H96.at 4 rfl)); omega
   refine Z0g H96 [Za w (fun _ => False), Z3 b2 27 ([(.int .i64 (f)), (.int .i64 (cn))] : List Value), Z3 b6 54 (([(.int .i64 (x.cl)), (.int .i64 (x.seq))] : List Value) ++ hc x.h ++ ([(.int .i64 (x.len)), (.int .i64 (x.sb)), (.int .i64 (x.sm))] : List Value)), Ze 49 38 (.slice (some ⟨g87, 0, none⟩) D.length c) D.length (D91.flatMap ZT)] 8 rfl (by kernel_rfl) (fun Hx => (Hx.pick [0, 1, 2, 4] (by decide))) ?_
   intro w97 H98 S99
   refine Zp 0 rfl (by kernel_rfl) (by kernel_rfl) (by kernel_rfl) (fun _ _ _ h => h) S99 (Z2 rfl) (d := 56) (v := (.agg ⟨(([(.int .i64 (x.cl)), (.int .i64 (x.seq))] : List Value) ++ hc x.h ++ ([(.int .i64 (x.len)), (.int .i64 (x.sb)), (.int .i64 (x.sm))] : List Value))⟩)) rfl (fun _ H' => (ZE (vs := (([(.int .i64 (x.cl)), (.int .i64 (x.seq))] : List Value) ++ hc x.h ++ ([(.int .i64 (x.len)), (.int .i64 (x.sb)), (.int .i64 (x.sm))] : List Value))) rfl (by kernel_rfl) (by kernel_rfl) (by exact Nat.le_of_ble_eq_true (by kernel_rfl)) (H'.at 2 rfl) (by kernel_rfl))) ?_
   refine Zp 1 rfl (by kernel_rfl) (by kernel_rfl) (by kernel_rfl) (fun _ _ _ h => h) S99 (Z2 rfl) (d := 57) (v := (.slice (some ⟨g87, 0, none⟩) D.length c)) rfl (fun _ H' => (by kernel_rfl)) ?_
   refine Zp 2 rfl (by kernel_rfl) (by kernel_rfl) (by kernel_rfl) (fun _ _ _ h => h) S99 (Z2 rfl) (d := 58) (v := (.agg ⟨([(.int .i64 (f)), (.int .i64 (cn))] : List Value)⟩)) rfl (fun _ H' => (ZE (vs := ([(.int .i64 (f)), (.int .i64 (cn))] : List Value)) rfl (by kernel_rfl) (by kernel_rfl) (by exact Nat.le_of_ble_eq_true (by kernel_rfl)) (H'.at 1 rfl) (by kernel_rfl))) ?_
   refine Z13 3 rfl (by kernel_rfl) (Z2 rfl) (fun K100 hK100 => ?_)
   refine ZJ (d := 59) rfl (by kernel_rfl) (Z5z w97 f cn hf Q hQ) ?_
   rintro _ w101 ⟨rfl, u103⟩
   have H102 := H98.keepU u103
   refine ⟨_, rfl, ?_⟩
   have S104 := H102.pick [0, 1, 2, 4] (by decide)
   refine hK100 _ _ S104 ?_
   clear hK100 K100
   refine Zp 4 rfl (by kernel_rfl) (by kernel_rfl) (by kernel_rfl) (fun _ _ _ h => h) S104 (Z2 rfl) (d := 60) (v := (.slice (some ⟨g87, 0, none⟩) Q c)) rfl (fun _ H' => (Z6e (E := 49) (q := Q) (by kernel_rfl) (by kernel_rfl) rfl rfl (by omega) (by omega))) ?_
   refine Zp 5 rfl (by kernel_rfl) (by kernel_rfl) (by kernel_rfl) (fun _ _ _ h => h) S104 (Z2 rfl) (d := 61) (v := (.agg ⟨(([(.int .i64 (x.cl)), (.int .i64 (x.seq))] : List Value) ++ hc x.h ++ ([(.int .i64 (x.len)), (.int .i64 (x.sb)), (.int .i64 (x.sm)), (.slice (some ⟨g87, 0, none⟩) Q c)] : List Value))⟩)) rfl (fun _ H' => (by kernel_rfl)) ?_
   refine Z13 6 rfl (by kernel_rfl) (Z2 rfl) (fun K105 hK105 => ?_)
   refine Z01 (vs := (([(.int .i64 (x.cl)), (.int .i64 (x.seq))] : List Value) ++ hc x.h ++ ([(.int .i64 (x.len)), (.int .i64 (x.sb)), (.int .i64 (x.sm)), (.slice (some ⟨g87, 0, none⟩) Q c)] : List Value))) (cs' := (([(.int .i64 (x.cl)), (.int .i64 (x.seq))] : List Value) ++ hc x.h ++ ([(.int .i64 (x.len)), (.int .i64 (x.sb)), (.int .i64 (x.sm)), (.slice (some ⟨g87, 0, none⟩) Q c)] : List Value))) rfl H102 3 rfl rfl rfl rfl (by kernel_rfl) (Nat.le_of_ble_eq_true (by kernel_rfl)) (Nat.le_of_ble_eq_true (by kernel_rfl)) (by kernel_rfl) (by kernel_rfl) ?_
   intro w106 (H107 : Sat w [Za w (fun _ => False), Z3 b2 27 ([(.int .i64 (f)), (.int .i64 (cn))] : List Value), Z3 b6 54 (([(.int .i64 (x.cl)), (.int .i64 (x.seq))] : List Value) ++ hc x.h ++ ([(.int .i64 (x.len)), (.int .i64 (x.sb)), (.int .i64 (x.sm))] : List Value)), Z3 b10 57 (([(.int .i64 (x.cl)), (.int .i64 (x.seq))] : List Value) ++ hc x.h ++ ([(.int .i64 (x.len)), (.int .i64 (x.sb)), (.int .i64 (x.sm)), (.slice (some ⟨g87, 0, none⟩) Q c)] : List Value)), Ze 49 38 (.slice (some ⟨g87, 0, none⟩) D.length c) D.length (D91.flatMap ZT)] w106)
   have S109 := H107.pick [0, 1, 2, 4] (by decide)
   refine hK105 _ _ S109 ?_
   clear hK105 K105
   refine Zp 7 rfl (by kernel_rfl) (by kernel_rfl) (by kernel_rfl) (fun _ _ _ h => h) S109 (Z2 rfl) (d := 7) (v := (.int .i64 (0))) rfl (fun _ H' => (by kernel_rfl)) ?_
   refine Z0M (by kernel_rfl) ?_
   refine Z7 ?_
   refine ZU ?_
   refine Z7N rfl (Z0a (vs := (([(.int .i64 (x.cl)), (.int .i64 (x.seq))] : List Value) ++ hc x.h ++ ([(.int .i64 (x.len)), (.int .i64 (x.sb)), (.int .i64 (x.sm)), (.slice (some ⟨g87, 0, none⟩) Q c)] : List Value))) rfl (by kernel_rfl) (by kernel_rfl) (by exact Nat.le_of_ble_eq_true (by kernel_rfl)) (H107.at 3 rfl) (by kernel_rfl)) (ZK (v := (.int .i64 (0))) rfl) ?_
   exact .inr ⟨g87, c, rfl, by omega, (by have q := H107.at 4 rfl; rw [hrl, hR] at q; exact q), H107.upd 0 rfl [] (fun _ h => h.elim), H107.fresh 0 rfl (fun _ h => h) 4 rfl rfl g87 rfl⟩
end Go.Proofs.YtgigjkjdmalmaaaGreat
