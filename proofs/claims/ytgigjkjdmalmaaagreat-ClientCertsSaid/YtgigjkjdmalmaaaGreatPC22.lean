/- WHAT IS PROVED: contracts and plain laws of ClS. Conditions: stated with each. -/
import Derived.Test.YtgigjkjdmalmaaaGreatPC09
import Derived.Test.YtgigjkjdmalmaaaGreatPC16
import Derived.Test.YtgigjkjdmalmaaaGreatPC19
import Derived.Test.YtgigjkjdmalmaaaGreatPC20
import Derived.Test.YtgigjkjdmalmaaaGreatPC21
set_option maxHeartbeats 4000000
set_option maxRecDepth 100000
namespace Go.Proofs.YtgigjkjdmalmaaaGreat
open Go.RowKit
theorem Z32 (w : World) (cl : Int) (hcl : 0 ≤ cl ∧ cl ≤ 1000000) :
  Calls Tryz.prog 48 #[(.int .i64 (cl))] w fun e w' => e = .returned (.int .i64 (1000 + cl)) ∧ Upd [] w w' := by
 have H := Sat.start0 w
 refine Zv Tryz.func48 rfl 5 rfl (Nat.le_of_ble_eq_true rfl) ?_
 refine Zh ?_
 refine Zs ?_
 refine Z5 (Z2 rfl) (d := 2) (v := (.int .i64 (0))) rfl (by kernel_rfl) ?_
 refine Zr ?_
 refine Z7 ?_
 refine Zh ?_
 refine Zs ?_
 refine Z5 (Z2 rfl) (d := 3) (v := (.int .i64 (cl))) rfl (by kernel_rfl) ?_
 refine Z5 (Z2 rfl) (d := 4) (v := (.int .i64 (1000 + cl))) rfl (Z0h (z := 1000 + cl) (by kernel_rfl) (IntWalk.i64_in _ (by omega))) ?_
 refine Z5 (Z2 rfl) (d := 2) (v := (.int .i64 (1000 + cl))) rfl (by kernel_rfl) ?_
 refine Zr ?_
 refine Z7 ?_
 refine ZU ?_
 refine Z0T rfl (ZK (v := (.int .i64 (1000 + cl))) rfl) ?_
 exact ⟨rfl, H.upd 0 rfl [] (fun _ h => h.elim)⟩
theorem Z2b (w : World) (bb mb : Nat) (L : List Z4) (hA : (ZP [Z3 bb 108 [.map (some mb)], Zn mb Zc (Value.int .i64) (Zk L)]).ok w) (hlL : L.length ≤ 100000) (cl sq : Int) (no : Z1H) (oa : Option Addr) (oc : Nat) (P : List UInt8) (hP0 : ListAt Zo 1 w (.slice oa P.length oc) P) (hlP : P.length ≤ 1000) (hoffP : 0 < P.length → ∀ ad, oa = some ad → ¬ (ZP [Z3 bb 108 [.map (some mb)], Zn mb Zc (Value.int .i64) (Zk L)]).fp ad.block) (hcl : 0 ≤ cl ∧ cl ≤ 1000000) (hsq : 0 ≤ sq ∧ sq ≤ 10000000) :
  Calls Tryz.prog 28 #[(.pointer (some ⟨bb, 0, none⟩)), (.agg ⟨([(.int .i64 (cl)), (.int .i64 (sq))] : List Value)⟩), (.agg ⟨(hc no)⟩), (.slice oa P.length oc)] w fun e w' => e = .returned (.agg ⟨Z1I (⟨cl, sq, Z8 (ofT cl sq no P), P.length, 1000 + cl, Z9 (Zd L (⟨1000 + cl, Z1 (⟨cl, sq, Z8 (ofT cl sq no P), P.length, 0, 0⟩ : Z0)⟩ : Z4)) (⟨1000 + cl, Z1 (⟨cl, sq, Z8 (ofT cl sq no P), P.length, 0, 0⟩ : Z0)⟩ : Z4)⟩ : Z0)⟩) ∧ Sat w [Z3 bb 108 [.map (some mb)], Zn mb Zc (Value.int .i64) (Zk (Zd L (⟨1000 + cl, Z1 (⟨cl, sq, Z8 (ofT cl sq no P), P.length, 0, 0⟩ : Z0)⟩ : Z4))), Za w (ZP [Z3 bb 108 [.map (some mb)], Zn mb Zc (Value.int .i64) (Zk L)]).fp] w' := by
 have H : Sat w [Z3 bb 108 ([(.map (some mb))] : List Value), Zn mb Zc (Value.int .i64) (Zk L), Za w (ZP [Z3 bb 108 [.map (some mb)], Zn mb Zc (Value.int .i64) (Zk L)]).fp] w := Sat.start _ hA
 refine Zv Tryz.func28 rfl 27 rfl (Nat.le_of_ble_eq_true rfl) ?_
 refine Zh ?_
 refine Zs ?_
 refine ZQ (Z2 rfl) (fun K1 hK1 => ?_)
 refine Z0N (vs := ([(.int .i64 (cl)), (.int .i64 (sq))] : List Value)) rfl H rfl rfl ?_
 intro b2 w3 (H4 : Sat w [Z3 bb 108 ([(.map (some mb))] : List Value), Zn mb Zc (Value.int .i64) (Zk L), Za w (ZP [Z3 bb 108 [.map (some mb)], Zn mb Zc (Value.int .i64) (Zk L)]).fp, Z3 b2 43 ([(.int .i64 (cl)), (.int .i64 (sq))] : List Value)] w3)
 refine hK1 _ _ ?_
 clear hK1 K1
 refine ZQ (Z2 rfl) (fun K5 hK5 => ?_)
 refine Z0N (vs := (hc no)) rfl H4 rfl rfl ?_
 intro b6 w7 (H8 : Sat w [Z3 bb 108 ([(.map (some mb))] : List Value), Zn mb Zc (Value.int .i64) (Zk L), Za w (ZP [Z3 bb 108 [.map (some mb)], Zn mb Zc (Value.int .i64) (Zk L)]).fp, Z3 b2 43 ([(.int .i64 (cl)), (.int .i64 (sq))] : List Value), Z3 b6 40 (hc no)] w7)
 refine hK5 _ _ ?_
 clear hK5 K5
 refine ZQ (Z2 rfl) (fun K9 hK9 => ?_)
 refine Z0V (zs := (([(.int .i64 (0)), (.int .i64 (0))] : List Value) ++ hc Zb ++ ([(.int .i64 (0)), (.int .i64 (0)), (.int .i64 (0))] : List Value))) (z := (.agg ⟨(([(.int .i64 (0)), (.int .i64 (0))] : List Value) ++ hc Zb ++ ([(.int .i64 (0)), (.int .i64 (0)), (.int .i64 (0))] : List Value))⟩)) rfl H8 (by kernel_rfl) (by kernel_rfl) ?_
 intro b10 w11 (H12 : Sat w [Z3 bb 108 ([(.map (some mb))] : List Value), Zn mb Zc (Value.int .i64) (Zk L), Za w (ZP [Z3 bb 108 [.map (some mb)], Zn mb Zc (Value.int .i64) (Zk L)]).fp, Z3 b2 43 ([(.int .i64 (cl)), (.int .i64 (sq))] : List Value), Z3 b6 40 (hc no), Z3 b10 54 (([(.int .i64 (0)), (.int .i64 (0))] : List Value) ++ hc Zb ++ ([(.int .i64 (0)), (.int .i64 (0)), (.int .i64 (0))] : List Value))] w11)
 refine hK9 _ _ ?_
 clear hK9 K9
 refine Zr ?_
 refine Z7 ?_
 refine Zh ?_
 refine Z0g H12 [Z3 bb 108 ([(.map (some mb))] : List Value), Zn mb Zc (Value.int .i64) (Zk L), Za w (ZP [Z3 bb 108 [.map (some mb)], Zn mb Zc (Value.int .i64) (Zk L)]).fp, Z3 b2 43 ([(.int .i64 (cl)), (.int .i64 (sq))] : List Value), Z3 b6 40 (hc no), Z3 b10 54 (([(.int .i64 (0)), (.int .i64 (0))] : List Value) ++ hc Zb ++ ([(.int .i64 (0)), (.int .i64 (0)), (.int .i64 (0))] : List Value))] 10 rfl (by kernel_rfl) (fun Hx => (Hx.pick [0, 1, 2, 3, 4, 5] (by decide))) ?_
 intro w13 H14 S15
 refine Zp 0 rfl (by kernel_rfl) (by kernel_rfl) (by kernel_rfl) (fun _ _ _ h => h) S15 (Z2 rfl) (d := 10) (v := (.agg ⟨([(.int .i64 (cl)), (.int .i64 (sq))] : List Value)⟩)) rfl (fun _ H' => (ZE (vs := ([(.int .i64 (cl)), (.int .i64 (sq))] : List Value)) rfl (by kernel_rfl) (by kernel_rfl) (by exact Nat.le_of_ble_eq_true (by kernel_rfl)) (H'.at 3 rfl) (by kernel_rfl))) ?_
 refine Zp 1 rfl (by kernel_rfl) (by kernel_rfl) (by kernel_rfl) (fun _ _ _ h => h) S15 (Z2 rfl) (d := 11) (v := (.agg ⟨([(.int .i64 (cl)), (.int .i64 (sq))] : List Value)⟩)) rfl (fun _ H' => (ZE (vs := ([(.int .i64 (cl)), (.int .i64 (sq))] : List Value)) rfl (by kernel_rfl) (by kernel_rfl) (by exact Nat.le_of_ble_eq_true (by kernel_rfl)) (H'.at 3 rfl) (by kernel_rfl))) ?_
 refine Zp 2 rfl (by kernel_rfl) (by kernel_rfl) (by kernel_rfl) (fun _ _ _ h => h) S15 (Z2 rfl) (d := 12) (v := (.agg ⟨(hc no)⟩)) rfl (fun _ H' => (ZE (vs := (hc no)) rfl (by kernel_rfl) (by kernel_rfl) (by exact Nat.le_of_ble_eq_true (by kernel_rfl)) (H'.at 4 rfl) (by kernel_rfl))) ?_
 refine Zp 3 rfl (by kernel_rfl) (by kernel_rfl) (by kernel_rfl) (fun _ _ _ h => h) S15 (Z2 rfl) (d := 13) (v := (.slice oa P.length oc)) rfl (fun _ H' => (by kernel_rfl)) ?_
 refine Zp 5 rfl (by kernel_rfl) (by kernel_rfl) (by kernel_rfl) (fun _ _ _ h => h) S15 (Z2 rfl) (d := 15) (v := (.slice oa P.length oc)) rfl (fun _ H' => (by kernel_rfl)) ?_
 refine Zp 6 rfl (by kernel_rfl) (by kernel_rfl) (by kernel_rfl) (fun _ _ _ h => h) S15 (Z2 rfl) (d := 16) (v := (.int .i64 ((P.length : Int)))) rfl (fun _ H' => (by kernel_rfl)) ?_
 refine Z2A 4 8 rfl rfl (by kernel_rfl) (Z2 rfl) (Z2 rfl) (fun K16 hK16 => ?_) (fun K16 hK16 => ?_)
 ·refine ZJ (d := 14) rfl (by kernel_rfl) (Z6B w13 cl sq no oa oc P (ListAt.nowD H14 2 rfl hP0 hoffP) (by omega) (by omega) hlP) ?_
  rintro _ w17 ⟨rfl, u19⟩
  have H18 := H14.keepU u19
  refine ⟨_, rfl, ?_⟩
  have S20 := H18.pick [0, 1, 2, 3, 4, 5] (by decide)
  refine hK16 _ _ S20 ?_
  clear hK16 K16
  refine Zp 7 rfl (by kernel_rfl) (by kernel_rfl) (by kernel_rfl) (fun _ _ _ h => h) S20 (Z2 rfl) (d := 17) (v := (.agg ⟨(([(.int .i64 (cl)), (.int .i64 (sq))] : List Value) ++ hc (Z8 (ofT cl sq no P)) ++ ([(.int .i64 ((P.length : Int))), (.int .i64 (0)), (.int .i64 (0))] : List Value))⟩)) rfl (fun _ H' => (by kernel_rfl)) ?_
  refine Z13 8 rfl (by kernel_rfl) (Z2 rfl) (fun K21 hK21 => ?_)
  refine Z0V (zs := (([(.int .i64 (0)), (.int .i64 (0))] : List Value) ++ hc Zb ++ ([(.int .i64 (0)), (.int .i64 (0)), (.int .i64 (0))] : List Value))) (z := (.agg ⟨(([(.int .i64 (0)), (.int .i64 (0))] : List Value) ++ hc Zb ++ ([(.int .i64 (0)), (.int .i64 (0)), (.int .i64 (0))] : List Value))⟩)) rfl H18 (by kernel_rfl) (by kernel_rfl) ?_
  intro b22 w23 (H24 : Sat w [Z3 bb 108 ([(.map (some mb))] : List Value), Zn mb Zc (Value.int .i64) (Zk L), Za w (ZP [Z3 bb 108 [.map (some mb)], Zn mb Zc (Value.int .i64) (Zk L)]).fp, Z3 b2 43 ([(.int .i64 (cl)), (.int .i64 (sq))] : List Value), Z3 b6 40 (hc no), Z3 b10 54 (([(.int .i64 (0)), (.int .i64 (0))] : List Value) ++ hc Zb ++ ([(.int .i64 (0)), (.int .i64 (0)), (.int .i64 (0))] : List Value)), Z3 b22 54 (([(.int .i64 (0)), (.int .i64 (0))] : List Value) ++ hc Zb ++ ([(.int .i64 (0)), (.int .i64 (0)), (.int .i64 (0))] : List Value))] w23)
  have S25 := H24.pick [0, 1, 2, 3, 4, 5] (by decide)
  refine hK21 _ _ S25 ?_
  clear hK21 K21
  refine Z13 9 rfl (by kernel_rfl) (Z2 rfl) (fun K26 hK26 => ?_)
  refine Z01 (vs := (([(.int .i64 (cl)), (.int .i64 (sq))] : List Value) ++ hc (Z8 (ofT cl sq no P)) ++ ([(.int .i64 ((P.length : Int))), (.int .i64 (0)), (.int .i64 (0))] : List Value))) (cs' := (([(.int .i64 (cl)), (.int .i64 (sq))] : List Value) ++ hc (Z8 (ofT cl sq no P)) ++ ([(.int .i64 ((P.length : Int))), (.int .i64 (0)), (.int .i64 (0))] : List Value))) rfl H24 6 rfl rfl rfl rfl (by kernel_rfl) (Nat.le_of_ble_eq_true (by kernel_rfl)) (Nat.le_of_ble_eq_true (by kernel_rfl)) (by kernel_rfl) (by kernel_rfl) ?_
  intro w27 (H28 : Sat w [Z3 bb 108 ([(.map (some mb))] : List Value), Zn mb Zc (Value.int .i64) (Zk L), Za w (ZP [Z3 bb 108 [.map (some mb)], Zn mb Zc (Value.int .i64) (Zk L)]).fp, Z3 b2 43 ([(.int .i64 (cl)), (.int .i64 (sq))] : List Value), Z3 b6 40 (hc no), Z3 b10 54 (([(.int .i64 (0)), (.int .i64 (0))] : List Value) ++ hc Zb ++ ([(.int .i64 (0)), (.int .i64 (0)), (.int .i64 (0))] : List Value)), Z3 b22 54 (([(.int .i64 (cl)), (.int .i64 (sq))] : List Value) ++ hc (Z8 (ofT cl sq no P)) ++ ([(.int .i64 ((P.length : Int))), (.int .i64 (0)), (.int .i64 (0))] : List Value))] w27)
  have S30 := H28.pick [0, 1, 2, 3, 4, 5] (by decide)
  refine hK26 _ _ S30 ?_
  clear hK26 K26
  refine Z0M (by kernel_rfl) ?_
  refine Z7 ?_
  refine Zh ?_
  refine Z12 H28 [Z3 bb 108 ([(.map (some mb))] : List Value), Za w (ZP [Z3 bb 108 [.map (some mb)], Zn mb Zc (Value.int .i64) (Zk L)]).fp, Z3 b2 43 ([(.int .i64 (cl)), (.int .i64 (sq))] : List Value), Z3 b6 40 (hc no), Z3 b10 54 (([(.int .i64 (0)), (.int .i64 (0))] : List Value) ++ hc Zb ++ ([(.int .i64 (0)), (.int .i64 (0)), (.int .i64 (0))] : List Value)), Z3 b22 54 (([(.int .i64 (cl)), (.int .i64 (sq))] : List Value) ++ hc (Z8 (ofT cl sq no P)) ++ ([(.int .i64 ((P.length : Int))), (.int .i64 (0)), (.int .i64 (0))] : List Value))] [8] 9 rfl (by kernel_rfl) (fun Hx => (Hx.pick [0, 2, 3, 4, 5, 6] (by decide))) ?_
  intro w31 H32 S33
  refine ZZ 0 rfl (by kernel_rfl) (by kernel_rfl) (by kernel_rfl) (fun _ _ _ h => h) S33 (Z2 rfl) rfl (d := 18) (v := (.pointer (some ⟨bb, 0, none⟩))) rfl (fun _ => (by kernel_rfl)) ?_
  refine ZZ 1 rfl (by kernel_rfl) (by kernel_rfl) (by kernel_rfl) (fun _ _ _ h => h) S33 (Z2 rfl) rfl (d := 19) (v := (.pointer (some ⟨b2, 0, none⟩))) rfl (fun _ => (by kernel_rfl)) ?_
  refine Z1q 2 rfl (by kernel_rfl) (by kernel_rfl) (by kernel_rfl) (fun _ _ _ h => h) S33 (Z2 rfl) rfl (by kernel_rfl) (d := 20) (v := (.int .i64 (cl))) rfl (fun _ H' => (Zi rfl (by kernel_rfl) (H'.cell 2 rfl rfl))) ?_
  refine Z1q 4 rfl (by kernel_rfl) (by kernel_rfl) (by kernel_rfl) (fun _ _ _ h => h) S33 (Z2 rfl) rfl (by kernel_rfl) (d := 22) (v := (.agg ⟨(([(.int .i64 (cl)), (.int .i64 (sq))] : List Value) ++ hc (Z8 (ofT cl sq no P)) ++ ([(.int .i64 ((P.length : Int))), (.int .i64 (0)), (.int .i64 (0))] : List Value))⟩)) rfl (fun _ H' => (ZE (vs := (([(.int .i64 (cl)), (.int .i64 (sq))] : List Value) ++ hc (Z8 (ofT cl sq no P)) ++ ([(.int .i64 ((P.length : Int))), (.int .i64 (0)), (.int .i64 (0))] : List Value))) rfl (by kernel_rfl) (by kernel_rfl) (by exact Nat.le_of_ble_eq_true (by kernel_rfl)) (H'.at 5 rfl) (by kernel_rfl))) ?_
  refine Z3u 3 rfl (by kernel_rfl) (Z2 rfl) rfl (fun K34 hK34 => ?_)
  refine ZJ (d := 21) rfl (by kernel_rfl) (Z32 w31 cl (by omega)) ?_
  rintro _ w35 ⟨rfl, u37⟩
  have H36 := H32.keepU u37
  refine ⟨_, rfl, ?_⟩
  have S38 := H36.pick [0, 2, 3, 4, 5, 6] (by decide)
  refine hK34 _ _ S38 ?_
  clear hK34 K34
  refine Z3u 5 rfl (by kernel_rfl) (Z2 rfl) rfl (fun K39 hK39 => ?_)
  refine ZJ (d := 23) rfl (by kernel_rfl) (Z1V w35 (⟨cl, sq, (Z8 (ofT cl sq no P)), (P.length : Int), 0, 0⟩ : Z0) ⟨by show cl ≤ _; omega, by show sq ≤ _; omega, by show (P.length : Int) ≤ _; omega⟩) ?_
  rintro _ w40 ⟨u41, rfl, k42, p43, q44⟩
  have H45 : Sat w [Z3 bb 108 ([(.map (some mb))] : List Value), Zn mb Zc (Value.int .i64) (Zk L), Za w (ZP [Z3 bb 108 [.map (some mb)], Zn mb Zc (Value.int .i64) (Zk L)]).fp, Z3 b2 43 ([(.int .i64 (cl)), (.int .i64 (sq))] : List Value), Z3 b6 40 (hc no), Z3 b10 54 (([(.int .i64 (0)), (.int .i64 (0))] : List Value) ++ hc Zb ++ ([(.int .i64 (0)), (.int .i64 (0)), (.int .i64 (0))] : List Value)), Z3 b22 54 (([(.int .i64 (cl)), (.int .i64 (sq))] : List Value) ++ hc (Z8 (ofT cl sq no P)) ++ ([(.int .i64 ((P.length : Int))), (.int .i64 (0)), (.int .i64 (0))] : List Value)), Ze 5 1 u41 ((Z1 (⟨cl, sq, (Z8 (ofT cl sq no P)), (P.length : Int), 0, 0⟩ : Z0)).length) ((Z1 (⟨cl, sq, (Z8 (ofT cl sq no P)), (P.length : Int), 0, 0⟩ : Z0)).flatMap Zo)] w40 := H36.addU p43 k42 q44
  obtain ⟨a46, c47, rfl⟩ := Zg (H45.at 7 rfl)
  refine ⟨_, rfl, ?_⟩
  have S48 := H45.pick [0, 2, 3, 4, 5, 6] (by decide)
  refine hK39 _ _ S48 ?_
  clear hK39 K39
  refine Z3u 6 rfl (by kernel_rfl) (Z2 rfl) rfl (fun K49 hK49 => ?_)
  refine ZJ (d := 24) rfl (by kernel_rfl) (Z3e w40 bb mb L (.slice a46 ((Z1 (⟨cl, sq, (Z8 (ofT cl sq no P)), (P.length : Int), 0, 0⟩ : Z0)).length) c47) (Z1 (⟨cl, sq, (Z8 (ofT cl sq no P)), (P.length : Int), 0, 0⟩ : Z0)) (H45.fin [0, 1, 7] (by decide) rfl) (by omega) (1000 + cl)) ?_
  rintro _ w50 ⟨rfl, T51⟩
  have hsl := Z1T L (⟨1000 + cl, (Z1 (⟨cl, sq, (Z8 (ofT cl sq no P)), (P.length : Int), 0, 0⟩ : Z0))⟩ : Z4)
  have H52 : Sat w [Z3 bb 108 ([(.map (some mb))] : List Value), Zn mb Zc (Value.int .i64) (Zk (Zd L (⟨1000 + cl, (Z1 (⟨cl, sq, (Z8 (ofT cl sq no P)), (P.length : Int), 0, 0⟩ : Z0))⟩ : Z4))), Za w (ZP [Z3 bb 108 [.map (some mb)], Zn mb Zc (Value.int .i64) (Zk L)]).fp, Z3 b2 43 ([(.int .i64 (cl)), (.int .i64 (sq))] : List Value), Z3 b6 40 (hc no), Z3 b10 54 (([(.int .i64 (0)), (.int .i64 (0))] : List Value) ++ hc Zb ++ ([(.int .i64 (0)), (.int .i64 (0)), (.int .i64 (0))] : List Value)), Z3 b22 54 (([(.int .i64 (cl)), (.int .i64 (sq))] : List Value) ++ hc (Z8 (ofT cl sq no P)) ++ ([(.int .i64 ((P.length : Int))), (.int .i64 (0)), (.int .i64 (0))] : List Value)), Ze 5 1 (.slice a46 ((Z1 (⟨cl, sq, (Z8 (ofT cl sq no P)), (P.length : Int), 0, 0⟩ : Z0)).length) c47) ((Z1 (⟨cl, sq, (Z8 (ofT cl sq no P)), (P.length : Int), 0, 0⟩ : Z0)).length) ((Z1 (⟨cl, sq, (Z8 (ofT cl sq no P)), (P.length : Int), 0, 0⟩ : Z0)).flatMap Zo)] w50 := (Sat.turnL (L' := [Z3 bb 108 ([(.map (some mb))] : List Value), Zn mb Zc (Value.int .i64) (Zk (Zd L (⟨1000 + cl, (Z1 (⟨cl, sq, (Z8 (ofT cl sq no P)), (P.length : Int), 0, 0⟩ : Z0))⟩ : Z4))), Ze 5 1 (.slice a46 ((Z1 (⟨cl, sq, (Z8 (ofT cl sq no P)), (P.length : Int), 0, 0⟩ : Z0)).length) c47) ((Z1 (⟨cl, sq, (Z8 (ofT cl sq no P)), (P.length : Int), 0, 0⟩ : Z0)).length) ((Z1 (⟨cl, sq, (Z8 (ofT cl sq no P)), (P.length : Int), 0, 0⟩ : Z0)).flatMap Zo)]) (R := [Za w (ZP [Z3 bb 108 [.map (some mb)], Zn mb Zc (Value.int .i64) (Zk L)]).fp, Z3 b2 43 ([(.int .i64 (cl)), (.int .i64 (sq))] : List Value), Z3 b6 40 (hc no), Z3 b10 54 (([(.int .i64 (0)), (.int .i64 (0))] : List Value) ++ hc Zb ++ ([(.int .i64 (0)), (.int .i64 (0)), (.int .i64 (0))] : List Value)), Z3 b22 54 (([(.int .i64 (cl)), (.int .i64 (sq))] : List Value) ++ hc (Z8 (ofT cl sq no P)) ++ ([(.int .i64 ((P.length : Int))), (.int .i64 (0)), (.int .i64 (0))] : List Value))]) H45 [0, 1, 7] [2, 3, 4, 5, 6] (by decide) (by kernel_rfl) rfl T51).pick [0, 1, 3, 4, 5, 6, 7, 2] (by decide)
  refine ⟨_, rfl, ?_⟩
  have S53 := H52.pick [0, 2, 3, 4, 5, 6] (by decide)
  refine hK49 _ _ S53 ?_
  clear hK49 K49
  refine ZZ 7 rfl (by kernel_rfl) (by kernel_rfl) (by kernel_rfl) (fun _ _ _ h => h) S53 (Z2 rfl) rfl (d := 25) (v := (.pointer (some ⟨b22, 35, none⟩))) rfl (fun _ => (by kernel_rfl)) ?_
  refine Z29 8 (Sat w [Z3 bb 108 ([(.map (some mb))] : List Value), Za w (ZP [Z3 bb 108 [.map (some mb)], Zn mb Zc (Value.int .i64) (Zk L)]).fp, Z3 b2 43 ([(.int .i64 (cl)), (.int .i64 (sq))] : List Value), Z3 b6 40 (hc no), Z3 b10 54 (([(.int .i64 (0)), (.int .i64 (0))] : List Value) ++ hc Zb ++ ([(.int .i64 (0)), (.int .i64 (0)), (.int .i64 (0))] : List Value))]) rfl (by kernel_rfl) (Z2 rfl) rfl (fun K54 hK54 => ?_)
  refine Z01 (vs := ([(.int .i64 (1000 + cl)), (.int .i64 (Z9 (Zd L (⟨1000 + cl, (Z1 (⟨cl, sq, (Z8 (ofT cl sq no P)), (P.length : Int), 0, 0⟩ : Z0))⟩ : Z4)) (⟨1000 + cl, (Z1 (⟨cl, sq, (Z8 (ofT cl sq no P)), (P.length : Int), 0, 0⟩ : Z0))⟩ : Z4)))] : List Value)) (cs' := (([(.int .i64 (cl)), (.int .i64 (sq))] : List Value) ++ hc (Z8 (ofT cl sq no P)) ++ ([(.int .i64 ((P.length : Int))), (.int .i64 (1000 + cl)), (.int .i64 (Z9 (Zd L (⟨1000 + cl, (Z1 (⟨cl, sq, (Z8 (ofT cl sq no P)), (P.length : Int), 0, 0⟩ : Z0))⟩ : Z4)) (⟨1000 + cl, (Z1 (⟨cl, sq, (Z8 (ofT cl sq no P)), (P.length : Int), 0, 0⟩ : Z0))⟩ : Z4)))] : List Value))) rfl H52 6 rfl rfl rfl rfl (by kernel_rfl) (Nat.le_of_ble_eq_true (by kernel_rfl)) (Nat.le_of_ble_eq_true (by kernel_rfl)) (by kernel_rfl) (by kernel_rfl) ?_
  intro w55 (H56 : Sat w [Z3 bb 108 ([(.map (some mb))] : List Value), Zn mb Zc (Value.int .i64) (Zk (Zd L (⟨1000 + cl, (Z1 (⟨cl, sq, (Z8 (ofT cl sq no P)), (P.length : Int), 0, 0⟩ : Z0))⟩ : Z4))), Za w (ZP [Z3 bb 108 [.map (some mb)], Zn mb Zc (Value.int .i64) (Zk L)]).fp, Z3 b2 43 ([(.int .i64 (cl)), (.int .i64 (sq))] : List Value), Z3 b6 40 (hc no), Z3 b10 54 (([(.int .i64 (0)), (.int .i64 (0))] : List Value) ++ hc Zb ++ ([(.int .i64 (0)), (.int .i64 (0)), (.int .i64 (0))] : List Value)), Z3 b22 54 (([(.int .i64 (cl)), (.int .i64 (sq))] : List Value) ++ hc (Z8 (ofT cl sq no P)) ++ ([(.int .i64 ((P.length : Int))), (.int .i64 (1000 + cl)), (.int .i64 (Z9 (Zd L (⟨1000 + cl, (Z1 (⟨cl, sq, (Z8 (ofT cl sq no P)), (P.length : Int), 0, 0⟩ : Z0))⟩ : Z4)) (⟨1000 + cl, (Z1 (⟨cl, sq, (Z8 (ofT cl sq no P)), (P.length : Int), 0, 0⟩ : Z0))⟩ : Z4)))] : List Value)), Ze 5 1 (.slice a46 ((Z1 (⟨cl, sq, (Z8 (ofT cl sq no P)), (P.length : Int), 0, 0⟩ : Z0)).length) c47) ((Z1 (⟨cl, sq, (Z8 (ofT cl sq no P)), (P.length : Int), 0, 0⟩ : Z0)).length) ((Z1 (⟨cl, sq, (Z8 (ofT cl sq no P)), (P.length : Int), 0, 0⟩ : Z0)).flatMap Zo)] w55)
  have S58 := H56.pick [0, 2, 3, 4, 5] (by decide)
  refine hK54 _ _ S58 ?_
  clear hK54 K54
  refine Z0M (by kernel_rfl) ?_
  refine Z7 ?_
  refine Zh ?_
  refine Zs ?_
  refine Z5 (Z2 rfl) (d := 26) (v := (.agg ⟨(([(.int .i64 (cl)), (.int .i64 (sq))] : List Value) ++ hc (Z8 (ofT cl sq no P)) ++ ([(.int .i64 ((P.length : Int))), (.int .i64 (1000 + cl)), (.int .i64 (Z9 (Zd L (⟨1000 + cl, (Z1 (⟨cl, sq, (Z8 (ofT cl sq no P)), (P.length : Int), 0, 0⟩ : Z0))⟩ : Z4)) (⟨1000 + cl, (Z1 (⟨cl, sq, (Z8 (ofT cl sq no P)), (P.length : Int), 0, 0⟩ : Z0))⟩ : Z4)))] : List Value))⟩)) rfl (ZE (vs := (([(.int .i64 (cl)), (.int .i64 (sq))] : List Value) ++ hc (Z8 (ofT cl sq no P)) ++ ([(.int .i64 ((P.length : Int))), (.int .i64 (1000 + cl)), (.int .i64 (Z9 (Zd L (⟨1000 + cl, (Z1 (⟨cl, sq, (Z8 (ofT cl sq no P)), (P.length : Int), 0, 0⟩ : Z0))⟩ : Z4)) (⟨1000 + cl, (Z1 (⟨cl, sq, (Z8 (ofT cl sq no P)), (P.length : Int), 0, 0⟩ : Z0))⟩ : Z4)))] : List Value))) rfl (by kernel_rfl) (by kernel_rfl) (by exact Nat.le_of_ble_eq_true (by kernel_rfl)) (H56.at 6 rfl) (by kernel_rfl)) ?_
  refine ZQ (Z2 rfl) (fun K59 hK59 => ?_)
  refine Z01 (vs := (([(.int .i64 (cl)), (.int .i64 (sq))] : List Value) ++ hc (Z8 (ofT cl sq no P)) ++ ([(.int .i64 ((P.length : Int))), (.int .i64 (1000 + cl)), (.int .i64 (Z9 (Zd L (⟨1000 + cl, (Z1 (⟨cl, sq, (Z8 (ofT cl sq no P)), (P.length : Int), 0, 0⟩ : Z0))⟩ : Z4)) (⟨1000 + cl, (Z1 (⟨cl, sq, (Z8 (ofT cl sq no P)), (P.length : Int), 0, 0⟩ : Z0))⟩ : Z4)))] : List Value))) (cs' := (([(.int .i64 (cl)), (.int .i64 (sq))] : List Value) ++ hc (Z8 (ofT cl sq no P)) ++ ([(.int .i64 ((P.length : Int))), (.int .i64 (1000 + cl)), (.int .i64 (Z9 (Zd L (⟨1000 + cl, (Z1 (⟨cl, sq, (Z8 (ofT cl sq no P)), (P.length : Int), 0, 0⟩ : Z0))⟩ : Z4)) (⟨1000 + cl, (Z1 (⟨cl, sq, (Z8 (ofT cl sq no P)), (P.length : Int), 0, 0⟩ : Z0))⟩ : Z4)))] : List Value))) rfl H56 5 rfl rfl rfl rfl (by kernel_rfl) (Nat.le_of_ble_eq_true (by kernel_rfl)) (Nat.le_of_ble_eq_true (by kernel_rfl)) (by kernel_rfl) (by kernel_rfl) ?_
  intro w60 (H61 : Sat w [Z3 bb 108 ([(.map (some mb))] : List Value), Zn mb Zc (Value.int .i64) (Zk (Zd L (⟨1000 + cl, (Z1 (⟨cl, sq, (Z8 (ofT cl sq no P)), (P.length : Int), 0, 0⟩ : Z0))⟩ : Z4))), Za w (ZP [Z3 bb 108 [.map (some mb)], Zn mb Zc (Value.int .i64) (Zk L)]).fp, Z3 b2 43 ([(.int .i64 (cl)), (.int .i64 (sq))] : List Value), Z3 b6 40 (hc no), Z3 b10 54 (([(.int .i64 (cl)), (.int .i64 (sq))] : List Value) ++ hc (Z8 (ofT cl sq no P)) ++ ([(.int .i64 ((P.length : Int))), (.int .i64 (1000 + cl)), (.int .i64 (Z9 (Zd L (⟨1000 + cl, (Z1 (⟨cl, sq, (Z8 (ofT cl sq no P)), (P.length : Int), 0, 0⟩ : Z0))⟩ : Z4)) (⟨1000 + cl, (Z1 (⟨cl, sq, (Z8 (ofT cl sq no P)), (P.length : Int), 0, 0⟩ : Z0))⟩ : Z4)))] : List Value)), Z3 b22 54 (([(.int .i64 (cl)), (.int .i64 (sq))] : List Value) ++ hc (Z8 (ofT cl sq no P)) ++ ([(.int .i64 ((P.length : Int))), (.int .i64 (1000 + cl)), (.int .i64 (Z9 (Zd L (⟨1000 + cl, (Z1 (⟨cl, sq, (Z8 (ofT cl sq no P)), (P.length : Int), 0, 0⟩ : Z0))⟩ : Z4)) (⟨1000 + cl, (Z1 (⟨cl, sq, (Z8 (ofT cl sq no P)), (P.length : Int), 0, 0⟩ : Z0))⟩ : Z4)))] : List Value)), Ze 5 1 (.slice a46 ((Z1 (⟨cl, sq, (Z8 (ofT cl sq no P)), (P.length : Int), 0, 0⟩ : Z0)).length) c47) ((Z1 (⟨cl, sq, (Z8 (ofT cl sq no P)), (P.length : Int), 0, 0⟩ : Z0)).length) ((Z1 (⟨cl, sq, (Z8 (ofT cl sq no P)), (P.length : Int), 0, 0⟩ : Z0)).flatMap Zo)] w60)
  refine hK59 _ _ ?_
  clear hK59 K59
  refine Zr ?_
  refine Z7 ?_
  refine ZU ?_
  refine Z0T rfl (Z0a (vs := (([(.int .i64 (cl)), (.int .i64 (sq))] : List Value) ++ hc (Z8 (ofT cl sq no P)) ++ ([(.int .i64 ((P.length : Int))), (.int .i64 (1000 + cl)), (.int .i64 (Z9 (Zd L (⟨1000 + cl, (Z1 (⟨cl, sq, (Z8 (ofT cl sq no P)), (P.length : Int), 0, 0⟩ : Z0))⟩ : Z4)) (⟨1000 + cl, (Z1 (⟨cl, sq, (Z8 (ofT cl sq no P)), (P.length : Int), 0, 0⟩ : Z0))⟩ : Z4)))] : List Value))) rfl (by kernel_rfl) (by kernel_rfl) (by exact Nat.le_of_ble_eq_true (by kernel_rfl)) (H61.at 5 rfl) (by kernel_rfl)) ?_
  exact ⟨rfl, H61.pick [0, 1, 2] (by decide)⟩
 ·refine Z0V (zs := (([(.int .i64 (0)), (.int .i64 (0))] : List Value) ++ hc Zb ++ ([(.int .i64 (0)), (.int .i64 (0)), (.int .i64 (0))] : List Value))) (z := (.agg ⟨(([(.int .i64 (0)), (.int .i64 (0))] : List Value) ++ hc Zb ++ ([(.int .i64 (0)), (.int .i64 (0)), (.int .i64 (0))] : List Value))⟩)) rfl H14 (by kernel_rfl) (by kernel_rfl) ?_
  intro b63 w64 (H65 : Sat w [Z3 bb 108 ([(.map (some mb))] : List Value), Zn mb Zc (Value.int .i64) (Zk L), Za w (ZP [Z3 bb 108 [.map (some mb)], Zn mb Zc (Value.int .i64) (Zk L)]).fp, Z3 b2 43 ([(.int .i64 (cl)), (.int .i64 (sq))] : List Value), Z3 b6 40 (hc no), Z3 b10 54 (([(.int .i64 (0)), (.int .i64 (0))] : List Value) ++ hc Zb ++ ([(.int .i64 (0)), (.int .i64 (0)), (.int .i64 (0))] : List Value)), Z3 b63 54 (([(.int .i64 (0)), (.int .i64 (0))] : List Value) ++ hc Zb ++ ([(.int .i64 (0)), (.int .i64 (0)), (.int .i64 (0))] : List Value))] w64)
  have S66 := H65.pick [0, 1, 2, 3, 4, 5] (by decide)
  refine hK16 _ _ S66 ?_
  clear hK16 K16
  refine Z13 4 rfl (by kernel_rfl) (Z2 rfl) (fun K67 hK67 => ?_)
  refine ZJ (d := 14) rfl (by kernel_rfl) (Z6B w64 cl sq no oa oc P (ListAt.nowD H65 2 rfl hP0 hoffP) (by omega) (by omega) hlP) ?_
  rintro _ w68 ⟨rfl, u70⟩
  have H69 := H65.keepU u70
  refine ⟨_, rfl, ?_⟩
  have S71 := H69.pick [0, 1, 2, 3, 4, 5] (by decide)
  refine hK67 _ _ S71 ?_
  clear hK67 K67
  refine Zp 7 rfl (by kernel_rfl) (by kernel_rfl) (by kernel_rfl) (fun _ _ _ h => h) S71 (Z2 rfl) (d := 17) (v := (.agg ⟨(([(.int .i64 (cl)), (.int .i64 (sq))] : List Value) ++ hc (Z8 (ofT cl sq no P)) ++ ([(.int .i64 ((P.length : Int))), (.int .i64 (0)), (.int .i64 (0))] : List Value))⟩)) rfl (fun _ H' => (by kernel_rfl)) ?_
  refine Z13 9 rfl (by kernel_rfl) (Z2 rfl) (fun K72 hK72 => ?_)
  refine Z01 (vs := (([(.int .i64 (cl)), (.int .i64 (sq))] : List Value) ++ hc (Z8 (ofT cl sq no P)) ++ ([(.int .i64 ((P.length : Int))), (.int .i64 (0)), (.int .i64 (0))] : List Value))) (cs' := (([(.int .i64 (cl)), (.int .i64 (sq))] : List Value) ++ hc (Z8 (ofT cl sq no P)) ++ ([(.int .i64 ((P.length : Int))), (.int .i64 (0)), (.int .i64 (0))] : List Value))) rfl H69 6 rfl rfl rfl rfl (by kernel_rfl) (Nat.le_of_ble_eq_true (by kernel_rfl)) (Nat.le_of_ble_eq_true (by kernel_rfl)) (by kernel_rfl) (by kernel_rfl) ?_
  intro w73 (H74 : Sat w [Z3 bb 108 ([(.map (some mb))] : List Value), Zn mb Zc (Value.int .i64) (Zk L), Za w (ZP [Z3 bb 108 [.map (some mb)], Zn mb Zc (Value.int .i64) (Zk L)]).fp, Z3 b2 43 ([(.int .i64 (cl)), (.int .i64 (sq))] : List Value), Z3 b6 40 (hc no), Z3 b10 54 (([(.int .i64 (0)), (.int .i64 (0))] : List Value) ++ hc Zb ++ ([(.int .i64 (0)), (.int .i64 (0)), (.int .i64 (0))] : List Value)), Z3 b63 54 (([(.int .i64 (cl)), (.int .i64 (sq))] : List Value) ++ hc (Z8 (ofT cl sq no P)) ++ ([(.int .i64 ((P.length : Int))), (.int .i64 (0)), (.int .i64 (0))] : List Value))] w73)
  have S76 := H74.pick [0, 1, 2, 3, 4, 5] (by decide)
  refine hK72 _ _ S76 ?_
  clear hK72 K72
  refine Z0M (by kernel_rfl) ?_
  refine Z7 ?_
  refine Zh ?_
  refine Z12 H74 [Z3 bb 108 ([(.map (some mb))] : List Value), Za w (ZP [Z3 bb 108 [.map (some mb)], Zn mb Zc (Value.int .i64) (Zk L)]).fp, Z3 b2 43 ([(.int .i64 (cl)), (.int .i64 (sq))] : List Value), Z3 b6 40 (hc no), Z3 b10 54 (([(.int .i64 (0)), (.int .i64 (0))] : List Value) ++ hc Zb ++ ([(.int .i64 (0)), (.int .i64 (0)), (.int .i64 (0))] : List Value)), Z3 b63 54 (([(.int .i64 (cl)), (.int .i64 (sq))] : List Value) ++ hc (Z8 (ofT cl sq no P)) ++ ([(.int .i64 ((P.length : Int))), (.int .i64 (0)), (.int .i64 (0))] : List Value))] [8] 9 rfl (by kernel_rfl) (fun Hx => (Hx.pick [0, 2, 3, 4, 5, 6] (by decide))) ?_
  intro w77 H78 S79
  refine ZZ 0 rfl (by kernel_rfl) (by kernel_rfl) (by kernel_rfl) (fun _ _ _ h => h) S79 (Z2 rfl) rfl (d := 18) (v := (.pointer (some ⟨bb, 0, none⟩))) rfl (fun _ => (by kernel_rfl)) ?_
  refine ZZ 1 rfl (by kernel_rfl) (by kernel_rfl) (by kernel_rfl) (fun _ _ _ h => h) S79 (Z2 rfl) rfl (d := 19) (v := (.pointer (some ⟨b2, 0, none⟩))) rfl (fun _ => (by kernel_rfl)) ?_
  refine Z1q 2 rfl (by kernel_rfl) (by kernel_rfl) (by kernel_rfl) (fun _ _ _ h => h) S79 (Z2 rfl) rfl (by kernel_rfl) (d := 20) (v := (.int .i64 (cl))) rfl (fun _ H' => (Zi rfl (by kernel_rfl) (H'.cell 2 rfl rfl))) ?_
  refine Z1q 4 rfl (by kernel_rfl) (by kernel_rfl) (by kernel_rfl) (fun _ _ _ h => h) S79 (Z2 rfl) rfl (by kernel_rfl) (d := 22) (v := (.agg ⟨(([(.int .i64 (cl)), (.int .i64 (sq))] : List Value) ++ hc (Z8 (ofT cl sq no P)) ++ ([(.int .i64 ((P.length : Int))), (.int .i64 (0)), (.int .i64 (0))] : List Value))⟩)) rfl (fun _ H' => (ZE (vs := (([(.int .i64 (cl)), (.int .i64 (sq))] : List Value) ++ hc (Z8 (ofT cl sq no P)) ++ ([(.int .i64 ((P.length : Int))), (.int .i64 (0)), (.int .i64 (0))] : List Value))) rfl (by kernel_rfl) (by kernel_rfl) (by exact Nat.le_of_ble_eq_true (by kernel_rfl)) (H'.at 5 rfl) (by kernel_rfl))) ?_
  refine Z3u 3 rfl (by kernel_rfl) (Z2 rfl) rfl (fun K80 hK80 => ?_)
  refine ZJ (d := 21) rfl (by kernel_rfl) (Z32 w77 cl (by omega)) ?_
  rintro _ w81 ⟨rfl, u83⟩
  have H82 := H78.keepU u83
  refine ⟨_, rfl, ?_⟩
  have S84 := H82.pick [0, 2, 3, 4, 5, 6] (by decide)
  refine hK80 _ _ S84 ?_
  clear hK80 K80
  refine Z3u 5 rfl (by kernel_rfl) (Z2 rfl) rfl (fun K85 hK85 => ?_)
  refine ZJ (d := 23) rfl (by kernel_rfl) (Z1V w81 (⟨cl, sq, (Z8 (ofT cl sq no P)), (P.length : Int), 0, 0⟩ : Z0) ⟨by show cl ≤ _; omega, by show sq ≤ _; omega, by show (P.length : Int) ≤ _; omega⟩) ?_
  rintro _ w86 ⟨u87, rfl, k88, p89, q90⟩
  have H91 : Sat w [Z3 bb 108 ([(.map (some mb))] : List Value), Zn mb Zc (Value.int .i64) (Zk L), Za w (ZP [Z3 bb 108 [.map (some mb)], Zn mb Zc (Value.int .i64) (Zk L)]).fp, Z3 b2 43 ([(.int .i64 (cl)), (.int .i64 (sq))] : List Value), Z3 b6 40 (hc no), Z3 b10 54 (([(.int .i64 (0)), (.int .i64 (0))] : List Value) ++ hc Zb ++ ([(.int .i64 (0)), (.int .i64 (0)), (.int .i64 (0))] : List Value)), Z3 b63 54 (([(.int .i64 (cl)), (.int .i64 (sq))] : List Value) ++ hc (Z8 (ofT cl sq no P)) ++ ([(.int .i64 ((P.length : Int))), (.int .i64 (0)), (.int .i64 (0))] : List Value)), Ze 5 1 u87 ((Z1 (⟨cl, sq, (Z8 (ofT cl sq no P)), (P.length : Int), 0, 0⟩ : Z0)).length) ((Z1 (⟨cl, sq, (Z8 (ofT cl sq no P)), (P.length : Int), 0, 0⟩ : Z0)).flatMap Zo)] w86 := H82.addU p89 k88 q90
  obtain ⟨a92, c93, rfl⟩ := Zg (H91.at 7 rfl)
  refine ⟨_, rfl, ?_⟩
  have S94 := H91.pick [0, 2, 3, 4, 5, 6] (by decide)
  refine hK85 _ _ S94 ?_
  clear hK85 K85
  refine Z3u 6 rfl (by kernel_rfl) (Z2 rfl) rfl (fun K95 hK95 => ?_)
  refine ZJ (d := 24) rfl (by kernel_rfl) (Z3e w86 bb mb L (.slice a92 ((Z1 (⟨cl, sq, (Z8 (ofT cl sq no P)), (P.length : Int), 0, 0⟩ : Z0)).length) c93) (Z1 (⟨cl, sq, (Z8 (ofT cl sq no P)), (P.length : Int), 0, 0⟩ : Z0)) (H91.fin [0, 1, 7] (by decide) rfl) (by omega) (1000 + cl)) ?_
  rintro _ w96 ⟨rfl, T97⟩
  have hsl := Z1T L (⟨1000 + cl, (Z1 (⟨cl, sq, (Z8 (ofT cl sq no P)), (P.length : Int), 0, 0⟩ : Z0))⟩ : Z4)
  have H98 : Sat w [Z3 bb 108 ([(.map (some mb))] : List Value), Zn mb Zc (Value.int .i64) (Zk (Zd L (⟨1000 + cl, (Z1 (⟨cl, sq, (Z8 (ofT cl sq no P)), (P.length : Int), 0, 0⟩ : Z0))⟩ : Z4))), Za w (ZP [Z3 bb 108 [.map (some mb)], Zn mb Zc (Value.int .i64) (Zk L)]).fp, Z3 b2 43 ([(.int .i64 (cl)), (.int .i64 (sq))] : List Value), Z3 b6 40 (hc no), Z3 b10 54 (([(.int .i64 (0)), (.int .i64 (0))] : List Value) ++ hc Zb ++ ([(.int .i64 (0)), (.int .i64 (0)), (.int .i64 (0))] : List Value)), Z3 b63 54 (([(.int .i64 (cl)), (.int .i64 (sq))] : List Value) ++ hc (Z8 (ofT cl sq no P)) ++ ([(.int .i64 ((P.length : Int))), (.int .i64 (0)), (.int .i64 (0))] : List Value)), Ze 5 1 (.slice a92 ((Z1 (⟨cl, sq, (Z8 (ofT cl sq no P)), (P.length : Int), 0, 0⟩ : Z0)).length) c93) ((Z1 (⟨cl, sq, (Z8 (ofT cl sq no P)), (P.length : Int), 0, 0⟩ : Z0)).length) ((Z1 (⟨cl, sq, (Z8 (ofT cl sq no P)), (P.length : Int), 0, 0⟩ : Z0)).flatMap Zo)] w96 := (Sat.turnL (L' := [Z3 bb 108 ([(.map (some mb))] : List Value), Zn mb Zc (Value.int .i64) (Zk (Zd L (⟨1000 + cl, (Z1 (⟨cl, sq, (Z8 (ofT cl sq no P)), (P.length : Int), 0, 0⟩ : Z0))⟩ : Z4))), Ze 5 1 (.slice a92 ((Z1 (⟨cl, sq, (Z8 (ofT cl sq no P)), (P.length : Int), 0, 0⟩ : Z0)).length) c93) ((Z1 (⟨cl, sq, (Z8 (ofT cl sq no P)), (P.length : Int), 0, 0⟩ : Z0)).length) ((Z1 (⟨cl, sq, (Z8 (ofT cl sq no P)), (P.length : Int), 0, 0⟩ : Z0)).flatMap Zo)]) (R := [Za w (ZP [Z3 bb 108 [.map (some mb)], Zn mb Zc (Value.int .i64) (Zk L)]).fp, Z3 b2 43 ([(.int .i64 (cl)), (.int .i64 (sq))] : List Value), Z3 b6 40 (hc no), Z3 b10 54 (([(.int .i64 (0)), (.int .i64 (0))] : List Value) ++ hc Zb ++ ([(.int .i64 (0)), (.int .i64 (0)), (.int .i64 (0))] : List Value)), Z3 b63 54 (([(.int .i64 (cl)), (.int .i64 (sq))] : List Value) ++ hc (Z8 (ofT cl sq no P)) ++ ([(.int .i64 ((P.length : Int))), (.int .i64 (0)), (.int .i64 (0))] : List Value))]) H91 [0, 1, 7] [2, 3, 4, 5, 6] (by decide) (by kernel_rfl) rfl T97).pick [0, 1, 3, 4, 5, 6, 7, 2] (by decide)
  refine ⟨_, rfl, ?_⟩
  have S99 := H98.pick [0, 2, 3, 4, 5, 6] (by decide)
  refine hK95 _ _ S99 ?_
  clear hK95 K95
  refine ZZ 7 rfl (by kernel_rfl) (by kernel_rfl) (by kernel_rfl) (fun _ _ _ h => h) S99 (Z2 rfl) rfl (d := 25) (v := (.pointer (some ⟨b63, 35, none⟩))) rfl (fun _ => (by kernel_rfl)) ?_
  refine Z29 8 (Sat w [Z3 bb 108 ([(.map (some mb))] : List Value), Za w (ZP [Z3 bb 108 [.map (some mb)], Zn mb Zc (Value.int .i64) (Zk L)]).fp, Z3 b2 43 ([(.int .i64 (cl)), (.int .i64 (sq))] : List Value), Z3 b6 40 (hc no), Z3 b10 54 (([(.int .i64 (0)), (.int .i64 (0))] : List Value) ++ hc Zb ++ ([(.int .i64 (0)), (.int .i64 (0)), (.int .i64 (0))] : List Value))]) rfl (by kernel_rfl) (Z2 rfl) rfl (fun K100 hK100 => ?_)
  refine Z01 (vs := ([(.int .i64 (1000 + cl)), (.int .i64 (Z9 (Zd L (⟨1000 + cl, (Z1 (⟨cl, sq, (Z8 (ofT cl sq no P)), (P.length : Int), 0, 0⟩ : Z0))⟩ : Z4)) (⟨1000 + cl, (Z1 (⟨cl, sq, (Z8 (ofT cl sq no P)), (P.length : Int), 0, 0⟩ : Z0))⟩ : Z4)))] : List Value)) (cs' := (([(.int .i64 (cl)), (.int .i64 (sq))] : List Value) ++ hc (Z8 (ofT cl sq no P)) ++ ([(.int .i64 ((P.length : Int))), (.int .i64 (1000 + cl)), (.int .i64 (Z9 (Zd L (⟨1000 + cl, (Z1 (⟨cl, sq, (Z8 (ofT cl sq no P)), (P.length : Int), 0, 0⟩ : Z0))⟩ : Z4)) (⟨1000 + cl, (Z1 (⟨cl, sq, (Z8 (ofT cl sq no P)), (P.length : Int), 0, 0⟩ : Z0))⟩ : Z4)))] : List Value))) rfl H98 6 rfl rfl rfl rfl (by kernel_rfl) (Nat.le_of_ble_eq_true (by kernel_rfl)) (Nat.le_of_ble_eq_true (by kernel_rfl)) (by kernel_rfl) (by kernel_rfl) ?_
  intro w101 (H102 : Sat w [Z3 bb 108 ([(.map (some mb))] : List Value), Zn mb Zc (Value.int .i64) (Zk (Zd L (⟨1000 + cl, (Z1 (⟨cl, sq, (Z8 (ofT cl sq no P)), (P.length : Int), 0, 0⟩ : Z0))⟩ : Z4))), Za w (ZP [Z3 bb 108 [.map (some mb)], Zn mb Zc (Value.int .i64) (Zk L)]).fp, Z3 b2 43 ([(.int .i64 (cl)), (.int .i64 (sq))] : List Value), Z3 b6 40 (hc no), Z3 b10 54 (([(.int .i64 (0)), (.int .i64 (0))] : List Value) ++ hc Zb ++ ([(.int .i64 (0)), (.int .i64 (0)), (.int .i64 (0))] : List Value)), Z3 b63 54 (([(.int .i64 (cl)), (.int .i64 (sq))] : List Value) ++ hc (Z8 (ofT cl sq no P)) ++ ([(.int .i64 ((P.length : Int))), (.int .i64 (1000 + cl)), (.int .i64 (Z9 (Zd L (⟨1000 + cl, (Z1 (⟨cl, sq, (Z8 (ofT cl sq no P)), (P.length : Int), 0, 0⟩ : Z0))⟩ : Z4)) (⟨1000 + cl, (Z1 (⟨cl, sq, (Z8 (ofT cl sq no P)), (P.length : Int), 0, 0⟩ : Z0))⟩ : Z4)))] : List Value)), Ze 5 1 (.slice a92 ((Z1 (⟨cl, sq, (Z8 (ofT cl sq no P)), (P.length : Int), 0, 0⟩ : Z0)).length) c93) ((Z1 (⟨cl, sq, (Z8 (ofT cl sq no P)), (P.length : Int), 0, 0⟩ : Z0)).length) ((Z1 (⟨cl, sq, (Z8 (ofT cl sq no P)), (P.length : Int), 0, 0⟩ : Z0)).flatMap Zo)] w101)
  have S104 := H102.pick [0, 2, 3, 4, 5] (by decide)
  refine hK100 _ _ S104 ?_
  clear hK100 K100
  refine Z0M (by kernel_rfl) ?_
  refine Z7 ?_
  refine Zh ?_
  refine Zs ?_
  refine Z5 (Z2 rfl) (d := 26) (v := (.agg ⟨(([(.int .i64 (cl)), (.int .i64 (sq))] : List Value) ++ hc (Z8 (ofT cl sq no P)) ++ ([(.int .i64 ((P.length : Int))), (.int .i64 (1000 + cl)), (.int .i64 (Z9 (Zd L (⟨1000 + cl, (Z1 (⟨cl, sq, (Z8 (ofT cl sq no P)), (P.length : Int), 0, 0⟩ : Z0))⟩ : Z4)) (⟨1000 + cl, (Z1 (⟨cl, sq, (Z8 (ofT cl sq no P)), (P.length : Int), 0, 0⟩ : Z0))⟩ : Z4)))] : List Value))⟩)) rfl (ZE (vs := (([(.int .i64 (cl)), (.int .i64 (sq))] : List Value) ++ hc (Z8 (ofT cl sq no P)) ++ ([(.int .i64 ((P.length : Int))), (.int .i64 (1000 + cl)), (.int .i64 (Z9 (Zd L (⟨1000 + cl, (Z1 (⟨cl, sq, (Z8 (ofT cl sq no P)), (P.length : Int), 0, 0⟩ : Z0))⟩ : Z4)) (⟨1000 + cl, (Z1 (⟨cl, sq, (Z8 (ofT cl sq no P)), (P.length : Int), 0, 0⟩ : Z0))⟩ : Z4)))] : List Value))) rfl (by kernel_rfl) (by kernel_rfl) (by exact Nat.le_of_ble_eq_true (by kernel_rfl)) (H102.at 6 rfl) (by kernel_rfl)) ?_
  refine ZQ (Z2 rfl) (fun K105 hK105 => ?_)
  refine Z01 (vs := (([(.int .i64 (cl)), (.int .i64 (sq))] : List Value) ++ hc (Z8 (ofT cl sq no P)) ++ ([(.int .i64 ((P.length : Int))), (.int .i64 (1000 + cl)), (.int .i64 (Z9 (Zd L (⟨1000 + cl, (Z1 (⟨cl, sq, (Z8 (ofT cl sq no P)), (P.length : Int), 0, 0⟩ : Z0))⟩ : Z4)) (⟨1000 + cl, (Z1 (⟨cl, sq, (Z8 (ofT cl sq no P)), (P.length : Int), 0, 0⟩ : Z0))⟩ : Z4)))] : List Value))) (cs' := (([(.int .i64 (cl)), (.int .i64 (sq))] : List Value) ++ hc (Z8 (ofT cl sq no P)) ++ ([(.int .i64 ((P.length : Int))), (.int .i64 (1000 + cl)), (.int .i64 (Z9 (Zd L (⟨1000 + cl, (Z1 (⟨cl, sq, (Z8 (ofT cl sq no P)), (P.length : Int), 0, 0⟩ : Z0))⟩ : Z4)) (⟨1000 + cl, (Z1 (⟨cl, sq, (Z8 (ofT cl sq no P)), (P.length : Int), 0, 0⟩ : Z0))⟩ : Z4)))] : List Value))) rfl H102 5 rfl rfl rfl rfl (by kernel_rfl) (Nat.le_of_ble_eq_true (by kernel_rfl)) (Nat.le_of_ble_eq_true (by kernel_rfl)) (by kernel_rfl) (by kernel_rfl) ?_
  intro w106 (H107 : Sat w [Z3 bb 108 ([(.map (some mb))] : List Value), Zn mb Zc (Value.int .i64) (Zk (Zd L (⟨1000 + cl, (Z1 (⟨cl, sq, (Z8 (ofT cl sq no P)), (P.length : Int), 0, 0⟩ : Z0))⟩ : Z4))), Za w (ZP [Z3 bb 108 [.map (some mb)], Zn mb Zc (Value.int .i64) (Zk L)]).fp, Z3 b2 43 ([(.int .i64 (cl)), (.int .i64 (sq))] : List Value), Z3 b6 40 (hc no), Z3 b10 54 (([(.int .i64 (cl)), (.int .i64 (sq))] : List Value) ++ hc (Z8 (ofT cl sq no P)) ++ ([(.int .i64 ((P.length : Int))), (.int .i64 (1000 + cl)), (.int .i64 (Z9 (Zd L (⟨1000 + cl, (Z1 (⟨cl, sq, (Z8 (ofT cl sq no P)), (P.length : Int), 0, 0⟩ : Z0))⟩ : Z4)) (⟨1000 + cl, (Z1 (⟨cl, sq, (Z8 (ofT cl sq no P)), (P.length : Int), 0, 0⟩ : Z0))⟩ : Z4)))] : List Value)), Z3 b63 54 (([(.int .i64 (cl)), (.int .i64 (sq))] : List Value) ++ hc (Z8 (ofT cl sq no P)) ++ ([(.int .i64 ((P.length : Int))), (.int .i64 (1000 + cl)), (.int .i64 (Z9 (Zd L (⟨1000 + cl, (Z1 (⟨cl, sq, (Z8 (ofT cl sq no P)), (P.length : Int), 0, 0⟩ : Z0))⟩ : Z4)) (⟨1000 + cl, (Z1 (⟨cl, sq, (Z8 (ofT cl sq no P)), (P.length : Int), 0, 0⟩ : Z0))⟩ : Z4)))] : List Value)), Ze 5 1 (.slice a92 ((Z1 (⟨cl, sq, (Z8 (ofT cl sq no P)), (P.length : Int), 0, 0⟩ : Z0)).length) c93) ((Z1 (⟨cl, sq, (Z8 (ofT cl sq no P)), (P.length : Int), 0, 0⟩ : Z0)).length) ((Z1 (⟨cl, sq, (Z8 (ofT cl sq no P)), (P.length : Int), 0, 0⟩ : Z0)).flatMap Zo)] w106)
  refine hK105 _ _ ?_
  clear hK105 K105
  refine Zr ?_
  refine Z7 ?_
  refine ZU ?_
  refine Z0T rfl (Z0a (vs := (([(.int .i64 (cl)), (.int .i64 (sq))] : List Value) ++ hc (Z8 (ofT cl sq no P)) ++ ([(.int .i64 ((P.length : Int))), (.int .i64 (1000 + cl)), (.int .i64 (Z9 (Zd L (⟨1000 + cl, (Z1 (⟨cl, sq, (Z8 (ofT cl sq no P)), (P.length : Int), 0, 0⟩ : Z0))⟩ : Z4)) (⟨1000 + cl, (Z1 (⟨cl, sq, (Z8 (ofT cl sq no P)), (P.length : Int), 0, 0⟩ : Z0))⟩ : Z4)))] : List Value))) rfl (by kernel_rfl) (by kernel_rfl) (by exact Nat.le_of_ble_eq_true (by kernel_rfl)) (H107.at 5 rfl) (by kernel_rfl)) ?_
  exact ⟨rfl, H107.pick [0, 1, 2] (by decide)⟩
theorem Z1n (w : World) (c bb : Nat) (F Cn id : Int) (v : Value) (hcl : (Z3 c 112 [.int .i64 F, .int .i64 Cn, .int .i64 id, .pointer (some ⟨bb, 0, none⟩), v]).ok w) (hF : 1 ≤ F ∧ F ≤ 100) (hid : 0 ≤ id ∧ id ≤ 1000000) (x : Z0) (pa : Option Addr) (pc : Nat) (P : List UInt8) (no : Z1H) (ms ma mr mp : Nat) :
  Calls Tryz.prog 30 #[(.pointer (some ⟨c, 0, none⟩)), (.agg ⟨(([(.int .i64 (x.cl)), (.int .i64 (x.seq))] : List Value) ++ hc x.h ++ ([(.int .i64 (x.len)), (.int .i64 (x.sb)), (.int .i64 (x.sm)), ((.slice pa P.length pc))] : List Value) ++ hc no ++ ([(.map (some ms)), (.pointer none), (.map (some ma)), (.map (some mr)), (.bool false), (.int .i64 (0)), (.map (some mp)), (.bool false), (ZX ([]))] : List Value))⟩)] w fun e w' => ∃ (da : Option Addr) (dc : Nat) (D : List OmR) (B : List Ck), e = .returned (.slice da D.length dc) ∧ (D.length : Int) = 3 * F + 1 ∧ (∀ j, j < D.length → Z5B (1000 + id) (⟨1, 0, 0, x, co0, none, 0, [], 0, none, 0, [], Zb⟩ : OmR) B j (D.getD j om0)) ∧ (ZP [Ze 82 295 (.slice da D.length dc) D.length (D.flatMap Z0b), Z0u B]).ok w' ∧ Upd [] w w' ∧ ∀ q_, (ZP [Ze 82 295 (.slice da D.length dc) D.length (D.flatMap Z0b), Z0u B]).fp q_ → w.heap.size ≤ q_ := by
 have H := Sat.start0 w
 refine Zv Tryz.func30 rfl 37 rfl (Nat.le_of_ble_eq_true rfl) ?_
 refine Zh ?_
 refine Zs ?_
 refine ZQ (Z2 rfl) (fun K1 hK1 => ?_)
 refine Z0N (vs := (([(.int .i64 (x.cl)), (.int .i64 (x.seq))] : List Value) ++ hc x.h ++ ([(.int .i64 (x.len)), (.int .i64 (x.sb)), (.int .i64 (x.sm)), ((.slice pa P.length pc))] : List Value) ++ hc no ++ ([(.map (some ms)), (.pointer none), (.map (some ma)), (.map (some mr)), (.bool false), (.int .i64 (0)), (.map (some mp)), (.bool false), (ZX ([]))] : List Value))) rfl H rfl rfl ?_
 intro b2 w3 (H4 : Sat w [Za w (fun _ => False), Z3 b2 119 (([(.int .i64 (x.cl)), (.int .i64 (x.seq))] : List Value) ++ hc x.h ++ ([(.int .i64 (x.len)), (.int .i64 (x.sb)), (.int .i64 (x.sm)), ((.slice pa P.length pc))] : List Value) ++ hc no ++ ([(.map (some ms)), (.pointer none), (.map (some ma)), (.map (some mr)), (.bool false), (.int .i64 (0)), (.map (some mp)), (.bool false), (ZX ([]))] : List Value))] w3)
 refine hK1 _ _ ?_
 clear hK1 K1
 refine Z5 (Z2 rfl) (d := 4) (v := (.slice none 0 0)) rfl (by kernel_rfl) ?_
 refine Zr ?_
 refine Z7 ?_
 refine Zh ?_
 refine ZM ?_
 refine Zh ?_
 refine Zs ?_
 refine Z5 (Z2 rfl) (d := 6) (v := (.pointer (some ⟨b2, 77, none⟩))) rfl (by kernel_rfl) ?_
 refine Z5 (Z2 rfl) (d := 7) (v := (.bool false)) rfl (Zi rfl (by kernel_rfl) (H4.cell 1 rfl (by kernel_rfl))) ?_
 refine Z5 (Z2 rfl) (d := 5) (v := (.bool false)) rfl (by kernel_rfl) ?_
 refine Zr ?_
 refine Z7 ?_
 refine Z0o rfl ?_
 refine Zh ?_
 refine Zs ?_
 refine Z5 (Z2 rfl) (d := 9) (v := (.pointer (some ⟨b2, 74, none⟩))) rfl (by kernel_rfl) ?_
 refine Z5 (Z2 rfl) (d := 10) (v := (.bool false)) rfl (Zi rfl (by kernel_rfl) (H4.cell 1 rfl (by kernel_rfl))) ?_
 refine Z5 (Z2 rfl) (d := 8) (v := (.bool false)) rfl (by kernel_rfl) ?_
 refine Zr ?_
 refine Z7 ?_
 refine Z0o rfl ?_
 refine Zh ?_
 refine Zs ?_
 refine Z5 (Z2 rfl) (d := 22) (v := (.pointer (some ⟨b2, 71, none⟩))) rfl (by kernel_rfl) ?_
 refine Z5 (Z2 rfl) (d := 23) (v := (.pointer none)) rfl (Zi rfl (by kernel_rfl) (H4.cell 1 rfl (by kernel_rfl))) ?_
 refine Z5 (Z2 rfl) (d := 24) (v := (.bool false)) rfl (by kernel_rfl) ?_
 refine Z5 (Z2 rfl) (d := 21) (v := (.bool false)) rfl (by kernel_rfl) ?_
 refine Zr ?_
 refine Z7 ?_
 refine Z0o rfl ?_
 refine ZW ?_
 refine ZR ?_
 refine Z7 ?_
 refine Zh ?_
 refine Zs ?_
 refine Z5 (Z2 rfl) (d := 32) (v := (.pointer (some ⟨c, 0, none⟩))) rfl (by kernel_rfl) ?_
 refine Z5 (Z2 rfl) (d := 33) (v := (.pointer (some ⟨b2, 0, none⟩))) rfl (by kernel_rfl) ?_
 refine Z5 (Z2 rfl) (d := 34) (v := (.agg ⟨(([(.int .i64 (x.cl)), (.int .i64 (x.seq))] : List Value) ++ hc x.h ++ ([(.int .i64 (x.len)), (.int .i64 (x.sb)), (.int .i64 (x.sm))] : List Value))⟩)) rfl (ZE (vs := (([(.int .i64 (x.cl)), (.int .i64 (x.seq))] : List Value) ++ hc x.h ++ ([(.int .i64 (x.len)), (.int .i64 (x.sb)), (.int .i64 (x.sm))] : List Value))) rfl (by kernel_rfl) (by kernel_rfl) (by exact Nat.le_of_ble_eq_true (by kernel_rfl)) (H4.at 1 rfl) (by kernel_rfl)) ?_
 refine Z5 (Z2 rfl) (d := 35) (v := (.agg ⟨(([(.int .i64 (1)), (.int .i64 (0)), (.int .i64 (0)), (.int .i64 (x.cl)), (.int .i64 (x.seq))] : List Value) ++ hc x.h ++ ([(.int .i64 (x.len)), (.int .i64 (x.sb)), (.int .i64 (x.sm)), (.int .i64 (0)), (.int .i64 (0)), (.int .i64 (0))] : List Value) ++ hc Zb ++ ([(.int .u64 (0)), (.int .i64 (0)), (.int .i64 (0)), (.int .i64 (0)), (.int .i64 (0))] : List Value) ++ hc Zb ++ ([(.int .i64 (0)), (.int .i64 (0)), (.int .i64 (0)), (.slice none 0 0), (.int .i64 (0)), (.int .i64 (0)), (.int .i64 (0))] : List Value) ++ hc Zb ++ ([(.int .u64 (0)), (.int .i64 (0)), (.int .i64 (0)), (.int .i64 (0)), (.int .i64 (0)), (.int .u64 (0)), (.int .i64 (0)), (.int .i64 (0)), (.int .u64 (0)), (.slice none 0 0), (.int .i64 (0)), (.int .i64 (0)), (.int .i64 (0)), (.int .i64 (0)), (.int .i64 (0)), (.int .i64 (0)), (.int .i64 (0)), (.int .u64 (0)), (.slice none 0 0), (.slice none 0 0), (.slice none 0 0), (.int .i64 (0)), (.int .i64 (0)), (.int .i64 (0))] : List Value) ++ ([(.int .i64 (0)), (.int .i64 (0)), (.int .i64 (0))] : List Value) ++ hc Zb ++ ([(.int .i64 (0)), (.int .i64 (0)), (.int .i64 (0)), (.int .i64 (0)), (.int .i64 (0))] : List Value) ++ hc Zb ++ ([(.int .u64 (0)), (.int .i64 (0)), (.slice none 0 0)] : List Value) ++ hc Zb ++ ([(.int .i64 (0)), (.int .i64 (0)), (.int .i64 (0)), (.int .i64 (0)), (ZX ([] : List UInt8)), (.int .i64 (0)), (.int .i64 (0)), (.int .i64 (0)), (.int .u64 (0)), (.slice none 0 0), (.slice none 0 0), (.slice none 0 0), (.slice none 0 0)] : List Value))⟩)) rfl (by kernel_rfl) ?_
 refine ZQ (Z2 rfl) (fun K5 hK5 => ?_)
 refine ZJ (d := 36) rfl (by kernel_rfl) (Z2d w3 c bb F Cn id v (H4.roCk 0 rfl hcl (fun _ _ h => h)) hF hid (⟨1, 0, 0, x, co0, none, 0, [], 0, none, 0, [], Zb⟩ : OmR) ListAt.nil (Nat.zero_le _) ListAt.nil (Nat.zero_le _)) ?_
 rintro _ w6 ⟨a7, c8, D9, B10, rfl, n11, o12, k13, p14, q15⟩
 have H16 : Sat w [Za w (fun _ => False), Z3 b2 119 (([(.int .i64 (x.cl)), (.int .i64 (x.seq))] : List Value) ++ hc x.h ++ ([(.int .i64 (x.len)), (.int .i64 (x.sb)), (.int .i64 (x.sm)), ((.slice pa P.length pc))] : List Value) ++ hc no ++ ([(.map (some ms)), (.pointer none), (.map (some ma)), (.map (some mr)), (.bool false), (.int .i64 (0)), (.map (some mp)), (.bool false), (ZX ([]))] : List Value)), ZP [Ze 82 295 (.slice a7 D9.length c8) D9.length (D9.flatMap Z0b), Z0u B10]] w6 := H4.addU p14 k13 q15
 have H17 : Sat w [Za w (fun _ => False), Z3 b2 119 (([(.int .i64 (x.cl)), (.int .i64 (x.seq))] : List Value) ++ hc x.h ++ ([(.int .i64 (x.len)), (.int .i64 (x.sb)), (.int .i64 (x.sm)), ((.slice pa P.length pc))] : List Value) ++ hc no ++ ([(.map (some ms)), (.pointer none), (.map (some ma)), (.map (some mr)), (.bool false), (.int .i64 (0)), (.map (some mp)), (.bool false), (ZX ([]))] : List Value)), Ze 82 295 (.slice a7 D9.length c8) D9.length (D9.flatMap Z0b), Z0u B10] w6 := H16.open 2 rfl
 refine ⟨_, rfl, ?_⟩
 refine hK5 _ _ ?_
 clear hK5 K5
 refine Z5 (Z2 rfl) (d := 4) (v := (.slice a7 D9.length c8)) rfl (by kernel_rfl) ?_
 refine Zr ?_
 refine Z7 ?_
 refine ZU ?_
 refine Z0T rfl (ZK (v := (.slice a7 D9.length c8)) rfl) ?_
 exact ⟨a7, c8, D9, B10, rfl, n11, o12, H17.fin [2, 3] (by decide) rfl, H17.upd 0 rfl [] (fun _ h => h.elim), H17.freshS 0 rfl (fun _ h => h) [2, 3] rfl rfl⟩
end Go.Proofs.YtgigjkjdmalmaaaGreat
