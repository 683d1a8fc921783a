/- WHAT IS PROVED: contracts and plain laws of PBook, ShaM, ShaS, ShaR, OfR. Conditions: stated with each. -/
import Derived.Test.YtgigjkjdmalmaaaGreatPY03
import Derived.Test.YtgigjkjdmalmaaaGreatPY05
import Derived.Test.YtgigjkjdmalmaaaGreatPY06
import Derived.Test.YtgigjkjdmalmaaaGreatPY08
set_option maxHeartbeats 4000000
set_option maxRecDepth 100000
namespace Go.Proofs.YtgigjkjdmalmaaaGreat
open Go.RowKit
theorem Z8P {α : Type} (enc : α → Value) (o : Option α) (z : α) : (o.map enc).getD (enc z) = enc (o.getD z) := by cases o <;> rfl
def Z8z (b mb : Nat) (L : List Z4) (tv : Value) (tx : List UInt8) : List Ck := [Z3 b 108 [.map (some mb)], ZI mb ZK (Value.int .i64) (ZU L), Zc 5 1 tv tx.length (tx.flatMap ZH)]
theorem Z6X (w : World) (b mb : Nat) (L : List Z4) (tv : Value) (tx : List UInt8) (hB : (ZL (Z8z b mb L tv tx)).ok w) (_hl : L.length ≤ 1000000) (p : Int) :
  Calls Tryz.prog 14 #[(.pointer (some ⟨b, 0, none⟩)), (.int .i64 (p)), tv] w fun e w' => e = .returned (.agg #[.int .i64 p, .int .i64 (Z9 (Zd L (⟨p, tx⟩ : Z4)) (⟨p, tx⟩ : Z4))]) ∧ Sat w [Z3 b 108 [.map (some mb)], ZI mb ZK (Value.int .i64) (ZU (Zd L (⟨p, tx⟩ : Z4))), Zc 5 1 tv tx.length (tx.flatMap ZH), Z7 w (ZL (Z8z b mb L tv tx)).fp] w' := by
 have H : Sat w [Z3 b 108 ([(.map (some mb))] : List Value), ZI mb ZK (Value.int .i64) (ZU L), Zc 5 1 tv tx.length (tx.flatMap ZH), Z7 w (ZL (Z8z b mb L tv tx)).fp] w := Sat.start (Z8z b mb L tv tx) hB
 have hmk : (Zn (ZU L) (⟨p, tx⟩ : Z4)).getD 0 = Z9 L (⟨p, tx⟩ : Z4) := by rw [Z3v]; rfl
 have hml := Z9N L
 refine Zg Tryz.func14 rfl 38 rfl (Nat.le_of_ble_eq_true rfl) ?_
 refine Zf ?_
 refine Zt ?_
 refine Z0B (Z5 rfl) (fun K1 hK1 => ?_)
 refine Z7n (zs := ([(.int .i64 (0)), (.int .i64 (0))] : List Value)) (z := (.agg ⟨([(.int .i64 (0)), (.int .i64 (0))] : List Value)⟩)) rfl H (by kernel_rfl) (by kernel_rfl) ?_
 intro b2 w3 (H4 : Sat w [Z3 b 108 ([(.map (some mb))] : List Value), ZI mb ZK (Value.int .i64) (ZU L), Zc 5 1 tv tx.length (tx.flatMap ZH), Z7 w (ZL (Z8z b mb L tv tx)).fp, Z3 b2 47 ([(.int .i64 (0)), (.int .i64 (0))] : List Value)] w3)
 refine hK1 _ _ ?_
 clear hK1 K1
 refine Zu ?_
 refine Zb ?_
 refine Zf ?_
 refine Zt ?_
 refine Z6 (Z5 rfl) (d := 8) (v := (.int .i64 (p))) rfl (by kernel_rfl) ?_
 refine Z6 (Z5 rfl) (d := 9) (v := tv) rfl (by kernel_rfl) ?_
 refine Z6 (Z5 rfl) (d := 10) (v := (ZD tx)) rfl (Z4c (e := 5) (s := tx) (by kernel_rfl) (by kernel_rfl) (by kernel_rfl) rfl (Z1H (ListAt.row (e := 5) (enc := ZH) (sz := 1) (v := tv) (n := tx.length) (xs := tx) Z0u (by decide) (H4.at 2 rfl)))) ?_
 refine Z6 (Z5 rfl) (d := 11) (v := (.agg ⟨([(.int .i64 (p)), (ZD tx)] : List Value)⟩)) rfl (by kernel_rfl) ?_
 refine Z0B (Z5 rfl) (fun K5 hK5 => ?_)
 refine Z7n (zs := ([(.int .i64 (0)), (ZD ([] : List UInt8))] : List Value)) (z := (.agg ⟨([(.int .i64 (0)), (ZD ([] : List UInt8))] : List Value)⟩)) rfl H4 (by kernel_rfl) (by kernel_rfl) ?_
 intro b6 w7 (H8 : Sat w [Z3 b 108 ([(.map (some mb))] : List Value), ZI mb ZK (Value.int .i64) (ZU L), Zc 5 1 tv tx.length (tx.flatMap ZH), Z7 w (ZL (Z8z b mb L tv tx)).fp, Z3 b2 47 ([(.int .i64 (0)), (.int .i64 (0))] : List Value), Z3 b6 125 ([(.int .i64 (0)), (ZD ([] : List UInt8))] : List Value)] w7)
 refine hK5 _ _ ?_
 clear hK5 K5
 refine Z0B (Z5 rfl) (fun K9 hK9 => ?_)
 refine Z2S (vs := ([(.int .i64 (p)), (ZD tx)] : List Value)) rfl H8 5 rfl rfl rfl rfl (by kernel_rfl) (Nat.le_of_ble_eq_true (by kernel_rfl)) (Nat.le_of_ble_eq_true (by kernel_rfl)) (by kernel_rfl) ?_
 intro w10 (H11 : Sat w [Z3 b 108 ([(.map (some mb))] : List Value), ZI mb ZK (Value.int .i64) (ZU L), Zc 5 1 tv tx.length (tx.flatMap ZH), Z7 w (ZL (Z8z b mb L tv tx)).fp, Z3 b2 47 ([(.int .i64 (0)), (.int .i64 (0))] : List Value), Z3 b6 125 ([(.int .i64 (p)), (ZD tx)] : List Value)] w10)
 refine hK9 _ _ ?_
 clear hK9 K9
 refine Zu ?_
 refine Zb ?_
 refine Zf ?_
 refine Zf ?_
 refine Z7A H11 (by kernel_rfl) (by kernel_rfl) ?_
 refine Z1B (Z5 rfl) (d := 12) (v := (.pointer (some ⟨b, 0, none⟩))) rfl (fun _ H' => (by kernel_rfl)) ?_
 refine Z1B (Z5 rfl) (d := 13) (v := (.pointer (some ⟨b, 0, none⟩))) rfl (fun _ H' => (by kernel_rfl)) ?_
 refine Z1B (Z5 rfl) (d := 14) (v := (.pointer (some ⟨b, 0, none⟩))) rfl (fun _ H' => (by kernel_rfl)) ?_
 refine Z1B (Z5 rfl) (d := 15) (v := (.map (some mb))) rfl (fun _ H' => (Zi rfl (by kernel_rfl) (H'.cell 0 rfl rfl))) ?_
 refine Z1B (Z5 rfl) (d := 16) (v := (.agg ⟨([(.int .i64 (p)), (ZD tx)] : List Value)⟩)) rfl (fun _ H' => (ZG (vs := ([(.int .i64 (p)), (ZD tx)] : List Value)) rfl (by kernel_rfl) (by kernel_rfl) (by exact Nat.le_of_ble_eq_true (by kernel_rfl)) (H'.at 5 rfl) (by kernel_rfl))) ?_
 refine Z1B (Z5 rfl) (d := 17) (v := (.int .i64 ((Zn (ZU L) (⟨p, tx⟩ : Z4)).getD 0))) rfl (fun _ H' => (Z1D (kt := 125) (et := 3) Z4x (by kernel_rfl) (fun w => by kernel_rfl) rfl (⟨p, tx⟩ : Z4) rfl (H'.at 1 rfl) (Z8P (Value.int .i64) _ _))) ?_
 refine Z1B (Z5 rfl) (d := 18) (v := (.bool (decide (((Zn (ZU L) (⟨p, tx⟩ : Z4)).getD 0) = 0)))) rfl (fun _ H' => (by kernel_rfl)) ?_
 refine Z1A ?_
 intro w13 H14
 refine Zb ?_
 refine (ZC (decide (((Zn (ZU L) (⟨p, tx⟩ : Z4)).getD 0) = 0))).elim (fun b15 => ?_) (fun b15 => ?_)
 ·have g16 := of_decide_eq_true b15
  refine Zo 18 (.bool true) (congrArg Value.bool b15) ?_
  have g17 := of_decide_eq_true b15
  refine Z0R rfl ?_
  refine Z0b H14 [Z3 b 108 ([(.map (some mb))] : List Value), Zc 5 1 tv tx.length (tx.flatMap ZH), Z7 w (ZL (Z8z b mb L tv tx)).fp, Z3 b2 47 ([(.int .i64 (0)), (.int .i64 (0))] : List Value), Z3 b6 125 ([(.int .i64 (p)), (ZD tx)] : List Value)] 12 rfl (by kernel_rfl) (fun Hx => (Hx.pick [0, 2, 3, 4, 5] (by decide))) ?_
  intro w18 H19 S20
  refine Z0s 0 rfl (by kernel_rfl) (by kernel_rfl) (by kernel_rfl) (fun _ _ _ h => h) S20 (Z5 rfl) (d := 19) (v := (.pointer (some ⟨b, 0, none⟩))) rfl (fun _ H' => (by kernel_rfl)) ?_
  refine Z0s 1 rfl (by kernel_rfl) (by kernel_rfl) (by kernel_rfl) (fun _ _ _ h => h) S20 (Z5 rfl) (d := 20) (v := (.pointer (some ⟨b, 0, none⟩))) rfl (fun _ H' => (by kernel_rfl)) ?_
  refine Z0s 2 rfl (by kernel_rfl) (by kernel_rfl) (by kernel_rfl) (fun _ _ _ h => h) S20 (Z5 rfl) (d := 21) (v := (.pointer (some ⟨b, 0, none⟩))) rfl (fun _ H' => (by kernel_rfl)) ?_
  refine Z0s 3 rfl (by kernel_rfl) (by kernel_rfl) (by kernel_rfl) (fun _ _ _ h => h) S20 (Z5 rfl) (d := 22) (v := (.map (some mb))) rfl (fun _ H' => (Zi rfl (by kernel_rfl) (H'.cell 0 rfl rfl))) ?_
  refine Z0s 4 rfl (by kernel_rfl) (by kernel_rfl) (by kernel_rfl) (fun _ _ _ h => h) S20 (Z5 rfl) (d := 23) (v := (.agg ⟨([(.int .i64 (p)), (ZD tx)] : List Value)⟩)) rfl (fun _ H' => (ZG (vs := ([(.int .i64 (p)), (ZD tx)] : List Value)) rfl (by kernel_rfl) (by kernel_rfl) (by exact Nat.le_of_ble_eq_true (by kernel_rfl)) (H'.at 4 rfl) (by kernel_rfl))) ?_
  refine Z0s 5 rfl (by kernel_rfl) (by kernel_rfl) (by kernel_rfl) (fun _ _ _ h => h) S20 (Z5 rfl) (d := 24) (v := (.pointer (some ⟨b, 0, none⟩))) rfl (fun _ H' => (by kernel_rfl)) ?_
  refine Z0s 6 rfl (by kernel_rfl) (by kernel_rfl) (by kernel_rfl) (fun _ _ _ h => h) S20 (Z5 rfl) (d := 25) (v := (.pointer (some ⟨b, 0, none⟩))) rfl (fun _ H' => (by kernel_rfl)) ?_
  refine Z0s 7 rfl (by kernel_rfl) (by kernel_rfl) (by kernel_rfl) (fun _ _ _ h => h) S20 (Z5 rfl) (d := 26) (v := (.pointer (some ⟨b, 0, none⟩))) rfl (fun _ H' => (by kernel_rfl)) ?_
  refine Z0s 8 rfl (by kernel_rfl) (by kernel_rfl) (by kernel_rfl) (fun _ _ _ h => h) S20 (Z5 rfl) (d := 27) (v := (.map (some mb))) rfl (fun _ H' => (Zi rfl (by kernel_rfl) (H'.cell 0 rfl rfl))) ?_
  refine Z6J 9 rfl (by kernel_rfl) (Z5 rfl) (fun K21 hK21 => ?_)
  refine d_pure (d := 28) (v := (.int .i64 ((((ZU L)).length : Int)))) rfl (e_len (kt := 125) (et := 3) (by kernel_rfl) (H19.at 1 rfl) rfl) ?_
  have S22 := H19.pick [0, 2, 3, 4, 5] (by decide)
  refine hK21 _ _ S22 ?_
  clear hK21 K21
  refine Z0s 10 rfl (by kernel_rfl) (by kernel_rfl) (by kernel_rfl) (fun _ _ _ h => h) S22 (Z5 rfl) (d := 29) (v := (.int .i64 ((((ZU L)).length : Int) + 1))) rfl (fun _ H' => (Z0I (z := (((ZU L)).length : Int) + 1) (by kernel_rfl) (IntWalk.i64_in _ (by omega)))) ?_
  refine Z6J 11 rfl (by kernel_rfl) (Z5 rfl) (fun K23 hK23 => ?_)
  refine Z1K (kt := 125) (et := 3) rfl H19 1 rfl Z4x (by kernel_rfl) rfl (⟨p, tx⟩ : Z4) rfl ((((ZU L)).length : Int) + 1) rfl ?_
  intro w24 (H25 : Sat w [Z3 b 108 ([(.map (some mb))] : List Value), ZI mb ZK (Value.int .i64) (Z2Y (ZU L) (⟨p, tx⟩ : Z4) ((((ZU L)).length : Int) + 1)), Zc 5 1 tv tx.length (tx.flatMap ZH), Z7 w (ZL (Z8z b mb L tv tx)).fp, Z3 b2 47 ([(.int .i64 (0)), (.int .i64 (0))] : List Value), Z3 b6 125 ([(.int .i64 (p)), (ZD tx)] : List Value)] w24)
  have S26 := H25.pick [0, 2, 3, 4, 5] (by decide)
  refine hK23 _ _ S26 ?_
  clear hK23 K23
  refine Z5N (by kernel_rfl) ?_
  refine Zb ?_
  refine Zf ?_
  refine Z0b H25 [Z3 b 108 ([(.map (some mb))] : List Value), ZI mb ZK (Value.int .i64) (Z2Y (ZU L) (⟨p, tx⟩ : Z4) ((((ZU L)).length : Int) + 1)), Zc 5 1 tv tx.length (tx.flatMap ZH), Z7 w (ZL (Z8z b mb L tv tx)).fp, Z3 b6 125 ([(.int .i64 (p)), (ZD tx)] : List Value)] 9 rfl (by kernel_rfl) (fun Hx => (Hx.pick [0, 1, 2, 3, 5] (by decide))) ?_
  intro w27 H28 S29
  refine Z0s 0 rfl (by kernel_rfl) (by kernel_rfl) (by kernel_rfl) (fun _ _ _ h => h) S29 (Z5 rfl) (d := 30) (v := (.int .i64 (p))) rfl (fun _ H' => (by kernel_rfl)) ?_
  refine Z0s 1 rfl (by kernel_rfl) (by kernel_rfl) (by kernel_rfl) (fun _ _ _ h => h) S29 (Z5 rfl) (d := 31) (v := (.pointer (some ⟨b, 0, none⟩))) rfl (fun _ H' => (by kernel_rfl)) ?_
  refine Z0s 2 rfl (by kernel_rfl) (by kernel_rfl) (by kernel_rfl) (fun _ _ _ h => h) S29 (Z5 rfl) (d := 32) (v := (.pointer (some ⟨b, 0, none⟩))) rfl (fun _ H' => (by kernel_rfl)) ?_
  refine Z0s 3 rfl (by kernel_rfl) (by kernel_rfl) (by kernel_rfl) (fun _ _ _ h => h) S29 (Z5 rfl) (d := 33) (v := (.pointer (some ⟨b, 0, none⟩))) rfl (fun _ H' => (by kernel_rfl)) ?_
  refine Z0s 4 rfl (by kernel_rfl) (by kernel_rfl) (by kernel_rfl) (fun _ _ _ h => h) S29 (Z5 rfl) (d := 34) (v := (.map (some mb))) rfl (fun _ H' => (Zi rfl (by kernel_rfl) (H'.cell 0 rfl rfl))) ?_
  refine Z0s 5 rfl (by kernel_rfl) (by kernel_rfl) (by kernel_rfl) (fun _ _ _ h => h) S29 (Z5 rfl) (d := 35) (v := (.agg ⟨([(.int .i64 (p)), (ZD tx)] : List Value)⟩)) rfl (fun _ H' => (ZG (vs := ([(.int .i64 (p)), (ZD tx)] : List Value)) rfl (by kernel_rfl) (by kernel_rfl) (by exact Nat.le_of_ble_eq_true (by kernel_rfl)) (H'.at 4 rfl) (by kernel_rfl))) ?_
  refine Z0s 6 rfl (by kernel_rfl) (by kernel_rfl) (by kernel_rfl) (fun _ _ _ h => h) S29 (Z5 rfl) (d := 36) (v := (.int .i64 ((Zn (Z2Y (ZU L) (⟨p, tx⟩ : Z4) ((((ZU L)).length : Int) + 1)) (⟨p, tx⟩ : Z4)).getD 0))) rfl (fun _ H' => (Z1D (kt := 125) (et := 3) Z4x (by kernel_rfl) (fun w => by kernel_rfl) rfl (⟨p, tx⟩ : Z4) rfl (H'.at 1 rfl) (Z8P (Value.int .i64) _ _))) ?_
  refine Z0s 7 rfl (by kernel_rfl) (by kernel_rfl) (by kernel_rfl) (fun _ _ _ h => h) S29 (Z5 rfl) (d := 37) (v := (.agg ⟨([(.int .i64 (p)), (.int .i64 ((Zn (Z2Y (ZU L) (⟨p, tx⟩ : Z4) ((((ZU L)).length : Int) + 1)) (⟨p, tx⟩ : Z4)).getD 0))] : List Value)⟩)) rfl (fun _ H' => (by kernel_rfl)) ?_
  refine Z6J 8 rfl (by kernel_rfl) (Z5 rfl) (fun K30 hK30 => ?_)
  refine Z2S (vs := ([(.int .i64 (p)), (.int .i64 ((Zn (Z2Y (ZU L) (⟨p, tx⟩ : Z4) ((((ZU L)).length : Int) + 1)) (⟨p, tx⟩ : Z4)).getD 0))] : List Value)) rfl H28 4 rfl rfl rfl rfl (by kernel_rfl) (Nat.le_of_ble_eq_true (by kernel_rfl)) (Nat.le_of_ble_eq_true (by kernel_rfl)) (by kernel_rfl) ?_
  intro w31 (H32 : Sat w [Z3 b 108 ([(.map (some mb))] : List Value), ZI mb ZK (Value.int .i64) (Z2Y (ZU L) (⟨p, tx⟩ : Z4) ((((ZU L)).length : Int) + 1)), Zc 5 1 tv tx.length (tx.flatMap ZH), Z7 w (ZL (Z8z b mb L tv tx)).fp, Z3 b2 47 ([(.int .i64 (p)), (.int .i64 ((Zn (Z2Y (ZU L) (⟨p, tx⟩ : Z4) ((((ZU L)).length : Int) + 1)) (⟨p, tx⟩ : Z4)).getD 0))] : List Value), Z3 b6 125 ([(.int .i64 (p)), (ZD tx)] : List Value)] w31)
  have S34 := H32.pick [0, 1, 2, 3, 5] (by decide)
  refine hK30 _ _ S34 ?_
  clear hK30 K30
  refine Z5N (by kernel_rfl) ?_
  refine Zb ?_
  refine Zz ?_
  refine Z1x rfl (Z02 (vs := ([(.int .i64 (p)), (.int .i64 ((Zn (Z2Y (ZU L) (⟨p, tx⟩ : Z4) ((((ZU L)).length : Int) + 1)) (⟨p, tx⟩ : Z4)).getD 0))] : List Value)) rfl (by kernel_rfl) (by kernel_rfl) (by exact Nat.le_of_ble_eq_true (by kernel_rfl)) (H32.at 4 rfl) (by kernel_rfl)) ?_
  have hm : (⟨p, tx⟩ : Z4) ∉ L := fun hc => by
   have q := of_decide_eq_true b15
   rw [hmk] at q
   have := (Z8x hc).1
   omega
  have hs : Zd L (⟨p, tx⟩ : Z4) = L ++ [(⟨p, tx⟩ : Z4)] := by unfold Zd; rw [if_neg hm]
  have hp : (Z2Y (ZU L) (⟨p, tx⟩ : Z4) ((((ZU L)).length : Int) + 1)) = ZU (L ++ [(⟨p, tx⟩ : Z4)]) := by rw [hml]; exact Z9Y L _ hm
  exact ⟨by rw [hs, hp, Z3v]; rfl, by rw [hs, ← hp]; exact H32.pick [0, 1, 2, 3] (by decide)⟩
 ·have g35 := of_decide_eq_false b15
  refine Zo 18 (.bool false) (congrArg Value.bool b15) ?_
  have g36 := of_decide_eq_false b15
  refine Z0y rfl ?_
  refine ZF ?_
  refine Zb ?_
  refine Zf ?_
  refine Z0b H14 [Z3 b 108 ([(.map (some mb))] : List Value), ZI mb ZK (Value.int .i64) (ZU L), Zc 5 1 tv tx.length (tx.flatMap ZH), Z7 w (ZL (Z8z b mb L tv tx)).fp, Z3 b6 125 ([(.int .i64 (p)), (ZD tx)] : List Value)] 9 rfl (by kernel_rfl) (fun Hx => (Hx.pick [0, 1, 2, 3, 5] (by decide))) ?_
  intro w37 H38 S39
  refine Z0s 0 rfl (by kernel_rfl) (by kernel_rfl) (by kernel_rfl) (fun _ _ _ h => h) S39 (Z5 rfl) (d := 30) (v := (.int .i64 (p))) rfl (fun _ H' => (by kernel_rfl)) ?_
  refine Z0s 1 rfl (by kernel_rfl) (by kernel_rfl) (by kernel_rfl) (fun _ _ _ h => h) S39 (Z5 rfl) (d := 31) (v := (.pointer (some ⟨b, 0, none⟩))) rfl (fun _ H' => (by kernel_rfl)) ?_
  refine Z0s 2 rfl (by kernel_rfl) (by kernel_rfl) (by kernel_rfl) (fun _ _ _ h => h) S39 (Z5 rfl) (d := 32) (v := (.pointer (some ⟨b, 0, none⟩))) rfl (fun _ H' => (by kernel_rfl)) ?_
  refine Z0s 3 rfl (by kernel_rfl) (by kernel_rfl) (by kernel_rfl) (fun _ _ _ h => h) S39 (Z5 rfl) (d := 33) (v := (.pointer (some ⟨b, 0, none⟩))) rfl (fun _ H' => (by kernel_rfl)) ?_
  refine Z0s 4 rfl (by kernel_rfl) (by kernel_rfl) (by kernel_rfl) (fun _ _ _ h => h) S39 (Z5 rfl) (d := 34) (v := (.map (some mb))) rfl (fun _ H' => (Zi rfl (by kernel_rfl) (H'.cell 0 rfl rfl))) ?_
  refine Z0s 5 rfl (by kernel_rfl) (by kernel_rfl) (by kernel_rfl) (fun _ _ _ h => h) S39 (Z5 rfl) (d := 35) (v := (.agg ⟨([(.int .i64 (p)), (ZD tx)] : List Value)⟩)) rfl (fun _ H' => (ZG (vs := ([(.int .i64 (p)), (ZD tx)] : List Value)) rfl (by kernel_rfl) (by kernel_rfl) (by exact Nat.le_of_ble_eq_true (by kernel_rfl)) (H'.at 4 rfl) (by kernel_rfl))) ?_
  refine Z0s 6 rfl (by kernel_rfl) (by kernel_rfl) (by kernel_rfl) (fun _ _ _ h => h) S39 (Z5 rfl) (d := 36) (v := (.int .i64 ((Zn (ZU L) (⟨p, tx⟩ : Z4)).getD 0))) rfl (fun _ H' => (Z1D (kt := 125) (et := 3) Z4x (by kernel_rfl) (fun w => by kernel_rfl) rfl (⟨p, tx⟩ : Z4) rfl (H'.at 1 rfl) (Z8P (Value.int .i64) _ _))) ?_
  refine Z0s 7 rfl (by kernel_rfl) (by kernel_rfl) (by kernel_rfl) (fun _ _ _ h => h) S39 (Z5 rfl) (d := 37) (v := (.agg ⟨([(.int .i64 (p)), (.int .i64 ((Zn (ZU L) (⟨p, tx⟩ : Z4)).getD 0))] : List Value)⟩)) rfl (fun _ H' => (by kernel_rfl)) ?_
  refine Z6J 8 rfl (by kernel_rfl) (Z5 rfl) (fun K40 hK40 => ?_)
  refine Z2S (vs := ([(.int .i64 (p)), (.int .i64 ((Zn (ZU L) (⟨p, tx⟩ : Z4)).getD 0))] : List Value)) rfl H38 4 rfl rfl rfl rfl (by kernel_rfl) (Nat.le_of_ble_eq_true (by kernel_rfl)) (Nat.le_of_ble_eq_true (by kernel_rfl)) (by kernel_rfl) ?_
  intro w41 (H42 : Sat w [Z3 b 108 ([(.map (some mb))] : List Value), ZI mb ZK (Value.int .i64) (ZU L), Zc 5 1 tv tx.length (tx.flatMap ZH), Z7 w (ZL (Z8z b mb L tv tx)).fp, Z3 b2 47 ([(.int .i64 (p)), (.int .i64 ((Zn (ZU L) (⟨p, tx⟩ : Z4)).getD 0))] : List Value), Z3 b6 125 ([(.int .i64 (p)), (ZD tx)] : List Value)] w41)
  have S44 := H42.pick [0, 1, 2, 3, 5] (by decide)
  refine hK40 _ _ S44 ?_
  clear hK40 K40
  refine Z5N (by kernel_rfl) ?_
  refine Zb ?_
  refine Zz ?_
  refine Z1x rfl (Z02 (vs := ([(.int .i64 (p)), (.int .i64 ((Zn (ZU L) (⟨p, tx⟩ : Z4)).getD 0))] : List Value)) rfl (by kernel_rfl) (by kernel_rfl) (by exact Nat.le_of_ble_eq_true (by kernel_rfl)) (H42.at 4 rfl) (by kernel_rfl)) ?_
  have hm : (⟨p, tx⟩ : Z4) ∈ L := by
   refine Decidable.not_not.1 fun hc => ?_
   have q := of_decide_eq_false b15
   rw [hmk, Z7w hc] at q
   exact q rfl
  exact ⟨by rw [Z3S hm, ← hmk], by rw [Z3S hm]; exact H42.pick [0, 1, 2, 3] (by decide)⟩
def ZT (k : IntKind) (g T n : Nat) (A : List Int) : Ck where
 fp b := b = g
 ok w := A.length = n ∧ w.heap[g]? = some (.cells ⟨A.map (Value.int k)⟩ T (0, 0))
 stay h hb := ⟨h.1, (hb g rfl).trans h.2⟩
 lt h _ hk := hk ▸ Z0J h.2
section
variable {k : IntKind} {g T n : Nat} {A : List Int} {w w0 w' : World} {G : List Ck}
theorem Z0S (h : (ZT k g T n A).ok w) : A.length = n := h.1
theorem Z06 (h : (ZT k g T n A).ok w) {i o : Nat} (hi : i < n) (ho : o = i) : w.cell? ⟨g, o, none⟩ = some (.int k (A.getD i 0)) := by
 subst ho
 rw [Z0C h.2]
 simp [List.getD_eq_getElem?_getD, List.getElem?_eq_getElem (show o < A.length by rw [h.1]; exact hi)]
theorem Zbb (h : (ZT k g T n A).ok w) : Z1v w ⟨g, 0, none⟩ (A.map (Value.int k)) := fun j v hj => by
 rw [Addr.add_lit, Z0C h.2]; simpa using hj
theorem Sat.toW (H : Sat w0 G w) (i : Nat) (k : IntKind) (A : List Int) (hi : G[i]? = some (Z3 g T (A.map (Value.int k)))) (hn : A.length = n) : Sat w0 (G.set i (ZT k g T n A)) w :=
 H.set i hi ⟨rfl, rfl, rfl, Nat.le_refl _⟩ (fun _ _ _ => rfl) ⟨hn, H.at i hi⟩ (fun _b hb => .inl hb)
theorem Sat.offW (H : Sat w0 G w) (i : Nat) (hi : G[i]? = some (ZT k g T n A)) : Sat w0 (G.set i (Z3 g T (A.map (Value.int k)))) w :=
 H.set i hi ⟨rfl, rfl, rfl, Nat.le_refl _⟩ (fun _ _ _ => rfl) (H.at i hi).2 (fun _b hb => .inl hb)
end
section
variable {P : Program} {n : Nat} {f : Nat → Value} {w w0 : World} {dst : Option Tmp} {ty : TypeId} {pos : String} {aft : Array Edge} {gd : Option (Nat × Bool)} {K : Act → World → Prop} {Q : Exit → Act → World → Prop} {G : List Ck}
theorem Z41 (k : IntKind) {T TA m : Nat} {A : List Int} {g i : Nat} {x y : Operand} {z : Int} {o : Nat} (hd : dst = none) (H : Sat w0 G w) (j : Nat) (hj : G[j]? = some (ZT k g TA m A)) (hx : ev n f x = .pointer (some ⟨g, o, none⟩)) (hy : ev n f y = .int k z) (hN : P.cellsOf T = 1) (ho : o = i) (hi : i < m)
  (kk : ∀ w', Sat w0 (G.set j (ZT k g TA m (A.set i z))) w' → K (fr n f) w') : WO P ⟨dst, .store T x y, ty, pos, aft, gd⟩ K Q n f w := by
 have h := H.at j hj
 subst ho
 have hil : o < A.length := by rw [h.1]; exact hi
 obtain ⟨w', hr, hb, he, hk⟩ := Z5M (P := P) (dst := dst) (ty := ty) (pos := pos) (aft := aft) (gd := gd) (vs := [.int k z]) hx hy rfl hN (by simp) h.2 (by simp; omega) (fun v hv => by rw [List.mem_singleton.1 hv]; rfl)
 refine Z6C hd hr (kk w' (H.set j hj he (fun b _ hne => hk b hne) ⟨by simp [h.1], ?_⟩ (fun b hb => .inl hb)))
 have e : Z0P (A.map (Value.int k)) o [Value.int k z] = (A.set o z).map (Value.int k) := by
  rw [List.set_eq_take_append_cons_drop, if_pos hil]
  simp [Z0P]
 rw [← e]; exact hb
theorem Z0m (k : IntKind) {T TA m : Nat} {A B : List Int} {g : Nat} {x y : Operand} {u : Value} (hd : dst = none) (H : Sat w0 G w) (j : Nat) (hj : G[j]? = some (ZT k g TA m A)) (hx : ev n f x = .pointer (some ⟨g, 0, none⟩)) (hy : ev n f y = u) (hu : u.cells = ⟨B.map (Value.int k)⟩) (hN : P.cellsOf T = m) (hm : 0 < m) (hB : B.length = m)
  (kk : ∀ w', Sat w0 (G.set j (ZT k g TA m B)) w' → K (fr n f) w') : WO P ⟨dst, .store T x y, ty, pos, aft, gd⟩ K Q n f w := by
 have h := H.at j hj
 obtain ⟨w', hr, hb, he, hk⟩ := Z5M (P := P) (dst := dst) (ty := ty) (pos := pos) (aft := aft) (gd := gd) (vs := B.map (Value.int k)) hx hy hu (by rw [hN]; simp [hB]) (by simp [hB]; omega) h.2 (by simp [hB, h.1]) (fun v hv => by obtain ⟨z, _, rfl⟩ := List.mem_map.1 hv; rfl)
 refine Z6C hd hr (kk w' (H.set j hj he (fun b _ hne => hk b hne) ⟨hB, ?_⟩ (fun b hb => .inl hb)))
 have e : Z0P (A.map (Value.int k)) 0 (B.map (Value.int k)) = B.map (Value.int k) := by simp [Z0P, hB, h.1]
 rw [← e]; exact hb
theorem Z28 {k : IntKind} {T TA m g : Nat} {A : List Int} {x : Operand} (hx : ev n f x = .pointer (some ⟨g, 0, none⟩)) (hT : Z7b P T = true) (hN : P.cellsOf T = m) (hm : 0 < m) (h : (ZT k g TA m A).ok w) :
  (execOp (ev n f) ⟨dst, .load T x, ty, pos, aft, gd⟩).run P w = .ok (.value (.agg ⟨A.map (Value.int k)⟩)) w :=
 Z0a hx hT (by rw [hN]; simp [h.1]) (by simp [h.1]; omega) (Zbb h)
theorem Z8v {v : Value} {s : List UInt8} (h : ListAt ZH 1 w v s) (h0 : 0 < s.length) : ∃ b o c, v = .slice (some ⟨b, o, none⟩) s.length c := by
 obtain ⟨b, o, c, e, _⟩ := SliceOf.some h h0
 exact ⟨b, o, c, e⟩
theorem Z3f {b o c i p m : Nat} {s : List UInt8} (h : ListAt ZH 1 w (.slice (some ⟨b, o, none⟩) m c) s) (hi : i < s.length) (hp : p = o + i) : w.cell? ⟨b, p, none⟩ = some (.int .u8 ((s.getD i 0).toNat : Int)) := by
 obtain ⟨b', o', c', e, _, hr⟩ := SliceOf.some h (by omega)
 simp only [Value.slice.injEq, Option.some.injEq, Addr.mk.injEq] at e
 obtain ⟨⟨rfl, rfl, _⟩, _, _⟩ := e
 have := hr i hi 0 _ rfl
 rw [Addr.add_lit] at this
 rw [hp, show o + i = o + i * 1 + 0 by omega, this, List.getD_eq_getElem?_getD, List.getElem?_eq_getElem hi]; rfl
end
section
variable {α : Type} {enc : α → List Value} {sz : Nat} {w : World} {xs : List α}
theorem ListAt.dropG {a : Option Addr} {n c k : Nat} (h : ListAt enc sz w (.slice a n c) xs) (hk : k ≤ n) : ListAt enc sz w (.slice (if c = k then a else a.map (·.add (k * sz))) (n - k) (c - k)) (xs.drop k) := by
 rcases h with ⟨a', c', e, rfl, hc, ha⟩ | ⟨h0, b', o', c', e, ⟨h1, h2⟩, h⟩
 ·simp only [Value.slice.injEq] at e
  obtain ⟨rfl, rfl, rfl⟩ := e
  obtain rfl : k = 0 := by omega
  refine .inl ⟨_, _, rfl, by simp, by omega, fun q => ?_⟩
  by_cases h0 : c = 0
  ·omega
  ·rw [if_neg h0] at q
   cases a with
   | none => have := ha rfl; omega
   | some ad => cases q
 ·simp only [Value.slice.injEq] at e
  obtain ⟨rfl, rfl, rfl⟩ := e
  have hl : (xs.drop k).length = xs.length - k := List.length_drop
  by_cases hz : k = xs.length
  ·subst hz
   refine .inl ⟨_, c - xs.length, by rw [Nat.sub_self], by simp, by omega, fun q => ?_⟩
   split at q
   ·cases q
   ·cases q
  ·refine .inr ⟨by omega, b', o' + k * sz, c - k, ?_, ⟨by rw [hl]; omega, by omega⟩, fun i hi => ?_⟩
   ·rw [hl, if_neg (by omega), Option.map_some, Addr.add_lit]
   ·rw [List.getElem_drop]
    have := h (k + i) (by rw [hl] at hi; omega)
    rwa [show o' + k * sz + i * sz = o' + (k + i) * sz by rw [Nat.add_mul]; omega]
end
section
variable {P : Program} {n : Nat} {f : Nat → Value} {w : World} {dst : Option Tmp} {ty : TypeId} {pos : String} {aft : Array Edge} {gd : Option (Nat × Bool)}
theorem Z4W {T E : TypeId} {x y : Operand} {a : Option Addr} {len cap sz : Nat} {k : IntKind} {z : Int} {q : Nat} (hT : P.underlying T = some (.slice E)) (hE : (P.info? E).map (·.size) = some sz) (hx : ev n f x = .slice a len cap) (hy : ev n f y = .int k z) (h1 : z = (q : Int)) (h2 : q ≤ len) :
  (execOp (ev n f) ⟨dst, .slice T x (some y) none none, ty, pos, aft, gd⟩).run P w = .ok (.value (.slice (if cap = q then a else a.map (·.add (q * sz))) (len - q) (cap - q))) w := by
 cases hi : P.info? E with
 | none => rw [hi] at hE; cases hE
 | some inf =>
  rw [hi] at hE
  simp only [Option.map_some, Option.some.injEq] at hE
  subst h1 hE
  have : (Instr.slice T (.slice a len cap) (some (.int k (q : Int))) none none).run P w = .ok (.slice (if cap = q then a else a.map (·.add (q * inf.size))) (len - q) (cap - q)) w := by
   simp [Instr.slice, run_underlying hT, Instr.sliceBounds, Instr.sliceBound, asIntOf, h2, Result.andThen, sizeOf, typeInfo, hi]
  simp only [execOp, Instr.sliceAt, Option.map, hx, hy]
  simp [run_underlying hT, this, Result.andThen]
  cases a <;> rfl
end
def Z0f (x n : Int) : Int := bOr .u32 (x / 2 ^ (min n.toNat 32)) (Z2f .u32 x (32 - n))
def kR : List Int := ([1116352408, 1899447441, 3049323471, 3921009573, 961987163, 1508970993, 2453635748, 2870763221, 3624381080, 310598401, 607225278, 1426881987, 1925078388, 2162078206, 2614888103, 3248222580, 3835390401, 4022224774, 264347078, 604807628, 770255983, 1249150122, 1555081692, 1996064986, 2554220882, 2821834349, 2952996808, 3210313671, 3336571891, 3584528711, 113926993, 338241895, 666307205, 773529912, 1294757372, 1396182291, 1695183700, 1986661051, 2177026350, 2456956037, 2730485921, 2820302411, 3259730800, 3345764771, 3516065817, 3600352804, 4094571909, 275423344, 430227734, 506948616, 659060556, 883997877, 958139571, 1322822218, 1537002063, 1747873779, 1955562222, 2024104815, 2227730452, 2361852424, 2428436474, 2756734187, 3204031479, 3329325298] : List Int)
def ldS (D : List UInt8) (b : Nat) (i : Nat) (A : List Int) : List Int := (A.set i (bOr .u32 (bOr .u32 (bOr .u32 (Z2f .u32 (IntKind.u32.wrap ((((D.drop ((64 * b) + (4 * i))).getD 0 0).toNat : Int))) 24) (Z2f .u32 (IntKind.u32.wrap ((((D.drop ((64 * b) + (4 * i))).getD 1 0).toNat : Int))) 16)) (Z2f .u32 (IntKind.u32.wrap ((((D.drop ((64 * b) + (4 * i))).getD 2 0).toNat : Int))) 8)) (IntKind.u32.wrap ((((D.drop ((64 * b) + (4 * i))).getD 3 0).toNat : Int)))))
def exS (j : Nat) (B : List Int) : List Int := (B.set (j + 16) (IntKind.u32.wrap ((IntKind.u32.wrap ((IntKind.u32.wrap ((B.getD ((j + 16) - 16) 0) + (Z05 .u32 (Z05 .u32 (Z0f (B.getD ((j + 16) - 15) 0) 7) (Z0f (B.getD ((j + 16) - 15) 0) 18)) ((B.getD ((j + 16) - 15) 0) / 8)))) + (B.getD ((j + 16) - 7) 0))) + (Z05 .u32 (Z05 .u32 (Z0f (B.getD ((j + 16) - 2) 0) 17) (Z0f (B.getD ((j + 16) - 2) 0) 19)) ((B.getD ((j + 16) - 2) 0) / 1024)))))
def ruS (B : List Int) (i : Nat) (V : List Int) : List Int := ([IntKind.u32.wrap ((IntKind.u32.wrap ((IntKind.u32.wrap ((IntKind.u32.wrap ((IntKind.u32.wrap ((V.getD 7 0) + (Z05 .u32 (Z05 .u32 (Z0f (V.getD 4 0) 6) (Z0f (V.getD 4 0) 11)) (Z0f (V.getD 4 0) 25)))) + (Z05 .u32 (Z11 .u32 (V.getD 4 0) (V.getD 5 0)) (Z11 .u32 (Z05 .u32 4294967295 (V.getD 4 0)) (V.getD 6 0))))) + (kR.getD i 0))) + (B.getD i 0))) + (IntKind.u32.wrap ((Z05 .u32 (Z05 .u32 (Z0f (V.getD 0 0) 2) (Z0f (V.getD 0 0) 13)) (Z0f (V.getD 0 0) 22)) + (Z05 .u32 (Z05 .u32 (Z11 .u32 (V.getD 0 0) (V.getD 1 0)) (Z11 .u32 (V.getD 0 0) (V.getD 2 0))) (Z11 .u32 (V.getD 1 0) (V.getD 2 0)))))), V.getD 0 0, V.getD 1 0, V.getD 2 0, IntKind.u32.wrap ((V.getD 3 0) + (IntKind.u32.wrap ((IntKind.u32.wrap ((IntKind.u32.wrap ((IntKind.u32.wrap ((V.getD 7 0) + (Z05 .u32 (Z05 .u32 (Z0f (V.getD 4 0) 6) (Z0f (V.getD 4 0) 11)) (Z0f (V.getD 4 0) 25)))) + (Z05 .u32 (Z11 .u32 (V.getD 4 0) (V.getD 5 0)) (Z11 .u32 (Z05 .u32 4294967295 (V.getD 4 0)) (V.getD 6 0))))) + (kR.getD i 0))) + (B.getD i 0)))), V.getD 4 0, V.getD 5 0, V.getD 6 0] : List Int)
def adS (V : List Int) (i : Nat) (X : List Int) : List Int := (X.set i (IntKind.u32.wrap ((X.getD i 0) + (V.getD i 0))))
def ouS (HH : List Int) (i : Nat) (O : List Int) : List Int := ((((O.set (4 * i) (IntKind.u8.wrap ((HH.getD i 0) / 16777216))).set ((4 * i) + 1) (IntKind.u8.wrap ((HH.getD i 0) / 65536))).set ((4 * i) + 2) (IntKind.u8.wrap ((HH.getD i 0) / 256))).set ((4 * i) + 3) (IntKind.u8.wrap (HH.getD i 0)))
def padN (n : Nat) : Nat := (119 - n % 64) % 64
def padP (s : List UInt8) : List UInt8 := s ++ [128] ++ List.replicate (padN s.length) 0
def ZaL (bits : Int) : Nat → List UInt8
 | 0 => []
 | q + 1 => ZaL bits q ++ [UInt8.ofNat (IntKind.u8.wrap (bits / 2 ^ (min (8 * (7 - (q : Int))).toNat 64))).toNat]
def padR (s : List UInt8) : List UInt8 := padP s ++ ZaL ((s.length : Int) * 8) 8
def wLd (D : List UInt8) (b : Nat) : Nat → List Int
 | 0 => List.replicate 64 0
 | i + 1 => ldS D b i (wLd D b i)
def wEx (A : List Int) : Nat → List Int
 | 0 => A
 | j + 1 => exS j (wEx A j)
def wOf (D : List UInt8) (b : Nat) : List Int := wEx (wLd D b 16) 48
def vRu (B HH : List Int) : Nat → List Int
 | 0 => HH
 | i + 1 => ruS B i (vRu B HH i)
def hAd (V HH : List Int) : Nat → List Int
 | 0 => HH
 | i + 1 => adS V i (hAd V HH i)
def Zcv (D : List UInt8) : Nat → List Int
 | 0 => [1779033703, 3144134277, 1013904242, 2773480762, 1359893119, 2600822924, 528734635, 1541459225]
 | b + 1 => hAd (vRu (wOf D b) (Zcv D b) 64) (Zcv D b) 8
def oOf (HH : List Int) : Nat → List Int
 | 0 => List.replicate 32 0
 | i + 1 => ouS HH i (oOf HH i)
theorem ZaM (bits : Int) (q : Nat) : (ZaL bits q).length = q := by
 induction q with
 | zero => rfl
 | succ q ih => simp [ZaL, ih]
theorem ZaN (bits : Int) (q : Nat) : ZaL bits (q + 1) = ZaL bits q ++ [UInt8.ofNat (IntKind.u8.wrap (bits / 2 ^ (min (8 * (7 - (q : Int))).toNat 64))).toNat] := rfl
theorem Zb8 (s : List UInt8) (j : Nat) : s ++ [128] ++ List.replicate j 0 ++ [0] = s ++ [128] ++ List.replicate (j + 1) 0 := by
 rw [List.replicate_succ', List.append_assoc]
theorem Z1P (z : Int) : 0 ≤ IntKind.u8.wrap z ∧ IntKind.u8.wrap z < 256 := by
 rw [Z2X]; omega
theorem Zc6 (HH : List Int) (i : Nat) : (oOf HH i).length = 32 := by
 induction i with
 | zero => rfl
 | succ i ih => simp [oOf, ouS, ih]
theorem Z6a {A : List Int} {i : Nat} {z : Int} (h : ∀ x ∈ A, 0 ≤ x ∧ x < 256) (hz : 0 ≤ z ∧ z < 256) : ∀ x ∈ A.set i z, 0 ≤ x ∧ x < 256 := fun x hx => by
 rcases List.mem_or_eq_of_mem_set hx with h1 | rfl
 ·exact h x h1
 ·exact hz
theorem Zc7 (HH : List Int) (i : Nat) : ∀ x ∈ oOf HH i, 0 ≤ x ∧ x < 256 := by
 induction i with
 | zero => intro x hx; obtain ⟨_, rfl⟩ := List.mem_replicate.1 hx; omega
 | succ i ih => exact Z6a (Z6a (Z6a (Z6a ih (Z1P _)) (Z1P _)) (Z1P _)) (Z1P _)
theorem Z7d {L : List Int} (h : ∀ x ∈ L, 0 ≤ x ∧ x < 256) : L.map (Value.int .u8) = (L.map fun z => UInt8.ofNat z.toNat).map Z1W := by
 rw [List.map_map]
 refine List.map_congr_left fun z hz => ?_
 obtain ⟨h0, h1⟩ := h z hz
 simp only [Function.comp, Z1W]
 congr 1
 simp; omega
def Z9n (L : List Int) (h : L.length = 32) : Z1e := ⟨L.map fun z => UInt8.ofNat z.toNat, by simp [h]⟩
theorem Z6K (L : List Int) (h : L.length = 32) (hr : ∀ x ∈ L, 0 ≤ x ∧ x < 256) : L.map (Value.int .u8) = hc (Z9n L h) := (Z7d hr).trans (Z3X (Z9n L h)).symm
def Zcg (s : List UInt8) : List Int := oOf (Zcv (padR s) ((padR s).length / 64)) 8
theorem Z8d (s : List UInt8) : (Zcg s).length = 32 := Zc6 _ _
theorem Zbh (s : List UInt8) : ∀ x ∈ Zcg s, 0 ≤ x ∧ x < 256 := Zc7 _ _
def Z8 (s : List UInt8) : Z1e := Z9n (Zcg s) (Z8d s)
theorem Z8B (s : List UInt8) : (Zcg s).map (Value.int .u8) = hc (Z8 s) := Z6K (Zcg s) (Z8d s) (Zbh s)
def ofT (cl seq : Int) (x : Z1e) (p : List UInt8) : List UInt8 := [Zs [99, 111, 109, 109, 105, 116], Zl cl, Zl seq, x.l, Zs p].flatten
theorem Zc8 (cl seq : Int) (x : Z1e) (p : List UInt8) : (ofT cl seq x p).length ≤ p.length + 100 := by
 have h1 := Z0g cl; have h2 := Z0g seq; have h3 := x.len; have h4 := Z10 p; have h5 := Z10 [99, 111, 109, 109, 105, 116]
 simp only [List.length_cons, List.length_nil] at h5
 simp only [ofT, List.flatten_cons, List.flatten_nil, List.length_append, List.length_nil]; omega
theorem Z62 (cl seq : Int) (x : Z1e) (p : List UInt8) : ofT cl seq x p = ([] ++ Zs [99, 111, 109, 109, 105, 116] ++ Zl cl ++ Zl seq ++ x.l ++ Zs p) := by
 simp only [ofT, List.flatten_cons, List.flatten_nil, List.append_nil, List.nil_append, List.append_assoc]
theorem Z7y (cl seq : Int) (x : Z1e) (p : List UInt8) (h : p.length ≤ 1000) : ([] ++ Zs [99, 111, 109, 109, 105, 116] ++ Zl cl ++ Zl seq ++ x.l ++ Zs p).length ≤ 1000000 := by
 have := Zc8 cl seq x p
 rw [Z62] at this; omega
end Go.Proofs.YtgigjkjdmalmaaaGreat
