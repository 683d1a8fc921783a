/- WHAT IS PROVED: contracts and plain laws of PBook, Short, Sh2. Conditions: stated with each. -/
import Derived.Test.YtgigjkjdmalmaaaGreatPR02
import Derived.Test.YtgigjkjdmalmaaaGreatPR04
import Derived.Test.YtgigjkjdmalmaaaGreatPR05
set_option maxHeartbeats 4000000
set_option maxRecDepth 100000
namespace Go.Proofs.YtgigjkjdmalmaaaGreat
open Go.RowKit
theorem Z5M {α : Type} (enc : α → Value) (o : Option α) (z : α) : (o.map enc).getD (enc z) = enc (o.getD z) := by cases o <;> rfl
def Z4P (b mb : Nat) (L : List Z5) (tv : Value) (tx : List UInt8) : List Ck := [Z6 b 108 [.map (some mb)], Zi mb Zc (Value.int .i64) (Zk L), Ze 5 1 tv tx.length (tx.flatMap Zo)]
theorem Z3U (w : World) (b mb : Nat) (L : List Z5) (tv : Value) (tx : List UInt8) (hB : (ZF (Z4P b mb L tv tx)).ok w) (_hl : L.length ≤ 1000000) (p : Int) :
  Calls Tryz.prog 14 #[(.pointer (some ⟨b, 0, none⟩)), (.int .i64 (p)), tv] w fun e w' => e = .returned (.agg #[.int .i64 p, .int .i64 (Z9 (Zd L (⟨p, tx⟩ : Z5)) (⟨p, tx⟩ : Z5))]) ∧ Sat w [Z6 b 108 [.map (some mb)], Zi mb Zc (Value.int .i64) (Zk (Zd L (⟨p, tx⟩ : Z5))), Ze 5 1 tv tx.length (tx.flatMap Zo), Zb w (ZF (Z4P b mb L tv tx)).fp] w' := by
 have H : Sat w [Z6 b 108 ([(.map (some mb))] : List Value), Zi mb Zc (Value.int .i64) (Zk L), Ze 5 1 tv tx.length (tx.flatMap Zo), Zb w (ZF (Z4P b mb L tv tx)).fp] w := Sat.start (Z4P b mb L tv tx) hB
 have hmk : (Zr (Zk L) (⟨p, tx⟩ : Z5)).getD 0 = Z9 L (⟨p, tx⟩ : Z5) := by rw [Z2V]; rfl
 have hml := Z5q L
 refine Zu Tryz.func14 rfl 38 rfl (Nat.le_of_ble_eq_true rfl) ?_
 refine Zf ?_
 refine Zm ?_
 refine ZC (Z1 rfl) (fun K1 hK1 => ?_)
 refine Z0y (zs := ([(.int .i64 (0)), (.int .i64 (0))] : List Value)) (z := (.agg ⟨([(.int .i64 (0)), (.int .i64 (0))] : List Value)⟩)) rfl H (by kernel_rfl) (by kernel_rfl) ?_
 intro b2 w3 (H4 : Sat w [Z6 b 108 ([(.map (some mb))] : List Value), Zi mb Zc (Value.int .i64) (Zk L), Ze 5 1 tv tx.length (tx.flatMap Zo), Zb w (ZF (Z4P b mb L tv tx)).fp, Z6 b2 47 ([(.int .i64 (0)), (.int .i64 (0))] : List Value)] w3)
 refine hK1 _ _ ?_
 clear hK1 K1
 refine Zj ?_
 refine Z7 ?_
 refine Zf ?_
 refine Zm ?_
 refine Z3 (Z1 rfl) (d := 8) (v := (.int .i64 (p))) rfl (by kernel_rfl) ?_
 refine Z3 (Z1 rfl) (d := 9) (v := tv) rfl (by kernel_rfl) ?_
 refine Z3 (Z1 rfl) (d := 10) (v := (Zt tx)) rfl (Z2y (e := 5) (s := tx) (by kernel_rfl) (by kernel_rfl) (by kernel_rfl) rfl (Z1i (ListAt.row (e := 5) (enc := Zo) (sz := 1) (v := tv) (n := tx.length) (xs := tx) ZR (by decide) (H4.at 2 rfl)))) ?_
 refine Z3 (Z1 rfl) (d := 11) (v := (.agg ⟨([(.int .i64 (p)), (Zt tx)] : List Value)⟩)) rfl (by kernel_rfl) ?_
 refine ZC (Z1 rfl) (fun K5 hK5 => ?_)
 refine Z0y (zs := ([(.int .i64 (0)), (Zt ([] : List UInt8))] : List Value)) (z := (.agg ⟨([(.int .i64 (0)), (Zt ([] : List UInt8))] : List Value)⟩)) rfl H4 (by kernel_rfl) (by kernel_rfl) ?_
 intro b6 w7 (H8 : Sat w [Z6 b 108 ([(.map (some mb))] : List Value), Zi mb Zc (Value.int .i64) (Zk L), Ze 5 1 tv tx.length (tx.flatMap Zo), Zb w (ZF (Z4P b mb L tv tx)).fp, Z6 b2 47 ([(.int .i64 (0)), (.int .i64 (0))] : List Value), Z6 b6 125 ([(.int .i64 (0)), (Zt ([] : List UInt8))] : List Value)] w7)
 refine hK5 _ _ ?_
 clear hK5 K5
 refine ZC (Z1 rfl) (fun K9 hK9 => ?_)
 refine Z1P (vs := ([(.int .i64 (p)), (Zt tx)] : List Value)) rfl H8 5 rfl rfl rfl rfl (by kernel_rfl) (Nat.le_of_ble_eq_true (by kernel_rfl)) (Nat.le_of_ble_eq_true (by kernel_rfl)) (by kernel_rfl) ?_
 intro w10 (H11 : Sat w [Z6 b 108 ([(.map (some mb))] : List Value), Zi mb Zc (Value.int .i64) (Zk L), Ze 5 1 tv tx.length (tx.flatMap Zo), Zb w (ZF (Z4P b mb L tv tx)).fp, Z6 b2 47 ([(.int .i64 (0)), (.int .i64 (0))] : List Value), Z6 b6 125 ([(.int .i64 (p)), (Zt tx)] : List Value)] w10)
 refine hK9 _ _ ?_
 clear hK9 K9
 refine Zj ?_
 refine Z7 ?_
 refine Zf ?_
 refine Zf ?_
 refine Z1p H11 (by kernel_rfl) (by kernel_rfl) ?_
 refine ZL (Z1 rfl) (d := 12) (v := (.pointer (some ⟨b, 0, none⟩))) rfl (fun _ H' => (by kernel_rfl)) ?_
 refine ZL (Z1 rfl) (d := 13) (v := (.pointer (some ⟨b, 0, none⟩))) rfl (fun _ H' => (by kernel_rfl)) ?_
 refine ZL (Z1 rfl) (d := 14) (v := (.pointer (some ⟨b, 0, none⟩))) rfl (fun _ H' => (by kernel_rfl)) ?_
 refine ZL (Z1 rfl) (d := 15) (v := (.map (some mb))) rfl (fun _ H' => (Zh rfl (by kernel_rfl) (H'.cell 0 rfl rfl))) ?_
 refine ZL (Z1 rfl) (d := 16) (v := (.agg ⟨([(.int .i64 (p)), (Zt tx)] : List Value)⟩)) rfl (fun _ H' => (ZM (vs := ([(.int .i64 (p)), (Zt tx)] : List Value)) rfl (by kernel_rfl) (by kernel_rfl) (by exact Nat.le_of_ble_eq_true (by kernel_rfl)) (H'.at 5 rfl) (by kernel_rfl))) ?_
 refine ZL (Z1 rfl) (d := 17) (v := (.int .i64 ((Zr (Zk L) (⟨p, tx⟩ : Z5)).getD 0))) rfl (fun _ H' => (Z1o (kt := 125) (et := 3) Z3r (by kernel_rfl) (fun w => by kernel_rfl) rfl (⟨p, tx⟩ : Z5) rfl (H'.at 1 rfl) (Z5M (Value.int .i64) _ _))) ?_
 refine ZL (Z1 rfl) (d := 18) (v := (.bool (decide (((Zr (Zk L) (⟨p, tx⟩ : Z5)).getD 0) = 0)))) rfl (fun _ H' => (by kernel_rfl)) ?_
 refine Z1J ?_
 intro w13 H14
 refine Z7 ?_
 refine (Z00 (decide (((Zr (Zk L) (⟨p, tx⟩ : Z5)).getD 0) = 0))).elim (fun b15 => ?_) (fun b15 => ?_)
 ·have g16 := of_decide_eq_true b15
  refine Zq 18 (.bool true) (congrArg Value.bool b15) ?_
  have g17 := of_decide_eq_true b15
  refine Z0o rfl ?_
  refine Z0m H14 [Z6 b 108 ([(.map (some mb))] : List Value), Ze 5 1 tv tx.length (tx.flatMap Zo), Zb w (ZF (Z4P b mb L tv tx)).fp, Z6 b2 47 ([(.int .i64 (0)), (.int .i64 (0))] : List Value), Z6 b6 125 ([(.int .i64 (p)), (Zt tx)] : List Value)] 12 rfl (by kernel_rfl) (fun Hx => (Hx.pick [0, 2, 3, 4, 5] (by decide))) ?_
  intro w18 H19 S20
  refine Zx 0 rfl (by kernel_rfl) (by kernel_rfl) (by kernel_rfl) (fun _ _ _ h => h) S20 (Z1 rfl) (d := 19) (v := (.pointer (some ⟨b, 0, none⟩))) rfl (fun _ H' => (by kernel_rfl)) ?_
  refine Zx 1 rfl (by kernel_rfl) (by kernel_rfl) (by kernel_rfl) (fun _ _ _ h => h) S20 (Z1 rfl) (d := 20) (v := (.pointer (some ⟨b, 0, none⟩))) rfl (fun _ H' => (by kernel_rfl)) ?_
  refine Zx 2 rfl (by kernel_rfl) (by kernel_rfl) (by kernel_rfl) (fun _ _ _ h => h) S20 (Z1 rfl) (d := 21) (v := (.pointer (some ⟨b, 0, none⟩))) rfl (fun _ H' => (by kernel_rfl)) ?_
  refine Zx 3 rfl (by kernel_rfl) (by kernel_rfl) (by kernel_rfl) (fun _ _ _ h => h) S20 (Z1 rfl) (d := 22) (v := (.map (some mb))) rfl (fun _ H' => (Zh rfl (by kernel_rfl) (H'.cell 0 rfl rfl))) ?_
  refine Zx 4 rfl (by kernel_rfl) (by kernel_rfl) (by kernel_rfl) (fun _ _ _ h => h) S20 (Z1 rfl) (d := 23) (v := (.agg ⟨([(.int .i64 (p)), (Zt tx)] : List Value)⟩)) rfl (fun _ H' => (ZM (vs := ([(.int .i64 (p)), (Zt tx)] : List Value)) rfl (by kernel_rfl) (by kernel_rfl) (by exact Nat.le_of_ble_eq_true (by kernel_rfl)) (H'.at 4 rfl) (by kernel_rfl))) ?_
  refine Zx 5 rfl (by kernel_rfl) (by kernel_rfl) (by kernel_rfl) (fun _ _ _ h => h) S20 (Z1 rfl) (d := 24) (v := (.pointer (some ⟨b, 0, none⟩))) rfl (fun _ H' => (by kernel_rfl)) ?_
  refine Zx 6 rfl (by kernel_rfl) (by kernel_rfl) (by kernel_rfl) (fun _ _ _ h => h) S20 (Z1 rfl) (d := 25) (v := (.pointer (some ⟨b, 0, none⟩))) rfl (fun _ H' => (by kernel_rfl)) ?_
  refine Zx 7 rfl (by kernel_rfl) (by kernel_rfl) (by kernel_rfl) (fun _ _ _ h => h) S20 (Z1 rfl) (d := 26) (v := (.pointer (some ⟨b, 0, none⟩))) rfl (fun _ H' => (by kernel_rfl)) ?_
  refine Zx 8 rfl (by kernel_rfl) (by kernel_rfl) (by kernel_rfl) (fun _ _ _ h => h) S20 (Z1 rfl) (d := 27) (v := (.map (some mb))) rfl (fun _ H' => (Zh rfl (by kernel_rfl) (H'.cell 0 rfl rfl))) ?_
  refine Z1k 9 rfl (by kernel_rfl) (Z1 rfl) (fun K21 hK21 => ?_)
  refine d_pure (d := 28) (v := (.int .i64 ((((Zk L)).length : Int)))) rfl (e_len (kt := 125) (et := 3) (by kernel_rfl) (H19.at 1 rfl) rfl) ?_
  have S22 := H19.pick [0, 2, 3, 4, 5] (by decide)
  refine hK21 _ _ S22 ?_
  clear hK21 K21
  refine Zx 10 rfl (by kernel_rfl) (by kernel_rfl) (by kernel_rfl) (fun _ _ _ h => h) S22 (Z1 rfl) (d := 29) (v := (.int .i64 ((((Zk L)).length : Int) + 1))) rfl (fun _ H' => (Z06 (z := (((Zk L)).length : Int) + 1) (by kernel_rfl) (IntWalk.i64_in _ (by omega)))) ?_
  refine Z1k 11 rfl (by kernel_rfl) (Z1 rfl) (fun K23 hK23 => ?_)
  refine Z1n (kt := 125) (et := 3) rfl H19 1 rfl Z3r (by kernel_rfl) rfl (⟨p, tx⟩ : Z5) rfl ((((Zk L)).length : Int) + 1) rfl ?_
  intro w24 (H25 : Sat w [Z6 b 108 ([(.map (some mb))] : List Value), Zi mb Zc (Value.int .i64) (Z1L (Zk L) (⟨p, tx⟩ : Z5) ((((Zk L)).length : Int) + 1)), Ze 5 1 tv tx.length (tx.flatMap Zo), Zb w (ZF (Z4P b mb L tv tx)).fp, Z6 b2 47 ([(.int .i64 (0)), (.int .i64 (0))] : List Value), Z6 b6 125 ([(.int .i64 (p)), (Zt tx)] : List Value)] w24)
  have S26 := H25.pick [0, 2, 3, 4, 5] (by decide)
  refine hK23 _ _ S26 ?_
  clear hK23 K23
  refine Z0S (by kernel_rfl) ?_
  refine Z7 ?_
  refine Zf ?_
  refine Z0m H25 [Z6 b 108 ([(.map (some mb))] : List Value), Zi mb Zc (Value.int .i64) (Z1L (Zk L) (⟨p, tx⟩ : Z5) ((((Zk L)).length : Int) + 1)), Ze 5 1 tv tx.length (tx.flatMap Zo), Zb w (ZF (Z4P b mb L tv tx)).fp, Z6 b6 125 ([(.int .i64 (p)), (Zt tx)] : List Value)] 9 rfl (by kernel_rfl) (fun Hx => (Hx.pick [0, 1, 2, 3, 5] (by decide))) ?_
  intro w27 H28 S29
  refine Zx 0 rfl (by kernel_rfl) (by kernel_rfl) (by kernel_rfl) (fun _ _ _ h => h) S29 (Z1 rfl) (d := 30) (v := (.int .i64 (p))) rfl (fun _ H' => (by kernel_rfl)) ?_
  refine Zx 1 rfl (by kernel_rfl) (by kernel_rfl) (by kernel_rfl) (fun _ _ _ h => h) S29 (Z1 rfl) (d := 31) (v := (.pointer (some ⟨b, 0, none⟩))) rfl (fun _ H' => (by kernel_rfl)) ?_
  refine Zx 2 rfl (by kernel_rfl) (by kernel_rfl) (by kernel_rfl) (fun _ _ _ h => h) S29 (Z1 rfl) (d := 32) (v := (.pointer (some ⟨b, 0, none⟩))) rfl (fun _ H' => (by kernel_rfl)) ?_
  refine Zx 3 rfl (by kernel_rfl) (by kernel_rfl) (by kernel_rfl) (fun _ _ _ h => h) S29 (Z1 rfl) (d := 33) (v := (.pointer (some ⟨b, 0, none⟩))) rfl (fun _ H' => (by kernel_rfl)) ?_
  refine Zx 4 rfl (by kernel_rfl) (by kernel_rfl) (by kernel_rfl) (fun _ _ _ h => h) S29 (Z1 rfl) (d := 34) (v := (.map (some mb))) rfl (fun _ H' => (Zh rfl (by kernel_rfl) (H'.cell 0 rfl rfl))) ?_
  refine Zx 5 rfl (by kernel_rfl) (by kernel_rfl) (by kernel_rfl) (fun _ _ _ h => h) S29 (Z1 rfl) (d := 35) (v := (.agg ⟨([(.int .i64 (p)), (Zt tx)] : List Value)⟩)) rfl (fun _ H' => (ZM (vs := ([(.int .i64 (p)), (Zt tx)] : List Value)) rfl (by kernel_rfl) (by kernel_rfl) (by exact Nat.le_of_ble_eq_true (by kernel_rfl)) (H'.at 4 rfl) (by kernel_rfl))) ?_
  refine Zx 6 rfl (by kernel_rfl) (by kernel_rfl) (by kernel_rfl) (fun _ _ _ h => h) S29 (Z1 rfl) (d := 36) (v := (.int .i64 ((Zr (Z1L (Zk L) (⟨p, tx⟩ : Z5) ((((Zk L)).length : Int) + 1)) (⟨p, tx⟩ : Z5)).getD 0))) rfl (fun _ H' => (Z1o (kt := 125) (et := 3) Z3r (by kernel_rfl) (fun w => by kernel_rfl) rfl (⟨p, tx⟩ : Z5) rfl (H'.at 1 rfl) (Z5M (Value.int .i64) _ _))) ?_
  refine Zx 7 rfl (by kernel_rfl) (by kernel_rfl) (by kernel_rfl) (fun _ _ _ h => h) S29 (Z1 rfl) (d := 37) (v := (.agg ⟨([(.int .i64 (p)), (.int .i64 ((Zr (Z1L (Zk L) (⟨p, tx⟩ : Z5) ((((Zk L)).length : Int) + 1)) (⟨p, tx⟩ : Z5)).getD 0))] : List Value)⟩)) rfl (fun _ H' => (by kernel_rfl)) ?_
  refine Z1k 8 rfl (by kernel_rfl) (Z1 rfl) (fun K30 hK30 => ?_)
  refine Z1P (vs := ([(.int .i64 (p)), (.int .i64 ((Zr (Z1L (Zk L) (⟨p, tx⟩ : Z5) ((((Zk L)).length : Int) + 1)) (⟨p, tx⟩ : Z5)).getD 0))] : List Value)) rfl H28 4 rfl rfl rfl rfl (by kernel_rfl) (Nat.le_of_ble_eq_true (by kernel_rfl)) (Nat.le_of_ble_eq_true (by kernel_rfl)) (by kernel_rfl) ?_
  intro w31 (H32 : Sat w [Z6 b 108 ([(.map (some mb))] : List Value), Zi mb Zc (Value.int .i64) (Z1L (Zk L) (⟨p, tx⟩ : Z5) ((((Zk L)).length : Int) + 1)), Ze 5 1 tv tx.length (tx.flatMap Zo), Zb w (ZF (Z4P b mb L tv tx)).fp, Z6 b2 47 ([(.int .i64 (p)), (.int .i64 ((Zr (Z1L (Zk L) (⟨p, tx⟩ : Z5) ((((Zk L)).length : Int) + 1)) (⟨p, tx⟩ : Z5)).getD 0))] : List Value), Z6 b6 125 ([(.int .i64 (p)), (Zt tx)] : List Value)] w31)
  have S34 := H32.pick [0, 1, 2, 3, 5] (by decide)
  refine hK30 _ _ S34 ?_
  clear hK30 K30
  refine Z0S (by kernel_rfl) ?_
  refine Z7 ?_
  refine ZY ?_
  refine Z0I rfl (Z07 (vs := ([(.int .i64 (p)), (.int .i64 ((Zr (Z1L (Zk L) (⟨p, tx⟩ : Z5) ((((Zk L)).length : Int) + 1)) (⟨p, tx⟩ : Z5)).getD 0))] : List Value)) rfl (by kernel_rfl) (by kernel_rfl) (by exact Nat.le_of_ble_eq_true (by kernel_rfl)) (H32.at 4 rfl) (by kernel_rfl)) ?_
  have hm : (⟨p, tx⟩ : Z5) ∉ L := fun hc => by
   have q := of_decide_eq_true b15
   rw [hmk] at q
   have := (Z4N hc).1
   omega
  have hs : Zd L (⟨p, tx⟩ : Z5) = L ++ [(⟨p, tx⟩ : Z5)] := by unfold Zd; rw [if_neg hm]
  have hp : (Z1L (Zk L) (⟨p, tx⟩ : Z5) ((((Zk L)).length : Int) + 1)) = Zk (L ++ [(⟨p, tx⟩ : Z5)]) := by rw [hml]; exact Z5w L _ hm
  exact ⟨by rw [hs, hp, Z2V]; rfl, by rw [hs, ← hp]; exact H32.pick [0, 1, 2, 3] (by decide)⟩
 ·have g35 := of_decide_eq_false b15
  refine Zq 18 (.bool false) (congrArg Value.bool b15) ?_
  have g36 := of_decide_eq_false b15
  refine ZT rfl ?_
  refine ZO ?_
  refine Z7 ?_
  refine Zf ?_
  refine Z0m H14 [Z6 b 108 ([(.map (some mb))] : List Value), Zi mb Zc (Value.int .i64) (Zk L), Ze 5 1 tv tx.length (tx.flatMap Zo), Zb w (ZF (Z4P b mb L tv tx)).fp, Z6 b6 125 ([(.int .i64 (p)), (Zt tx)] : List Value)] 9 rfl (by kernel_rfl) (fun Hx => (Hx.pick [0, 1, 2, 3, 5] (by decide))) ?_
  intro w37 H38 S39
  refine Zx 0 rfl (by kernel_rfl) (by kernel_rfl) (by kernel_rfl) (fun _ _ _ h => h) S39 (Z1 rfl) (d := 30) (v := (.int .i64 (p))) rfl (fun _ H' => (by kernel_rfl)) ?_
  refine Zx 1 rfl (by kernel_rfl) (by kernel_rfl) (by kernel_rfl) (fun _ _ _ h => h) S39 (Z1 rfl) (d := 31) (v := (.pointer (some ⟨b, 0, none⟩))) rfl (fun _ H' => (by kernel_rfl)) ?_
  refine Zx 2 rfl (by kernel_rfl) (by kernel_rfl) (by kernel_rfl) (fun _ _ _ h => h) S39 (Z1 rfl) (d := 32) (v := (.pointer (some ⟨b, 0, none⟩))) rfl (fun _ H' => (by kernel_rfl)) ?_
  refine Zx 3 rfl (by kernel_rfl) (by kernel_rfl) (by kernel_rfl) (fun _ _ _ h => h) S39 (Z1 rfl) (d := 33) (v := (.pointer (some ⟨b, 0, none⟩))) rfl (fun _ H' => (by kernel_rfl)) ?_
  refine Zx 4 rfl (by kernel_rfl) (by kernel_rfl) (by kernel_rfl) (fun _ _ _ h => h) S39 (Z1 rfl) (d := 34) (v := (.map (some mb))) rfl (fun _ H' => (Zh rfl (by kernel_rfl) (H'.cell 0 rfl rfl))) ?_
  refine Zx 5 rfl (by kernel_rfl) (by kernel_rfl) (by kernel_rfl) (fun _ _ _ h => h) S39 (Z1 rfl) (d := 35) (v := (.agg ⟨([(.int .i64 (p)), (Zt tx)] : List Value)⟩)) rfl (fun _ H' => (ZM (vs := ([(.int .i64 (p)), (Zt tx)] : List Value)) rfl (by kernel_rfl) (by kernel_rfl) (by exact Nat.le_of_ble_eq_true (by kernel_rfl)) (H'.at 4 rfl) (by kernel_rfl))) ?_
  refine Zx 6 rfl (by kernel_rfl) (by kernel_rfl) (by kernel_rfl) (fun _ _ _ h => h) S39 (Z1 rfl) (d := 36) (v := (.int .i64 ((Zr (Zk L) (⟨p, tx⟩ : Z5)).getD 0))) rfl (fun _ H' => (Z1o (kt := 125) (et := 3) Z3r (by kernel_rfl) (fun w => by kernel_rfl) rfl (⟨p, tx⟩ : Z5) rfl (H'.at 1 rfl) (Z5M (Value.int .i64) _ _))) ?_
  refine Zx 7 rfl (by kernel_rfl) (by kernel_rfl) (by kernel_rfl) (fun _ _ _ h => h) S39 (Z1 rfl) (d := 37) (v := (.agg ⟨([(.int .i64 (p)), (.int .i64 ((Zr (Zk L) (⟨p, tx⟩ : Z5)).getD 0))] : List Value)⟩)) rfl (fun _ H' => (by kernel_rfl)) ?_
  refine Z1k 8 rfl (by kernel_rfl) (Z1 rfl) (fun K40 hK40 => ?_)
  refine Z1P (vs := ([(.int .i64 (p)), (.int .i64 ((Zr (Zk L) (⟨p, tx⟩ : Z5)).getD 0))] : List Value)) rfl H38 4 rfl rfl rfl rfl (by kernel_rfl) (Nat.le_of_ble_eq_true (by kernel_rfl)) (Nat.le_of_ble_eq_true (by kernel_rfl)) (by kernel_rfl) ?_
  intro w41 (H42 : Sat w [Z6 b 108 ([(.map (some mb))] : List Value), Zi mb Zc (Value.int .i64) (Zk L), Ze 5 1 tv tx.length (tx.flatMap Zo), Zb w (ZF (Z4P b mb L tv tx)).fp, Z6 b2 47 ([(.int .i64 (p)), (.int .i64 ((Zr (Zk L) (⟨p, tx⟩ : Z5)).getD 0))] : List Value), Z6 b6 125 ([(.int .i64 (p)), (Zt tx)] : List Value)] w41)
  have S44 := H42.pick [0, 1, 2, 3, 5] (by decide)
  refine hK40 _ _ S44 ?_
  clear hK40 K40
  refine Z0S (by kernel_rfl) ?_
  refine Z7 ?_
  refine ZY ?_
  refine Z0I rfl (Z07 (vs := ([(.int .i64 (p)), (.int .i64 ((Zr (Zk L) (⟨p, tx⟩ : Z5)).getD 0))] : List Value)) rfl (by kernel_rfl) (by kernel_rfl) (by exact Nat.le_of_ble_eq_true (by kernel_rfl)) (H42.at 4 rfl) (by kernel_rfl)) ?_
  have hm : (⟨p, tx⟩ : Z5) ∈ L := by
   refine Decidable.not_not.1 fun hc => ?_
   have q := of_decide_eq_false b15
   rw [hmk, Z4l hc] at q
   exact q rfl
  exact ⟨by rw [Z2j hm, ← hmk], by rw [Z2j hm]; exact H42.pick [0, 1, 2, 3] (by decide)⟩
variable {P : Program} {ops : Array Oper} {Q : Exit → Act → World → Prop} {n : Nat} {f : Nat → Value} {w0 w w' : World} {o : Oper} {rest : List Oper} {G : List Ck} {C : World → Prop} {A : Act → Prop}
theorem wv (d : Nat) (v : Value) (k : WL P ops Q rest n (upd f d v) w) (hg : o.guard = none := by exact rfl) (hd : o.dst = some d := by exact rfl) (hr : (execOp (ev n f) o).run P w = .ok (.value v) w := by kernel_rfl) : WL P ops Q (o :: rest) n f w := Z3 (Z1 hg) hd hr k
theorem qv {Q : Act → Prop} (d : Nat) (v : Value) (k : WQ P ops C Q rest n (upd f d v)) (hg : o.guard = none := by exact rfl) (hd : o.dst = some d := by exact rfl) (hr : ∀ w, C w → (execOp (ev n f) o).run P w = .ok (.value v) w := by exact fun _ _ => by kernel_rfl) : WQ P ops C Q (o :: rest) n f := ZL (Z1 hg) hd hr k
theorem hv0 {S : World → Prop} {listed : Array Bool} {fuel : Nat} {Q : Exit → Act → World → Prop} (i : Nat) (HS : S w) (d : Nat) (v : Value) (k : WH P ops Q S fuel (listed.setIfInBounds i true) n (upd f d v) w) (hi : ops[i]? = some o := by exact rfl) (hs : Region.noSelect ops = true := by kernel_rfl) (hf : Region.free .any ops listed i = true := by kernel_rfl) (hr : (Region.ready .any ops listed).contains i = true := by kernel_rfl) (hQ : ∀ c a w, Q (.panic c) (a.put o.dst v) w → Q (.panic c) a w := by exact fun _ _ _ h => h)
  (hg : o.guard = none := by exact rfl) (hd : o.dst = some d := by exact rfl) (he : ∀ w, S w → (execOp (ev n f) o).run P w = .ok (.value v) w := by exact fun _ _ => by kernel_rfl) :
  WH P ops Q S (fuel + 1) listed n f w := Zx i hi hs hf hr hQ HS (Z1 hg) hd he k
abbrev pt (b o : Nat) : Value := .pointer (some ⟨b, o, none⟩)
section
variable {P : Program} {Q Q' : Exit → Act → World → Prop} {n : Nat} {f : Nat → Value} {w w0 w' : World} {G : List Ck} {o : Oper} {ops : Array Oper}
theorem ztn {y : Code} (h : WC P y Q' n f w) : Exit.then (y.wp P Q') Q .normal (fr n f) w := h.h
theorem znt {y : Code} (h : WC P y Q' n f w) : WL P ops (Exit.then (y.wp P Q') Q) [] n f w := Zj h.h
theorem zsl {id : Nat} {l : List Oper} {y : Code} (h : WL P l.toArray (Exit.then (y.wp P Q) Q) l n f w) : WC P (Code.seq (Code.region id l.toArray false) y) Q n f w := Zf (Zm h)
theorem Z2k {id : Nat} {l : List Oper} {y : Code} (h : WL P l.toArray (Exit.then (y.wp P Q') Q') l n f w) : WL P ops (Exit.then ((Code.seq (Code.region id l.toArray false) y).wp P Q') Q) [] n f w := znt (zsl h)
theorem zwd {rest : List Oper} (k : ∀ K : Act → World → Prop, (∀ g w', WL P ops Q rest n g w' → K (fr n g) w') → WO P o K Q n f w) (hg : o.guard = none := by exact rfl) : WL P ops Q (o :: rest) n f w := ZC (Z1 hg) k
theorem zxb {next : Act → World → Prop} {ws : List Nat} {F : Nat → Value} {R : (Nat → Value) → World → Nat → Prop} {m : Nat} {id : Nat} (h : Q .normal (fr n f) w) : WC P (Code.exit id) (Exit.then next (Back n ws F R m (Exit.inBlock id Q))) n f w := Z1N (Z0F (Z0C (Z1c h)))
theorem Z3u {d : Nat} {x y : Code} (b : Bool) (hb : b = true) (k : WC P x Q n (upd f d (.bool true)) w) (hf : f d = .bool b := by exact rfl) (he : ev n (upd f d (.bool true)) (.tmp d) = .bool true := by exact rfl) : WC P (Code.cond (.tmp d) x y) Q n f w := Zq d (.bool true) (hf.trans (congrArg Value.bool hb)) (Z0o he k)
theorem Z2G {d : Nat} {x y : Code} (b : Bool) (hb : b = false) (k : WC P y Q n (upd f d (.bool false)) w) (hf : f d = .bool b := by exact rfl) (he : ev n (upd f d (.bool false)) (.tmp d) = .bool false := by exact rfl) : WC P (Code.cond (.tmp d) x y) Q n f w := Zq d (.bool false) (hf.trans (congrArg Value.bool hb)) (ZT he k)
end
section
variable {P : Program} {ops : Array Oper} {S : World → Prop} {Q : Exit → Act → World → Prop} {n : Nat} {f : Nat → Value} {w0 w w' : World} {o : Oper} {G : List Ck} {listed : Array Bool} {fuel : Nat} {B : List Nat}
theorem Z0K (i : Nat) (k : ∀ K : Act → World → Prop, (∀ g w', S w' → (WH P ops Q S fuel (listed.setIfInBounds i true) n g w') → K (fr n g) w') → WO P o K Q n f w) (hi : ops[i]? = some o := by exact rfl) (hr : Region.ready .any ops listed = [i] := by kernel_rfl) (hg : o.guard = none := by exact rfl) : WH P ops Q S (fuel + 1) listed n f w := Z1k i hi hr (Z1 hg) k
theorem zhf (h : Q .normal (fr n f) w) (hr : Region.ready .any ops listed = [] := by kernel_rfl) : WH P ops Q S fuel listed n f w := Z0S hr h
theorem zkp (i : Nat) (HS : S w) (d : Nat) (v : Value) (k : WK P ops Q S (Z1f B) fuel (listed.setIfInBounds i true) n (upd f d v) w) (hi : ops[i]? = some o := by exact rfl) (hs : Region.noSelect ops = true := by kernel_rfl) (hf : Region.free .any ops listed i = true := by kernel_rfl) (hr : (Region.ready .any ops listed).contains i = true := by kernel_rfl) (hQ : ∀ c a w, Q (.panic c) (a.put o.dst v) w → Q (.panic c) a w := by exact fun _ _ _ h => h)
  (hg : o.guard = none := by exact rfl) (hiB : Z1f B i = false := by exact rfl) (hd : o.dst = some d := by exact rfl) (he : ∀ w, (execOp (ev n f) o).run P w = .ok (.value v) w := by exact fun _ => by kernel_rfl) : WK P ops Q S (Z1f B) (fuel + 1) listed n f w := ZU i hi hs hf hr hQ HS (Z1 hg) hiB hd he k
theorem zkv (i : Nat) (HS : S w) (d : Nat) (v : Value) (k : WK P ops Q S (Z1f B) fuel (listed.setIfInBounds i true) n (upd f d v) w) (hi : ops[i]? = some o := by exact rfl) (hs : Region.noSelect ops = true := by kernel_rfl) (hf : Region.free .any ops listed i = true := by kernel_rfl) (hr : (Region.ready .any ops listed).contains i = true := by kernel_rfl) (hQ : ∀ c a w, Q (.panic c) (a.put o.dst v) w → Q (.panic c) a w := by exact fun _ _ _ h => h)
  (hg : o.guard = none := by exact rfl) (hiB : Z1f B i = false := by exact rfl) (hB : Z6K ops B i = true := by kernel_rfl) (hd : o.dst = some d := by exact rfl) (he : ∀ w, S w → (execOp (ev n f) o).run P w = .ok (.value v) w := by exact fun _ _ => by kernel_rfl) : WK P ops Q S (Z1f B) (fuel + 1) listed n f w := Z18 i hi hs hf hr hQ HS (Z1 hg) hiB hB hd he k
theorem Z6M (i : Nat) (k : ∀ K : Act → World → Prop, (∀ g w', S w' → (WK P ops Q S (Z1f B) fuel (listed.setIfInBounds i true) n g w') → K (fr n g) w') → WO P o K Q n f w) (hi : ops[i]? = some o := by exact rfl) (hr : Region.ready .any ops listed = [i] := by kernel_rfl) (hg : o.guard = none := by exact rfl) (hiB : Z1f B i = false := by exact rfl) : WK P ops Q S (Z1f B) (fuel + 1) listed n f w := Z2L i hi hr (Z1 hg) hiB k
theorem zqs {Q : Exit → Act → World → Prop} {id : Nat} {l : List Oper} (H : Sat w0 G w) (k : WQ P l.toArray (Sat w0 G) (fun a' => ∀ w', Sat w0 G w' → Q .normal a' w') l n f) (hm : P.follows .mixedOrders = true := by kernel_rfl) (hB : Region.lexB .any l.toArray = true := by kernel_rfl) : WC P (Code.region id l.toArray true) Q n f w := Z1p H hm hB k
end
section
variable {P : Program} {Q : Exit → Act → World → Prop} {n : Nat} {f : Nat → Value} {w0 w w' : World} {G : List Ck} {dst : Option Tmp} {ty : TypeId} {pos : String} {aft : Array Edge} {gd : Option (Nat × Bool)} {K : Act → World → Prop} {o : Oper} {ops : Array Oper} {rest : List Oper}
theorem zds {T : TypeId} {x y : Operand} {b q : Nat} {E : TypeId} {cs : List Value} {u : Value} (vs cs' : List Value) (H : Sat w0 G w) (i : Nat) (k : ∀ w', Sat w0 (G.set i (Z6 b E cs')) w' → K (fr n f) w') (hi : G[i]? = some (Z6 b E cs) := by exact rfl) (hx : ev n f x = .pointer (some ⟨b, q, none⟩) := by exact rfl) (hy : ev n f y = u := by exact rfl) (hu : u.cells = ⟨vs⟩ := by exact rfl) (hd : dst = none := by exact rfl) (hN : P.cellsOf T = vs.length := by kernel_rfl) (h0 : 0 < vs.length := by exact Nat.le_of_ble_eq_true (by kernel_rfl)) (ho : q + vs.length ≤ cs.length := by exact Nat.le_of_ble_eq_true (by kernel_rfl)) (h1 : vs.all (·.oneCell') = true := by kernel_rfl) (hs : Z0x cs q vs = cs' := by kernel_rfl) :
  WO P ⟨dst, .store T x y, ty, pos, aft, gd⟩ K Q n f w := ZV hd H i hi hx hy hu hN h0 ho h1 hs k
theorem Z6m {T : TypeId} {x y : Operand} {b q : Nat} {E : TypeId} {cs : List Value} {u : Value} (vs : List Value) (H : Sat w0 G w) (i : Nat) (k : ∀ w', Sat w0 (G.set i (Z6 b E vs)) w' → K (fr n f) w') (hi : G[i]? = some (Z6 b E cs) := by exact rfl) (hx : ev n f x = .pointer (some ⟨b, q, none⟩) := by exact rfl) (hy : ev n f y = u := by exact rfl) (hu : u.cells = ⟨vs⟩ := by exact rfl) (hd : dst = none := by exact rfl) (hN : P.cellsOf T = vs.length := by kernel_rfl) (h0 : 0 < vs.length := by exact Nat.le_of_ble_eq_true (by kernel_rfl)) (ho : q + vs.length ≤ cs.length := by exact Nat.le_of_ble_eq_true (by kernel_rfl)) (h1 : vs.all (·.oneCell') = true := by kernel_rfl) (hs : Z0x cs q vs = vs := by kernel_rfl) :
  WO P ⟨dst, .store T x y, ty, pos, aft, gd⟩ K Q n f w := ZV hd H i hi hx hy hu hN h0 ho h1 hs k
theorem zda {T : TypeId} {d : Nat} (zs : List Value) (H : Sat w0 G w) (k : ∀ b w', Sat w0 (G ++ [Z6 b T zs]) w' → K (fr n (upd f d (.pointer (some ⟨b, 0, none⟩)))) w') (hz : (P.info? T).bind (·.zero) = some (.agg ⟨zs⟩) := by kernel_rfl) (hd : dst = some d := by exact rfl) : WO P ⟨dst, .alloc T, ty, pos, aft, gd⟩ K Q n f w := Z0y hd H hz rfl k
theorem zdb {T : TypeId} {x : Operand} {v : Value} {d : Nat} (vs : List Value) (H : Sat w0 G w) (k : ∀ b w', Sat w0 (G ++ [Z6 b T vs]) w' → K (fr n (upd f d (.pointer (some ⟨b, 0, none⟩)))) w') (hx : ev n f x = v := by exact rfl) (hvs : v.cells = ⟨vs⟩ := by exact rfl) (hd : dst = some d := by exact rfl) : WO P ⟨dst, .box T x, ty, pos, aft, gd⟩ K Q n f w := Z0L hd H hx hvs k
theorem Z5I {T : TypeId} {N : Nat} {parts : Array (Nat × Operand)} {d : Nat} (e size bytes : Nat) (z : Value) (pvs : List (Nat × Value)) (vs : List Value) (H : Sat w0 G w) (kk : ∀ b w', Sat w0 (G ++ [Ze e size (.slice (some ⟨b, 0, none⟩) N N) N vs]) w' → K (fr n (upd f d (.slice (some ⟨b, 0, none⟩) N N))) w') (hd : dst = some d := by exact rfl) (hR : Z2M P T e size bytes = true := by kernel_rfl) (hz : (P.info? e).bind (·.zero) = some z := by kernel_rfl)
  (hp : (parts.map fun q => (q.1, ev n f q.2)).toList = pvs := by kernel_rfl) (hf : Instr.fill (fun j => some (j * size, size)) ((Array.range (N * size)).map fun q => z.cells[q % z.cells.size]!) pvs = some ⟨vs⟩ := by kernel_rfl) (hl : Nat.beq vs.length (N * size) = true := by kernel_rfl) (hN : Nat.blt 0 N = true := by exact rfl) (hsz : Nat.ble (N * size) 16777216 = true := by exact rfl) : WO P ⟨dst, .buildSlice T N parts, ty, pos, aft, gd⟩ K Q n f w := Z02 hd H hR hz hp hf hl hN hsz kk
theorem zdc {g : FuncId} {args : Array Value} {R : Ending → World → Prop} (d : Nat) (hc : Calls P g args w R) (k : ∀ e w'', R e w'' → ∃ v, e = .returned v ∧ K (fr n (upd f d v)) w'') (hd : o.dst = some d := by exact rfl) (hr : (execOp (ev n f) o).run P w = .ok (.enter g args) w := by kernel_rfl) : WO P o K Q n f w := ZD hd hr hc k
theorem zdq {g : FuncId} {args : Array Value} {v : Value} (d : Nat) (hc : Calls P g args w fun e w'' => e = .returned v ∧ Upd [] w w'') (H : Sat w0 G w) (k : ∀ w'', Sat w0 G w'' → K (fr n (upd f d v)) w'') (hd : o.dst = some d := by exact rfl) (hr : (execOp (ev n f) o).run P w = .ok (.enter g args) w := by kernel_rfl) : WO P o K Q n f w := ZD hd hr hc fun e w'' h => ⟨v, h.1, k w'' (H.keepU h.2)⟩
theorem zwN {b t : Nat} {cs : List Value} {E : TypeId} {fz : Nat × Nat} {T : TypeId} {x : Operand} (d : Nat) (vs : List Value) (hb : w.heap[b]? = some (.cells ⟨cs⟩ E fz)) (k : WL P ops Q rest n (upd f d (.agg ⟨vs⟩)) w) (hx : ev n f x = .pointer (some ⟨b, t, none⟩) := by exact rfl) (hT : Z42 P T = true := by kernel_rfl) (hN : P.cellsOf T = vs.length := by kernel_rfl) (h0 : 0 < vs.length := by exact Nat.le_of_ble_eq_true (by kernel_rfl)) (hv : (cs.drop t).take vs.length = vs := by kernel_rfl) (hg : gd = none := by exact rfl) (hd : dst = some d := by exact rfl) : WL P ops Q (⟨dst, .load T x, ty, pos, aft, gd⟩ :: rest) n f w := Z3 (Z1 hg) hd (ZM hx hT hN h0 hb hv) k
theorem zwi {o : Oper} (d : Nat) (z : Int) (k : WL P ops Q rest n (upd f d (.int .i64 z)) w) (h : -9223372036854775808 ≤ z ∧ z ≤ 9223372036854775807 := by omega) (hr : (execOp (ev n f) o).run P w = .ok (.value (.int .i64 (IntKind.i64.wrap z))) w := by kernel_rfl) (hg : o.guard = none := by exact rfl) (hd : o.dst = some d := by exact rfl) : WL P ops Q (o :: rest) n f w := Z3 (Z1 hg) hd (Z06 hr (IntWalk.i64_in _ h)) k
theorem zw1 {p : Addr} {T : TypeId} {x : Operand} (d : Nat) (v : Value) (hc : w.cell? p = some v) (k : WL P ops Q rest n (upd f d v) w) (hx : ev n f x = .pointer (some p) := by exact rfl) (hT : Z3x P T = true := by kernel_rfl) (hg : gd = none := by exact rfl) (hd : dst = some d := by exact rfl) : WL P ops Q (⟨dst, .load T x, ty, pos, aft, gd⟩ :: rest) n f w := Z3 (Z1 hg) hd (Zh hx hT hc) k
end
section
variable {P : Program} {fn : Func} {R : Ending → World → Prop} {n : Nat} {f : Nat → Value} {w : World}
theorem ze1 {t : Nat} (v : Value) (h : R (.returned v) w) (hr : fn.results = #[.tmp t] := by exact rfl) (h1 : ev n f (.tmp t) = v := by exact rfl) : bodyPost P fn R .ret (fr n f) w := Z0I hr (ZI h1) h
end
theorem ja {A : Sort _} {a b : A} (h : a = b := by simp only [List.length_append, List.flatMap_append] <;> rfl) : a = b := h
theorem Sat.ct {w0 w : World} {G : List Ck} {Y : Ck} (H : Sat w0 G w) (i : Nat) (hi : G[i]? = some Y) (X : Ck) (e : Y = X) : Sat w0 (G.set i X) w := by
 have h : G.set i X = G := by
  subst e
  refine List.ext_getElem? fun j => ?_
  rw [List.getElem?_set]
  split
  ·rename_i hj
   subst hj
   obtain ⟨h1, _⟩ := List.getElem?_eq_some_iff.1 hi
   rw [if_pos h1, hi]
  ·rfl
 rw [h]; exact H
theorem zs {ws : List Nat} {f F : Nat → Value} (h : Z50 ws f F := by repeat (first | exact ZP | exact Z0A | refine Z4 rfl ?_ | refine Z0w rfl ?_)) : Z50 ws f F := h
section
variable {w0 w w' : World} {G L : List Ck}
theorem Sat.pk (h : Sat w0 G w) (is : List Nat) (hn : is.Pairwise (fun a b => Nat.beq a b = false) := by decide) : Sat w0 (is.filterMap fun i => G[i]?) w := h.pick is hn
theorem Sat.fn (H : Sat w0 G w) (is : List Nat) (hn : is.Pairwise (fun a b => Nat.beq a b = false) := by decide) (hL : (is.filterMap fun i => G[i]?) = L := by rfl) : (ZF L).ok w := H.fin is hn hL
theorem Sat.tl (H : Sat w0 G w) (L' : List Ck) (is js : List Nat) (h : Sat w (L' ++ [Zb w (ZF L).fp]) w') (ps : List Nat) (hn : (is ++ js).Pairwise (fun a b => Nat.beq a b = false) := by decide) (hi : (is.filterMap fun i => G[i]?) = L := by kernel_rfl) (hp : ps.Pairwise (fun a b => Nat.beq a b = false) := by decide) : Sat w0 (ps.filterMap fun i => (L' ++ (js.filterMap fun i => G[i]?))[i]?) w' := (Sat.turnL (L' := L') H is js hn hi rfl h).pick ps hp
end
end Go.Proofs.YtgigjkjdmalmaaaGreat
