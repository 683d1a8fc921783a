/- WHAT IS PROVED: contracts and plain laws of Rg1s. Conditions: stated with each. -/
import Derived.Test.YtgigjkjdmalmaaaGreatPC11
import Derived.Test.YtgigjkjdmalmaaaGreatPC13
import Derived.Test.YtgigjkjdmalmaaaGreatPC20
set_option maxHeartbeats 4000000
set_option maxRecDepth 100000
namespace Go.Proofs.YtgigjkjdmalmaaaGreat
open Go.RowKit
theorem Z4F (w : World) (b mb : Nat) (L : List Z4) (hb : (Z3 b 108 [.map (some mb)]).ok w) (hm : MapAt w mb Zc (Value.int .i64) (Zk L)) (ta : Option Addr) (tc : Nat) (tx : List UInt8) (ht : ListAt Zo 1 w (.slice ta tx.length tc) tx) (p m : Int) :
  Calls Tryz.prog 76 #[(.pointer (some ⟨b, 0, none⟩)), (.agg ⟨([(.int .i64 (p)), (.int .i64 (m))] : List Value)⟩), (.slice ta tx.length tc)] w fun e w' => e = .returned (.bool (Z1S L p m tx)) ∧ Upd [] w w' := by
 have H := Sat.start0 w
 have hmk : (Z0f (Zk L) (⟨p, tx⟩ : Z4)).getD 0 = Z9 L (⟨p, tx⟩ : Z4) := by rw [Z2E]; rfl
 refine Zv Tryz.func76 rfl 26 rfl (Nat.le_of_ble_eq_true rfl) ?_
 refine Zh ?_
 refine Zs ?_
 refine ZQ (Z2 rfl) (fun K1 hK1 => ?_)
 refine Z0N (vs := ([(.int .i64 (p)), (.int .i64 (m))] : List Value)) rfl H rfl rfl ?_
 intro b2 w3 (H4 : Sat w [Za w (fun _ => False), Z3 b2 47 ([(.int .i64 (p)), (.int .i64 (m))] : List Value)] w3)
 refine hK1 _ _ ?_
 clear hK1 K1
 refine Z5 (Z2 rfl) (d := 6) (v := (.bool false)) rfl (by kernel_rfl) ?_
 refine Zr ?_
 refine Z7 ?_
 refine Zh ?_
 refine Z49 H4 (by kernel_rfl) (by kernel_rfl) ?_
 refine Z0C (Z2 rfl) (d := 8) (v := (.pointer (some ⟨b, 0, none⟩))) rfl (fun _ H' => (by kernel_rfl)) ?_
 refine Z0C (Z2 rfl) (d := 9) (v := (.pointer (some ⟨b, 0, none⟩))) rfl (fun _ H' => (by kernel_rfl)) ?_
 refine Z0C (Z2 rfl) (d := 10) (v := (.pointer (some ⟨b, 0, none⟩))) rfl (fun _ H' => (by kernel_rfl)) ?_
 refine Z0C (Z2 rfl) (d := 11) (v := (.map (some mb))) rfl (fun _ H' => (Zi rfl (by kernel_rfl) (H'.roCell 0 rfl hb (fun h => h) rfl))) ?_
 refine Z0C (Z2 rfl) (d := 12) (v := (.pointer (some ⟨b2, 0, none⟩))) rfl (fun _ H' => (by kernel_rfl)) ?_
 refine Z0C (Z2 rfl) (d := 13) (v := (.int .i64 (p))) rfl (fun _ H' => (Zi rfl (by kernel_rfl) (H'.cell 1 rfl rfl))) ?_
 refine Z0C (Z2 rfl) (d := 14) (v := (.slice ta tx.length tc)) rfl (fun _ H' => (by kernel_rfl)) ?_
 refine Z0C (Z2 rfl) (d := 15) (v := (ZX tx)) rfl (fun _ H' => (Z37 (e := 5) (s := tx) (by kernel_rfl) (by kernel_rfl) (by kernel_rfl) rfl (Z1y (ListAt.now H' 0 rfl ht)))) ?_
 refine Z0C (Z2 rfl) (d := 16) (v := (.agg ⟨([(.int .i64 (p)), (ZX tx)] : List Value)⟩)) rfl (fun _ H' => (by kernel_rfl)) ?_
 refine Z0C (Z2 rfl) (d := 17) (v := (.int .i64 ((Z0f (Zk L) (⟨p, tx⟩ : Z4)).getD 0))) rfl (fun _ H' => (Z2f (kt := 125) (et := 3) Z3i (by kernel_rfl) (fun w => by kernel_rfl) rfl (⟨p, tx⟩ : Z4) rfl (H'.roMap 0 rfl hm (fun h => h)) (Z8e (Value.int .i64) _ _))) ?_
 refine Z0C (Z2 rfl) (d := 7) (v := (.int .i64 ((Z0f (Zk L) (⟨p, tx⟩ : Z4)).getD 0))) rfl (fun _ H' => (by kernel_rfl)) ?_
 refine Z22 ?_
 intro w5 H6
 refine Z7 ?_
 refine Zh ?_
 refine Zs ?_
 refine Z5 (Z2 rfl) (d := 18) (v := (.int .i64 ((Z0f (Zk L) (⟨p, tx⟩ : Z4)).getD 0))) rfl (by kernel_rfl) ?_
 refine Z5 (Z2 rfl) (d := 19) (v := (.bool (decide (((Z0f (Zk L) (⟨p, tx⟩ : Z4)).getD 0) > 0)))) rfl (by kernel_rfl) ?_
 refine Z5 (Z2 rfl) (d := 20) (v := (.bool (decide (((Z0f (Zk L) (⟨p, tx⟩ : Z4)).getD 0) > 0)))) rfl (by kernel_rfl) ?_
 refine (Z00 (decide (((Z0f (Zk L) (⟨p, tx⟩ : Z4)).getD 0) > 0))).elim (fun b7 => ?_) (fun b7 => ?_)
 ·have g8 := of_decide_eq_true b7
  refine Z05 20 (.bool true) (congrArg Value.bool b7) ?_
  have g9 := of_decide_eq_true b7
  refine Z5 (Zw 2 20 true rfl (by kernel_rfl) rfl (by kernel_rfl)) (d := 21) (v := (.int .i64 ((Z0f (Zk L) (⟨p, tx⟩ : Z4)).getD 0))) rfl (by kernel_rfl) ?_
  refine Z5 (Zw 2 20 true rfl (by kernel_rfl) rfl (by kernel_rfl)) (d := 22) (v := (.pointer (some ⟨b2, 1, none⟩))) rfl (by kernel_rfl) ?_
  refine Z5 (Zw 2 20 true rfl (by kernel_rfl) rfl (by kernel_rfl)) (d := 23) (v := (.int .i64 (m))) rfl (Zi rfl (by kernel_rfl) (H6.cell 1 rfl rfl)) ?_
  refine Z5 (Zw 2 20 true rfl (by kernel_rfl) rfl (by kernel_rfl)) (d := 24) (v := (.bool (decide (((Z0f (Zk L) (⟨p, tx⟩ : Z4)).getD 0) = m)))) rfl (by kernel_rfl) ?_
  refine Z5 (Z2 rfl) (d := 25) (v := (.bool (decide (((Z0f (Zk L) (⟨p, tx⟩ : Z4)).getD 0) = m)))) rfl (by kernel_rfl) ?_
  refine Z5 (Z2 rfl) (d := 6) (v := (.bool (decide (((Z0f (Zk L) (⟨p, tx⟩ : Z4)).getD 0) = m)))) rfl (by kernel_rfl) ?_
  refine Zr ?_
  refine Z7 ?_
  refine ZU ?_
  refine Z0T rfl (ZK (v := (.bool (decide (((Z0f (Zk L) (⟨p, tx⟩ : Z4)).getD 0) = m)))) rfl) ?_
  exact ⟨by unfold Z1S; rw [← hmk]; simp [b7], H6.upd 0 rfl [] (fun _ h => h.elim)⟩
 ·have g10 := of_decide_eq_false b7
  refine Z05 20 (.bool false) (congrArg Value.bool b7) ?_
  have g11 := of_decide_eq_false b7
  refine ZI (Zx 2 20 true rfl (by kernel_rfl) rfl (by kernel_rfl)) rfl ?_
  refine ZI (Zx 2 20 true rfl (by kernel_rfl) rfl (by kernel_rfl)) rfl ?_
  refine ZI (Zx 2 20 true rfl (by kernel_rfl) rfl (by kernel_rfl)) rfl ?_
  refine ZI (Zx 2 20 true rfl (by kernel_rfl) rfl (by kernel_rfl)) rfl ?_
  refine Z5 (Z2 rfl) (d := 25) (v := (.bool false)) rfl (by kernel_rfl) ?_
  refine Z5 (Z2 rfl) (d := 6) (v := (.bool false)) rfl (by kernel_rfl) ?_
  refine Zr ?_
  refine Z7 ?_
  refine ZU ?_
  refine Z0T rfl (ZK (v := (.bool false)) rfl) ?_
  exact ⟨by unfold Z1S; rw [← hmk]; simp [b7], H6.upd 0 rfl [] (fun _ h => h.elim)⟩
theorem Z5d (w : World) (f cn : Int) (hf : -1099511627776 ≤ f ∧ f ≤ 1099511627776) (b mb : Nat) (L : List Z4) (hb : (Z3 b 108 [.map (some mb)]).ok w) (hm : MapAt w mb Zc (Value.int .i64) (Zk L)) (s : Zl) (hs : StOk s) :
  Calls Tryz.prog 57 #[(.agg ⟨([(.int .i64 (f)), (.int .i64 (cn))] : List Value)⟩), (.pointer (some ⟨b, 0, none⟩)), (.agg ⟨(([(.int .i64 (s.r)), (.int .i64 (s.cl)), (.int .i64 (s.seq))] : List Value) ++ hc s.h ++ ([(.int .u64 (s.t)), (.int .i64 (s.sb)), (.int .i64 (s.sm))] : List Value))⟩)] w fun e w' => e = .returned (.bool (Z0W f L s)) ∧ Upd [] w w' := by
 have H := Sat.start0 w
 have hs2 := hs
 unfold StOk at hs2
 refine Zv Tryz.func57 rfl 37 rfl (Nat.le_of_ble_eq_true rfl) ?_
 refine Zh ?_
 refine Zs ?_
 refine ZQ (Z2 rfl) (fun K1 hK1 => ?_)
 refine Z0N (vs := ([(.int .i64 (f)), (.int .i64 (cn))] : List Value)) rfl H rfl rfl ?_
 intro b2 w3 (H4 : Sat w [Za w (fun _ => False), Z3 b2 27 ([(.int .i64 (f)), (.int .i64 (cn))] : List Value)] w3)
 refine hK1 _ _ ?_
 clear hK1 K1
 refine ZQ (Z2 rfl) (fun K5 hK5 => ?_)
 refine Z0N (vs := (([(.int .i64 (s.r)), (.int .i64 (s.cl)), (.int .i64 (s.seq))] : List Value) ++ hc s.h ++ ([(.int .u64 (s.t)), (.int .i64 (s.sb)), (.int .i64 (s.sm))] : List Value))) rfl H4 rfl rfl ?_
 intro b6 w7 (H8 : Sat w [Za w (fun _ => False), Z3 b2 27 ([(.int .i64 (f)), (.int .i64 (cn))] : List Value), Z3 b6 49 (([(.int .i64 (s.r)), (.int .i64 (s.cl)), (.int .i64 (s.seq))] : List Value) ++ hc s.h ++ ([(.int .u64 (s.t)), (.int .i64 (s.sb)), (.int .i64 (s.sm))] : List Value))] w7)
 refine hK5 _ _ ?_
 clear hK5 K5
 refine Z5 (Z2 rfl) (d := 6) (v := (.bool false)) rfl (by kernel_rfl) ?_
 refine Zr ?_
 refine Z7 ?_
 refine Zh ?_
 refine Z0g H8 [Za w (fun _ => False), Z3 b2 27 ([(.int .i64 (f)), (.int .i64 (cn))] : List Value), Z3 b6 49 (([(.int .i64 (s.r)), (.int .i64 (s.cl)), (.int .i64 (s.seq))] : List Value) ++ hc s.h ++ ([(.int .u64 (s.t)), (.int .i64 (s.sb)), (.int .i64 (s.sm))] : List Value))] 31 rfl (by kernel_rfl) (fun Hx => (Hx.pick [0, 1, 2] (by decide))) ?_
 intro w9 H10 S11
 refine Zp 0 rfl (by kernel_rfl) (by kernel_rfl) (by kernel_rfl) (fun _ _ _ h => h) S11 (Z2 rfl) (d := 7) (v := (.agg ⟨([(.int .i64 (f)), (.int .i64 (cn))] : List Value)⟩)) rfl (fun _ H' => (ZE (vs := ([(.int .i64 (f)), (.int .i64 (cn))] : List Value)) rfl (by kernel_rfl) (by kernel_rfl) (by exact Nat.le_of_ble_eq_true (by kernel_rfl)) (H'.at 1 rfl) (by kernel_rfl))) ?_
 refine Zp 1 rfl (by kernel_rfl) (by kernel_rfl) (by kernel_rfl) (fun _ _ _ h => h) S11 (Z2 rfl) (d := 8) (v := (.pointer (some ⟨b6, 0, none⟩))) rfl (fun _ H' => (by kernel_rfl)) ?_
 refine Zp 2 rfl (by kernel_rfl) (by kernel_rfl) (by kernel_rfl) (fun _ _ _ h => h) S11 (Z2 rfl) (d := 9) (v := (.int .i64 (s.r))) rfl (fun _ H' => (Zi rfl (by kernel_rfl) (H'.cell 2 rfl (by kernel_rfl)))) ?_
 refine Z13 3 rfl (by kernel_rfl) (Z2 rfl) (fun K12 hK12 => ?_)
 refine ZJ (d := 10) rfl (by kernel_rfl) (Z6T w9 f cn s.r (by omega)) ?_
 rintro _ w13 ⟨rfl, u15⟩
 have H14 := H10.keepU u15
 refine ⟨_, rfl, ?_⟩
 have S16 := H14.pick [0, 1, 2] (by decide)
 refine hK12 _ _ S16 ?_
 clear hK12 K12
 refine Zp 4 rfl (by kernel_rfl) (by kernel_rfl) (by kernel_rfl) (fun _ _ _ h => h) S16 (Z2 rfl) (d := 11) (v := (.bool (inB f s.r))) rfl (fun _ H' => (by kernel_rfl)) ?_
 refine (Z00 (inB f s.r)).elim (fun b17 => ?_) (fun b17 => ?_)
 ·refine Z2O 11 (.bool true) (congrArg Value.bool b17) ?_
  refine Zp 5 rfl (by kernel_rfl) (by kernel_rfl) (by kernel_rfl) (fun _ _ _ h => h) S16 (Zw 4 11 true rfl (by kernel_rfl) rfl (by kernel_rfl)) (d := 12) (v := (.pointer (some ⟨b6, 35, none⟩))) rfl (fun _ H' => (by kernel_rfl)) ?_
  refine Zp 6 rfl (by kernel_rfl) (by kernel_rfl) (by kernel_rfl) (fun _ _ _ h => h) S16 (Zw 4 11 true rfl (by kernel_rfl) rfl (by kernel_rfl)) (d := 13) (v := (.int .u64 (s.t))) rfl (fun _ H' => (Zi rfl (by kernel_rfl) (H'.cell 2 rfl (by kernel_rfl)))) ?_
  refine Zp 7 rfl (by kernel_rfl) (by kernel_rfl) (by kernel_rfl) (fun _ _ _ h => h) S16 (Zw 4 11 true rfl (by kernel_rfl) rfl (by kernel_rfl)) (d := 14) (v := (.bool (decide (s.t ≥ 1)))) rfl (fun _ H' => (by kernel_rfl)) ?_
  refine Zp 8 rfl (by kernel_rfl) (by kernel_rfl) (by kernel_rfl) (fun _ _ _ h => h) S16 (Z2 rfl) (d := 15) (v := (.bool (decide (s.t ≥ 1)))) rfl (fun _ H' => (by kernel_rfl)) ?_
  refine Zp 9 rfl (by kernel_rfl) (by kernel_rfl) (by kernel_rfl) (fun _ _ _ h => h) S16 (Z2 rfl) (d := 16) (v := (.bool (decide (s.t ≥ 1)))) rfl (fun _ H' => (by kernel_rfl)) ?_
  refine (Z00 (decide (s.t ≥ 1))).elim (fun b18 => ?_) (fun b18 => ?_)
  ·have g19 := of_decide_eq_true b18
   refine Z2O 16 (.bool true) (congrArg Value.bool b18) ?_
   have g20 := of_decide_eq_true b18
   refine Zp 10 rfl (by kernel_rfl) (by kernel_rfl) (by kernel_rfl) (fun _ _ _ h => h) S16 (Zw 9 16 true rfl (by kernel_rfl) rfl (by kernel_rfl)) (d := 17) (v := (.pointer (some ⟨b6, 35, none⟩))) rfl (fun _ H' => (by kernel_rfl)) ?_
   refine Zp 11 rfl (by kernel_rfl) (by kernel_rfl) (by kernel_rfl) (fun _ _ _ h => h) S16 (Zw 9 16 true rfl (by kernel_rfl) rfl (by kernel_rfl)) (d := 18) (v := (.int .u64 (s.t))) rfl (fun _ H' => (Zi rfl (by kernel_rfl) (H'.cell 2 rfl (by kernel_rfl)))) ?_
   refine Zp 12 rfl (by kernel_rfl) (by kernel_rfl) (by kernel_rfl) (fun _ _ _ h => h) S16 (Zw 9 16 true rfl (by kernel_rfl) rfl (by kernel_rfl)) (d := 19) (v := (.bool (decide (s.t < 18446744073709551615)))) rfl (fun _ H' => (by kernel_rfl)) ?_
   refine Zp 13 rfl (by kernel_rfl) (by kernel_rfl) (by kernel_rfl) (fun _ _ _ h => h) S16 (Z2 rfl) (d := 20) (v := (.bool (decide (s.t < 18446744073709551615)))) rfl (fun _ H' => (by kernel_rfl)) ?_
   refine Zp 14 rfl (by kernel_rfl) (by kernel_rfl) (by kernel_rfl) (fun _ _ _ h => h) S16 (Z2 rfl) (d := 21) (v := (.bool (decide (s.t < 18446744073709551615)))) rfl (fun _ H' => (by kernel_rfl)) ?_
   refine (Z00 (decide (s.t < 18446744073709551615))).elim (fun b21 => ?_) (fun b21 => ?_)
   ·have g22 := of_decide_eq_true b21
    refine Z2O 21 (.bool true) (congrArg Value.bool b21) ?_
    have g23 := of_decide_eq_true b21
    refine Zp 15 rfl (by kernel_rfl) (by kernel_rfl) (by kernel_rfl) (fun _ _ _ h => h) S16 (Zw 14 21 true rfl (by kernel_rfl) rfl (by kernel_rfl)) (d := 22) (v := (.pointer (some ⟨b6, 36, none⟩))) rfl (fun _ H' => (by kernel_rfl)) ?_
    refine Zp 16 rfl (by kernel_rfl) (by kernel_rfl) (by kernel_rfl) (fun _ _ _ h => h) S16 (Zw 14 21 true rfl (by kernel_rfl) rfl (by kernel_rfl)) (d := 23) (v := (.pointer (some ⟨b6, 36, none⟩))) rfl (fun _ H' => (by kernel_rfl)) ?_
    refine Zp 17 rfl (by kernel_rfl) (by kernel_rfl) (by kernel_rfl) (fun _ _ _ h => h) S16 (Zw 14 21 true rfl (by kernel_rfl) rfl (by kernel_rfl)) (d := 24) (v := (.int .i64 (s.sb))) rfl (fun _ H' => (Zi rfl (by kernel_rfl) (H'.cell 2 rfl (by kernel_rfl)))) ?_
    refine Zp 18 rfl (by kernel_rfl) (by kernel_rfl) (by kernel_rfl) (fun _ _ _ h => h) S16 (Zw 14 21 true rfl (by kernel_rfl) rfl (by kernel_rfl)) (d := 25) (v := (.pointer (some ⟨b6, 0, none⟩))) rfl (fun _ H' => (by kernel_rfl)) ?_
    refine Zp 19 rfl (by kernel_rfl) (by kernel_rfl) (by kernel_rfl) (fun _ _ _ h => h) S16 (Zw 14 21 true rfl (by kernel_rfl) rfl (by kernel_rfl)) (d := 26) (v := (.int .i64 (s.r))) rfl (fun _ H' => (Zi rfl (by kernel_rfl) (H'.cell 2 rfl (by kernel_rfl)))) ?_
    refine Zp 20 rfl (by kernel_rfl) (by kernel_rfl) (by kernel_rfl) (fun _ _ _ h => h) S16 (Zw 14 21 true rfl (by kernel_rfl) rfl (by kernel_rfl)) (d := 27) (v := (.bool (decide (s.sb = s.r)))) rfl (fun _ H' => (by kernel_rfl)) ?_
    refine Zp 21 rfl (by kernel_rfl) (by kernel_rfl) (by kernel_rfl) (fun _ _ _ h => h) S16 (Z2 rfl) (d := 28) (v := (.bool (decide (s.sb = s.r)))) rfl (fun _ H' => (by kernel_rfl)) ?_
    refine Zp 22 rfl (by kernel_rfl) (by kernel_rfl) (by kernel_rfl) (fun _ _ _ h => h) S16 (Z2 rfl) (d := 29) (v := (.bool (decide (s.sb = s.r)))) rfl (fun _ H' => (by kernel_rfl)) ?_
    refine (Z00 (decide (s.sb = s.r))).elim (fun b24 => ?_) (fun b24 => ?_)
    ·have g25 := of_decide_eq_true b24
     refine Z2O 29 (.bool true) (congrArg Value.bool b24) ?_
     have g26 := of_decide_eq_true b24
     refine Zp 23 rfl (by kernel_rfl) (by kernel_rfl) (by kernel_rfl) (fun _ _ _ h => h) S16 (Zw 22 29 true rfl (by kernel_rfl) rfl (by kernel_rfl)) (d := 30) (v := (.pointer (some ⟨b, 0, none⟩))) rfl (fun _ H' => (by kernel_rfl)) ?_
     refine Zp 24 rfl (by kernel_rfl) (by kernel_rfl) (by kernel_rfl) (fun _ _ _ h => h) S16 (Zw 22 29 true rfl (by kernel_rfl) rfl (by kernel_rfl)) (d := 31) (v := (.pointer (some ⟨b6, 36, none⟩))) rfl (fun _ H' => (by kernel_rfl)) ?_
     refine Zp 25 rfl (by kernel_rfl) (by kernel_rfl) (by kernel_rfl) (fun _ _ _ h => h) S16 (Zw 22 29 true rfl (by kernel_rfl) rfl (by kernel_rfl)) (d := 32) (v := (.agg ⟨([(.int .i64 (s.sb)), (.int .i64 (s.sm))] : List Value)⟩)) rfl (fun _ H' => (ZE (vs := ([(.int .i64 (s.sb)), (.int .i64 (s.sm))] : List Value)) rfl (by kernel_rfl) (by kernel_rfl) (by exact Nat.le_of_ble_eq_true (by kernel_rfl)) (H'.at 2 rfl) (by kernel_rfl))) ?_
     refine Zp 26 rfl (by kernel_rfl) (by kernel_rfl) (by kernel_rfl) (fun _ _ _ h => h) S16 (Zw 22 29 true rfl (by kernel_rfl) rfl (by kernel_rfl)) (d := 33) (v := (.agg ⟨(([(.int .i64 (s.r)), (.int .i64 (s.cl)), (.int .i64 (s.seq))] : List Value) ++ hc s.h ++ ([(.int .u64 (s.t)), (.int .i64 (s.sb)), (.int .i64 (s.sm))] : List Value))⟩)) rfl (fun _ H' => (ZE (vs := (([(.int .i64 (s.r)), (.int .i64 (s.cl)), (.int .i64 (s.seq))] : List Value) ++ hc s.h ++ ([(.int .u64 (s.t)), (.int .i64 (s.sb)), (.int .i64 (s.sm))] : List Value))) rfl (by kernel_rfl) (by kernel_rfl) (by exact Nat.le_of_ble_eq_true (by kernel_rfl)) (H'.at 2 rfl) (by kernel_rfl))) ?_
     refine Z13 27 rfl (by kernel_rfl) (Zw 22 29 true rfl (by kernel_rfl) rfl (by kernel_rfl)) (fun K27 hK27 => ?_)
     refine ZJ (d := 34) rfl (by kernel_rfl) (Z3x w13 s hs) ?_
     rintro _ w28 ⟨u29, rfl, k30, p31, q32⟩
     have H33 : Sat w [Za w (fun _ => False), Z3 b2 27 ([(.int .i64 (f)), (.int .i64 (cn))] : List Value), Z3 b6 49 (([(.int .i64 (s.r)), (.int .i64 (s.cl)), (.int .i64 (s.seq))] : List Value) ++ hc s.h ++ ([(.int .u64 (s.t)), (.int .i64 (s.sb)), (.int .i64 (s.sm))] : List Value)), Ze 5 1 u29 ((Z08 s).length) ((Z08 s).flatMap Zo)] w28 := H14.addU p31 k30 q32
     obtain ⟨a34, c35, rfl⟩ := Zg (H33.at 3 rfl)
     refine ⟨_, rfl, ?_⟩
     have S36 := H33.pick [0, 1, 2] (by decide)
     refine hK27 _ _ S36 ?_
     clear hK27 K27
     refine Z13 28 rfl (by kernel_rfl) (Zw 22 29 true rfl (by kernel_rfl) rfl (by kernel_rfl)) (fun K37 hK37 => ?_)
     refine ZJ (d := 35) rfl (by kernel_rfl) (Z4F w28 b mb L (H33.roCk 0 rfl hb (fun _ _ h => h)) (H33.roMap 0 rfl hm (fun h => h)) a34 c35 (Z08 s) (ListAt.row (enc := Zo) (sz := 1) ZV (by decide) (H33.at 3 rfl)) s.sb s.sm) ?_
     rintro _ w38 ⟨rfl, u40⟩
     have H39 := H33.keepU u40
     refine ⟨_, rfl, ?_⟩
     have S41 := H39.pick [0, 1, 2] (by decide)
     refine hK37 _ _ S41 ?_
     clear hK37 K37
     refine Zp 29 rfl (by kernel_rfl) (by kernel_rfl) (by kernel_rfl) (fun _ _ _ h => h) S41 (Z2 rfl) (d := 36) (v := (.bool (Z1S L s.sb s.sm (Z08 s)))) rfl (fun _ H' => (by kernel_rfl)) ?_
     refine Zp 30 rfl (by kernel_rfl) (by kernel_rfl) (by kernel_rfl) (fun _ _ _ h => h) S41 (Z2 rfl) (d := 6) (v := (.bool (Z1S L s.sb s.sm (Z08 s)))) rfl (fun _ H' => (by kernel_rfl)) ?_
     refine Z0M (by kernel_rfl) ?_
     refine Z7 ?_
     refine ZU ?_
     refine Z0T rfl (ZK (v := (.bool (Z1S L s.sb s.sm (Z08 s)))) rfl) ?_
     exact ⟨by simp [Z0W, b17, b18, b21, b24], H39.upd 0 rfl [] (fun _ h => h.elim)⟩
    ·have g42 := of_decide_eq_false b24
     refine Z2O 29 (.bool false) (congrArg Value.bool b24) ?_
     have g43 := of_decide_eq_false b24
     refine Z06 23 rfl (by kernel_rfl) (by kernel_rfl) (by kernel_rfl) (fun _ _ _ h => h) S16 (Zx 22 29 true rfl (by kernel_rfl) rfl (by kernel_rfl)) rfl ?_
     refine Z06 24 rfl (by kernel_rfl) (by kernel_rfl) (by kernel_rfl) (fun _ _ _ h => h) S16 (Zx 22 29 true rfl (by kernel_rfl) rfl (by kernel_rfl)) rfl ?_
     refine Z06 25 rfl (by kernel_rfl) (by kernel_rfl) (by kernel_rfl) (fun _ _ _ h => h) S16 (Zx 22 29 true rfl (by kernel_rfl) rfl (by kernel_rfl)) rfl ?_
     refine Z06 26 rfl (by kernel_rfl) (by kernel_rfl) (by kernel_rfl) (fun _ _ _ h => h) S16 (Zx 22 29 true rfl (by kernel_rfl) rfl (by kernel_rfl)) rfl ?_
     refine Z06 27 rfl (by kernel_rfl) (by kernel_rfl) (by kernel_rfl) (fun _ _ _ h => h) S16 (Zx 22 29 true rfl (by kernel_rfl) rfl (by kernel_rfl)) rfl ?_
     refine Z06 28 rfl (by kernel_rfl) (by kernel_rfl) (by kernel_rfl) (fun _ _ _ h => h) S16 (Zx 22 29 true rfl (by kernel_rfl) rfl (by kernel_rfl)) rfl ?_
     refine Zp 29 rfl (by kernel_rfl) (by kernel_rfl) (by kernel_rfl) (fun _ _ _ h => h) S16 (Z2 rfl) (d := 36) (v := (.bool false)) rfl (fun _ H' => (by kernel_rfl)) ?_
     refine Zp 30 rfl (by kernel_rfl) (by kernel_rfl) (by kernel_rfl) (fun _ _ _ h => h) S16 (Z2 rfl) (d := 6) (v := (.bool false)) rfl (fun _ H' => (by kernel_rfl)) ?_
     refine Z0M (by kernel_rfl) ?_
     refine Z7 ?_
     refine ZU ?_
     refine Z0T rfl (ZK (v := (.bool false)) rfl) ?_
     exact ⟨by simp [Z0W, b17, b18, b21, b24], H14.upd 0 rfl [] (fun _ h => h.elim)⟩
   ·have g44 := of_decide_eq_false b21
    refine Z2O 21 (.bool false) (congrArg Value.bool b21) ?_
    have g45 := of_decide_eq_false b21
    refine Z06 15 rfl (by kernel_rfl) (by kernel_rfl) (by kernel_rfl) (fun _ _ _ h => h) S16 (Zx 14 21 true rfl (by kernel_rfl) rfl (by kernel_rfl)) rfl ?_
    refine Z06 16 rfl (by kernel_rfl) (by kernel_rfl) (by kernel_rfl) (fun _ _ _ h => h) S16 (Zx 14 21 true rfl (by kernel_rfl) rfl (by kernel_rfl)) rfl ?_
    refine Z06 17 rfl (by kernel_rfl) (by kernel_rfl) (by kernel_rfl) (fun _ _ _ h => h) S16 (Zx 14 21 true rfl (by kernel_rfl) rfl (by kernel_rfl)) rfl ?_
    refine Z06 18 rfl (by kernel_rfl) (by kernel_rfl) (by kernel_rfl) (fun _ _ _ h => h) S16 (Zx 14 21 true rfl (by kernel_rfl) rfl (by kernel_rfl)) rfl ?_
    refine Z06 19 rfl (by kernel_rfl) (by kernel_rfl) (by kernel_rfl) (fun _ _ _ h => h) S16 (Zx 14 21 true rfl (by kernel_rfl) rfl (by kernel_rfl)) rfl ?_
    refine Z06 20 rfl (by kernel_rfl) (by kernel_rfl) (by kernel_rfl) (fun _ _ _ h => h) S16 (Zx 14 21 true rfl (by kernel_rfl) rfl (by kernel_rfl)) rfl ?_
    refine Zp 21 rfl (by kernel_rfl) (by kernel_rfl) (by kernel_rfl) (fun _ _ _ h => h) S16 (Z2 rfl) (d := 28) (v := (.bool false)) rfl (fun _ H' => (by kernel_rfl)) ?_
    refine Zp 22 rfl (by kernel_rfl) (by kernel_rfl) (by kernel_rfl) (fun _ _ _ h => h) S16 (Z2 rfl) (d := 29) (v := (.bool false)) rfl (fun _ H' => (by kernel_rfl)) ?_
    refine Z06 23 rfl (by kernel_rfl) (by kernel_rfl) (by kernel_rfl) (fun _ _ _ h => h) S16 (Zx 22 29 true rfl (by kernel_rfl) rfl (by kernel_rfl)) rfl ?_
    refine Z06 24 rfl (by kernel_rfl) (by kernel_rfl) (by kernel_rfl) (fun _ _ _ h => h) S16 (Zx 22 29 true rfl (by kernel_rfl) rfl (by kernel_rfl)) rfl ?_
    refine Z06 25 rfl (by kernel_rfl) (by kernel_rfl) (by kernel_rfl) (fun _ _ _ h => h) S16 (Zx 22 29 true rfl (by kernel_rfl) rfl (by kernel_rfl)) rfl ?_
    refine Z06 26 rfl (by kernel_rfl) (by kernel_rfl) (by kernel_rfl) (fun _ _ _ h => h) S16 (Zx 22 29 true rfl (by kernel_rfl) rfl (by kernel_rfl)) rfl ?_
    refine Z06 27 rfl (by kernel_rfl) (by kernel_rfl) (by kernel_rfl) (fun _ _ _ h => h) S16 (Zx 22 29 true rfl (by kernel_rfl) rfl (by kernel_rfl)) rfl ?_
    refine Z06 28 rfl (by kernel_rfl) (by kernel_rfl) (by kernel_rfl) (fun _ _ _ h => h) S16 (Zx 22 29 true rfl (by kernel_rfl) rfl (by kernel_rfl)) rfl ?_
    refine Zp 29 rfl (by kernel_rfl) (by kernel_rfl) (by kernel_rfl) (fun _ _ _ h => h) S16 (Z2 rfl) (d := 36) (v := (.bool false)) rfl (fun _ H' => (by kernel_rfl)) ?_
    refine Zp 30 rfl (by kernel_rfl) (by kernel_rfl) (by kernel_rfl) (fun _ _ _ h => h) S16 (Z2 rfl) (d := 6) (v := (.bool false)) rfl (fun _ H' => (by kernel_rfl)) ?_
    refine Z0M (by kernel_rfl) ?_
    refine Z7 ?_
    refine ZU ?_
    refine Z0T rfl (ZK (v := (.bool false)) rfl) ?_
    exact ⟨by simp [Z0W, b17, b18, b21], H14.upd 0 rfl [] (fun _ h => h.elim)⟩
  ·have g46 := of_decide_eq_false b18
   refine Z2O 16 (.bool false) (congrArg Value.bool b18) ?_
   have g47 := of_decide_eq_false b18
   refine Z06 10 rfl (by kernel_rfl) (by kernel_rfl) (by kernel_rfl) (fun _ _ _ h => h) S16 (Zx 9 16 true rfl (by kernel_rfl) rfl (by kernel_rfl)) rfl ?_
   refine Z06 11 rfl (by kernel_rfl) (by kernel_rfl) (by kernel_rfl) (fun _ _ _ h => h) S16 (Zx 9 16 true rfl (by kernel_rfl) rfl (by kernel_rfl)) rfl ?_
   refine Z06 12 rfl (by kernel_rfl) (by kernel_rfl) (by kernel_rfl) (fun _ _ _ h => h) S16 (Zx 9 16 true rfl (by kernel_rfl) rfl (by kernel_rfl)) rfl ?_
   refine Zp 13 rfl (by kernel_rfl) (by kernel_rfl) (by kernel_rfl) (fun _ _ _ h => h) S16 (Z2 rfl) (d := 20) (v := (.bool false)) rfl (fun _ H' => (by kernel_rfl)) ?_
   refine Zp 14 rfl (by kernel_rfl) (by kernel_rfl) (by kernel_rfl) (fun _ _ _ h => h) S16 (Z2 rfl) (d := 21) (v := (.bool false)) rfl (fun _ H' => (by kernel_rfl)) ?_
   refine Z06 15 rfl (by kernel_rfl) (by kernel_rfl) (by kernel_rfl) (fun _ _ _ h => h) S16 (Zx 14 21 true rfl (by kernel_rfl) rfl (by kernel_rfl)) rfl ?_
   refine Z06 16 rfl (by kernel_rfl) (by kernel_rfl) (by kernel_rfl) (fun _ _ _ h => h) S16 (Zx 14 21 true rfl (by kernel_rfl) rfl (by kernel_rfl)) rfl ?_
   refine Z06 17 rfl (by kernel_rfl) (by kernel_rfl) (by kernel_rfl) (fun _ _ _ h => h) S16 (Zx 14 21 true rfl (by kernel_rfl) rfl (by kernel_rfl)) rfl ?_
   refine Z06 18 rfl (by kernel_rfl) (by kernel_rfl) (by kernel_rfl) (fun _ _ _ h => h) S16 (Zx 14 21 true rfl (by kernel_rfl) rfl (by kernel_rfl)) rfl ?_
   refine Z06 19 rfl (by kernel_rfl) (by kernel_rfl) (by kernel_rfl) (fun _ _ _ h => h) S16 (Zx 14 21 true rfl (by kernel_rfl) rfl (by kernel_rfl)) rfl ?_
   refine Z06 20 rfl (by kernel_rfl) (by kernel_rfl) (by kernel_rfl) (fun _ _ _ h => h) S16 (Zx 14 21 true rfl (by kernel_rfl) rfl (by kernel_rfl)) rfl ?_
   refine Zp 21 rfl (by kernel_rfl) (by kernel_rfl) (by kernel_rfl) (fun _ _ _ h => h) S16 (Z2 rfl) (d := 28) (v := (.bool false)) rfl (fun _ H' => (by kernel_rfl)) ?_
   refine Zp 22 rfl (by kernel_rfl) (by kernel_rfl) (by kernel_rfl) (fun _ _ _ h => h) S16 (Z2 rfl) (d := 29) (v := (.bool false)) rfl (fun _ H' => (by kernel_rfl)) ?_
   refine Z06 23 rfl (by kernel_rfl) (by kernel_rfl) (by kernel_rfl) (fun _ _ _ h => h) S16 (Zx 22 29 true rfl (by kernel_rfl) rfl (by kernel_rfl)) rfl ?_
   refine Z06 24 rfl (by kernel_rfl) (by kernel_rfl) (by kernel_rfl) (fun _ _ _ h => h) S16 (Zx 22 29 true rfl (by kernel_rfl) rfl (by kernel_rfl)) rfl ?_
   refine Z06 25 rfl (by kernel_rfl) (by kernel_rfl) (by kernel_rfl) (fun _ _ _ h => h) S16 (Zx 22 29 true rfl (by kernel_rfl) rfl (by kernel_rfl)) rfl ?_
   refine Z06 26 rfl (by kernel_rfl) (by kernel_rfl) (by kernel_rfl) (fun _ _ _ h => h) S16 (Zx 22 29 true rfl (by kernel_rfl) rfl (by kernel_rfl)) rfl ?_
   refine Z06 27 rfl (by kernel_rfl) (by kernel_rfl) (by kernel_rfl) (fun _ _ _ h => h) S16 (Zx 22 29 true rfl (by kernel_rfl) rfl (by kernel_rfl)) rfl ?_
   refine Z06 28 rfl (by kernel_rfl) (by kernel_rfl) (by kernel_rfl) (fun _ _ _ h => h) S16 (Zx 22 29 true rfl (by kernel_rfl) rfl (by kernel_rfl)) rfl ?_
   refine Zp 29 rfl (by kernel_rfl) (by kernel_rfl) (by kernel_rfl) (fun _ _ _ h => h) S16 (Z2 rfl) (d := 36) (v := (.bool false)) rfl (fun _ H' => (by kernel_rfl)) ?_
   refine Zp 30 rfl (by kernel_rfl) (by kernel_rfl) (by kernel_rfl) (fun _ _ _ h => h) S16 (Z2 rfl) (d := 6) (v := (.bool false)) rfl (fun _ H' => (by kernel_rfl)) ?_
   refine Z0M (by kernel_rfl) ?_
   refine Z7 ?_
   refine ZU ?_
   refine Z0T rfl (ZK (v := (.bool false)) rfl) ?_
   exact ⟨by simp [Z0W, b17, b18], H14.upd 0 rfl [] (fun _ h => h.elim)⟩
 ·refine Z2O 11 (.bool false) (congrArg Value.bool b17) ?_
  refine Z06 5 rfl (by kernel_rfl) (by kernel_rfl) (by kernel_rfl) (fun _ _ _ h => h) S16 (Zx 4 11 true rfl (by kernel_rfl) rfl (by kernel_rfl)) rfl ?_
  refine Z06 6 rfl (by kernel_rfl) (by kernel_rfl) (by kernel_rfl) (fun _ _ _ h => h) S16 (Zx 4 11 true rfl (by kernel_rfl) rfl (by kernel_rfl)) rfl ?_
  refine Z06 7 rfl (by kernel_rfl) (by kernel_rfl) (by kernel_rfl) (fun _ _ _ h => h) S16 (Zx 4 11 true rfl (by kernel_rfl) rfl (by kernel_rfl)) rfl ?_
  refine Zp 8 rfl (by kernel_rfl) (by kernel_rfl) (by kernel_rfl) (fun _ _ _ h => h) S16 (Z2 rfl) (d := 15) (v := (.bool false)) rfl (fun _ H' => (by kernel_rfl)) ?_
  refine Zp 9 rfl (by kernel_rfl) (by kernel_rfl) (by kernel_rfl) (fun _ _ _ h => h) S16 (Z2 rfl) (d := 16) (v := (.bool false)) rfl (fun _ H' => (by kernel_rfl)) ?_
  refine Z06 10 rfl (by kernel_rfl) (by kernel_rfl) (by kernel_rfl) (fun _ _ _ h => h) S16 (Zx 9 16 true rfl (by kernel_rfl) rfl (by kernel_rfl)) rfl ?_
  refine Z06 11 rfl (by kernel_rfl) (by kernel_rfl) (by kernel_rfl) (fun _ _ _ h => h) S16 (Zx 9 16 true rfl (by kernel_rfl) rfl (by kernel_rfl)) rfl ?_
  refine Z06 12 rfl (by kernel_rfl) (by kernel_rfl) (by kernel_rfl) (fun _ _ _ h => h) S16 (Zx 9 16 true rfl (by kernel_rfl) rfl (by kernel_rfl)) rfl ?_
  refine Zp 13 rfl (by kernel_rfl) (by kernel_rfl) (by kernel_rfl) (fun _ _ _ h => h) S16 (Z2 rfl) (d := 20) (v := (.bool false)) rfl (fun _ H' => (by kernel_rfl)) ?_
  refine Zp 14 rfl (by kernel_rfl) (by kernel_rfl) (by kernel_rfl) (fun _ _ _ h => h) S16 (Z2 rfl) (d := 21) (v := (.bool false)) rfl (fun _ H' => (by kernel_rfl)) ?_
  refine Z06 15 rfl (by kernel_rfl) (by kernel_rfl) (by kernel_rfl) (fun _ _ _ h => h) S16 (Zx 14 21 true rfl (by kernel_rfl) rfl (by kernel_rfl)) rfl ?_
  refine Z06 16 rfl (by kernel_rfl) (by kernel_rfl) (by kernel_rfl) (fun _ _ _ h => h) S16 (Zx 14 21 true rfl (by kernel_rfl) rfl (by kernel_rfl)) rfl ?_
  refine Z06 17 rfl (by kernel_rfl) (by kernel_rfl) (by kernel_rfl) (fun _ _ _ h => h) S16 (Zx 14 21 true rfl (by kernel_rfl) rfl (by kernel_rfl)) rfl ?_
  refine Z06 18 rfl (by kernel_rfl) (by kernel_rfl) (by kernel_rfl) (fun _ _ _ h => h) S16 (Zx 14 21 true rfl (by kernel_rfl) rfl (by kernel_rfl)) rfl ?_
  refine Z06 19 rfl (by kernel_rfl) (by kernel_rfl) (by kernel_rfl) (fun _ _ _ h => h) S16 (Zx 14 21 true rfl (by kernel_rfl) rfl (by kernel_rfl)) rfl ?_
  refine Z06 20 rfl (by kernel_rfl) (by kernel_rfl) (by kernel_rfl) (fun _ _ _ h => h) S16 (Zx 14 21 true rfl (by kernel_rfl) rfl (by kernel_rfl)) rfl ?_
  refine Zp 21 rfl (by kernel_rfl) (by kernel_rfl) (by kernel_rfl) (fun _ _ _ h => h) S16 (Z2 rfl) (d := 28) (v := (.bool false)) rfl (fun _ H' => (by kernel_rfl)) ?_
  refine Zp 22 rfl (by kernel_rfl) (by kernel_rfl) (by kernel_rfl) (fun _ _ _ h => h) S16 (Z2 rfl) (d := 29) (v := (.bool false)) rfl (fun _ H' => (by kernel_rfl)) ?_
  refine Z06 23 rfl (by kernel_rfl) (by kernel_rfl) (by kernel_rfl) (fun _ _ _ h => h) S16 (Zx 22 29 true rfl (by kernel_rfl) rfl (by kernel_rfl)) rfl ?_
  refine Z06 24 rfl (by kernel_rfl) (by kernel_rfl) (by kernel_rfl) (fun _ _ _ h => h) S16 (Zx 22 29 true rfl (by kernel_rfl) rfl (by kernel_rfl)) rfl ?_
  refine Z06 25 rfl (by kernel_rfl) (by kernel_rfl) (by kernel_rfl) (fun _ _ _ h => h) S16 (Zx 22 29 true rfl (by kernel_rfl) rfl (by kernel_rfl)) rfl ?_
  refine Z06 26 rfl (by kernel_rfl) (by kernel_rfl) (by kernel_rfl) (fun _ _ _ h => h) S16 (Zx 22 29 true rfl (by kernel_rfl) rfl (by kernel_rfl)) rfl ?_
  refine Z06 27 rfl (by kernel_rfl) (by kernel_rfl) (by kernel_rfl) (fun _ _ _ h => h) S16 (Zx 22 29 true rfl (by kernel_rfl) rfl (by kernel_rfl)) rfl ?_
  refine Z06 28 rfl (by kernel_rfl) (by kernel_rfl) (by kernel_rfl) (fun _ _ _ h => h) S16 (Zx 22 29 true rfl (by kernel_rfl) rfl (by kernel_rfl)) rfl ?_
  refine Zp 29 rfl (by kernel_rfl) (by kernel_rfl) (by kernel_rfl) (fun _ _ _ h => h) S16 (Z2 rfl) (d := 36) (v := (.bool false)) rfl (fun _ H' => (by kernel_rfl)) ?_
  refine Zp 30 rfl (by kernel_rfl) (by kernel_rfl) (by kernel_rfl) (fun _ _ _ h => h) S16 (Z2 rfl) (d := 6) (v := (.bool false)) rfl (fun _ H' => (by kernel_rfl)) ?_
  refine Z0M (by kernel_rfl) ?_
  refine Z7 ?_
  refine ZU ?_
  refine Z0T rfl (ZK (v := (.bool false)) rfl) ?_
  exact ⟨by simp [Z0W, b17], H14.upd 0 rfl [] (fun _ h => h.elim)⟩
end Go.Proofs.YtgigjkjdmalmaaaGreat
