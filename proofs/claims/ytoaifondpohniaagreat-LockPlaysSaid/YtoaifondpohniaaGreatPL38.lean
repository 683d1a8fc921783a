/- WHAT IS PROVED: contracts and plain laws of LtE, Maps, LtC, FullAp, LtR. Conditions: stated with each. -/
import Derived.WalkSpells
import Derived.MapKept
import Derived.ArgAppend
import Derived.Sort.Walk0
import Derived.Test.YtoaifondpohniaaGreatPL04
import Derived.Test.YtoaifondpohniaaGreatPL05
import Derived.Test.YtoaifondpohniaaGreatPL19
import Derived.Test.YtoaifondpohniaaGreatPL28
import Derived.Test.YtoaifondpohniaaGreatPL31
import Derived.Test.YtoaifondpohniaaGreatPL37
set_option maxHeartbeats 4000000
set_option maxRecDepth 100000
namespace Go.Proofs.YtoaifondpohniaaGreat
open Go.RowKit
abbrev Z1j : List Value := ([(.int .i64 (0)), (.int .i64 (0)), (.int .u64 (0)), (.slice none 0 0), (.int .i64 (0)), (.int .i64 (0))] : List Value)
theorem Z5d (w : World) (t b : Nat) (ep last til : Int) (hbad : ¬ (0 ≤ ep ∧ ep ≤ 1048576) ∨ til ≤ last ∨ til = 18446744073709551615) :
  Calls Tryz.prog 29 #[(.pointer (some ⟨t, 0, none⟩)), (.pointer (some ⟨b, 0, none⟩)), (.int .i64 (ep)), (.int .u64 (last)), (.int .u64 (til))] w fun e w' => e = .returned (.tuple #[.agg ⟨Z9u pr0⟩, .int .i64 (if 0 ≤ ep ∧ ep ≤ 1048576 then 4 else 1)]) ∧ Upd [] w w' := by
 have H := Sat.start0 w
 refine Zh Tryz.func29 rfl 74 rfl (Nat.le_of_ble_eq_true rfl) ?_
 apply zsl
 refine zwd fun Kq kq => ?_
 refine zda (Z1j) H ?_
 intro b2 w3 H4
 refine kq _ _ ?_
 clear kq Kq
 refine wv 11 (.int .i64 (0)) ?_
 apply znt
 apply Zd
 apply ZM
 apply zsl
 refine wv 17 (.int .i64 (ep)) ?_
 refine wv 18 (.bool (decide (ep < 0))) ?_
 refine wv 19 (.bool (decide (ep < 0))) ?_
 refine (Zr (decide (ep < 0))).elim (fun b5 => ?_) (fun b5 => ?_)
 ·have g6 := of_decide_eq_true b5
  refine ZJ 19 (.bool true) (congrArg Value.bool b5) ?_
  iterate 2 refine wn 2 19 false ?_
  refine wv 22 (.bool true) ?_
  refine wv 16 (.bool true) ?_
  apply znt
  refine Z0S rfl ?_
  apply zsl
  refine wv 23 (.agg ⟨(Z1j)⟩) ?_
  refine zwd fun Kq kq => ?_
  refine Z1F (Z1j) H4 1 ?_
  intro w9 H10
  refine kq _ _ ?_
  clear kq Kq
  refine wv 11 (.int .i64 (1)) ?_
  apply znt
  apply ZI
  apply Z0e
  apply ZG
  refine Z4r rfl (ZZ (vs := (Z1j)) rfl (by kernel_rfl) (by kernel_rfl) (by exact Nat.le_of_ble_eq_true (by kernel_rfl)) (H10.at 1 rfl) (by kernel_rfl)) (ZT (v := (.int .i64 (1))) rfl) ?_
  exact ⟨by rw [if_neg (by omega)]; rfl, H10.upd 0 rfl [] (fun _ h => h.elim)⟩
 have g12 := of_decide_eq_false b5
 refine ZJ 19 (.bool false) (congrArg Value.bool b5) ?_
 refine wy 2 19 false 20 (.int .i64 (ep)) ?_
 refine wy 2 19 false 21 (.bool (decide (ep > 1048576))) ?_
 refine wv 22 (.bool (decide (ep > 1048576))) ?_
 refine wv 16 (.bool (decide (ep > 1048576))) ?_
 apply znt
 refine (Zr (decide (ep > 1048576))).elim (fun b14 => ?_) (fun b14 => ?_)
 ·have g15 := of_decide_eq_true b14
  refine Z1V _ b14 ?_
  apply zsl
  refine wv 23 (.agg ⟨(Z1j)⟩) ?_
  refine zwd fun Kq kq => ?_
  refine Z1F (Z1j) H4 1 ?_
  intro w18 H19
  refine kq _ _ ?_
  clear kq Kq
  refine wv 11 (.int .i64 (1)) ?_
  apply znt
  apply ZI
  apply Z0e
  apply ZG
  refine Z4r rfl (ZZ (vs := (Z1j)) rfl (by kernel_rfl) (by kernel_rfl) (by exact Nat.le_of_ble_eq_true (by kernel_rfl)) (H19.at 1 rfl) (by kernel_rfl)) (ZT (v := (.int .i64 (1))) rfl) ?_
  exact ⟨by rw [if_neg (by omega)]; rfl, H19.upd 0 rfl [] (fun _ h => h.elim)⟩
 have g21 := of_decide_eq_false b14
 refine Z1w _ b14 ?_
 apply zsl
 refine wv 25 (.int .u64 (til)) ?_
 refine wv 26 (.int .u64 (last)) ?_
 refine wv 27 (.bool (decide (til ≤ last))) ?_
 refine wv 28 (.bool (decide (til ≤ last))) ?_
 refine (Zr (decide (til ≤ last))).elim (fun b23 => ?_) (fun b23 => ?_)
 ·have g24 := of_decide_eq_true b23
  refine ZJ 28 (.bool true) (congrArg Value.bool b23) ?_
  iterate 2 refine wn 3 28 false ?_
  refine wv 31 (.bool true) ?_
  refine wv 24 (.bool true) ?_
  apply znt
  refine Z0S rfl ?_
  apply zsl
  refine wv 32 (.agg ⟨(Z1j)⟩) ?_
  refine zwd fun Kq kq => ?_
  refine Z1F (Z1j) H4 1 ?_
  intro w27 H28
  refine kq _ _ ?_
  clear kq Kq
  refine wv 11 (.int .i64 (4)) ?_
  apply znt
  apply ZI
  apply Z0e
  apply ZG
  refine Z4r rfl (ZZ (vs := (Z1j)) rfl (by kernel_rfl) (by kernel_rfl) (by exact Nat.le_of_ble_eq_true (by kernel_rfl)) (H28.at 1 rfl) (by kernel_rfl)) (ZT (v := (.int .i64 (4))) rfl) ?_
  exact ⟨by rw [if_pos (by omega)]; rfl, H28.upd 0 rfl [] (fun _ h => h.elim)⟩
 have g30 := of_decide_eq_false b23
 refine ZJ 28 (.bool false) (congrArg Value.bool b23) ?_
 refine wy 3 28 false 29 (.int .u64 (til)) ?_
 refine wy 3 28 false 30 (.bool (decide (til = 18446744073709551615))) ?_
 refine wv 31 (.bool (decide (til = 18446744073709551615))) ?_
 refine wv 24 (.bool (decide (til = 18446744073709551615))) ?_
 apply znt
 have b32 : (decide (til = 18446744073709551615)) = true := by exact decide_eq_true (by omega)
 have g33 := of_decide_eq_true b32
 refine Z1V _ b32 ?_
 apply zsl
 refine wv 32 (.agg ⟨(Z1j)⟩) ?_
 refine zwd fun Kq kq => ?_
 refine Z1F (Z1j) H4 1 ?_
 intro w35 H36
 refine kq _ _ ?_
 clear kq Kq
 refine wv 11 (.int .i64 (4)) ?_
 apply znt
 apply ZI
 apply Z0e
 apply ZG
 refine Z4r rfl (ZZ (vs := (Z1j)) rfl (by kernel_rfl) (by kernel_rfl) (by exact Nat.le_of_ble_eq_true (by kernel_rfl)) (H36.at 1 rfl) (by kernel_rfl)) (ZT (v := (.int .i64 (4))) rfl) ?_
 exact ⟨by rw [if_pos (by omega)]; rfl, H36.upd 0 rfl [] (fun _ h => h.elim)⟩
theorem Z5Q (w : World) (t b : Nat) (ep last til : Int) (hbad : ¬ (0 ≤ ep ∧ ep ≤ 1048576) ∨ til ≤ last ∨ til = 18446744073709551615) :
  Calls Tryz.prog 14 #[(.pointer (some ⟨t, 0, none⟩)), (.pointer (some ⟨b, 0, none⟩)), (.int .i64 (ep)), (.int .u64 (last)), (.int .u64 (til))] w fun e w' => e = .returned (.tuple #[.agg ⟨Z9u pr0⟩, .int .i64 (if 0 ≤ ep ∧ ep ≤ 1048576 then 4 else 1)]) ∧ Upd [] w w' := by
 have H := Sat.start0 w
 refine Zh Tryz.func14 rfl 84 rfl (Nat.le_of_ble_eq_true rfl) ?_
 apply zsl
 refine zwd fun Kq kq => ?_
 refine zda (Z1j) H ?_
 intro b2 w3 H4
 refine kq _ _ ?_
 clear kq Kq
 refine wv 11 (.int .i64 (0)) ?_
 apply znt
 apply Zd
 apply zsl
 refine wv 15 (.int .i64 (ep)) ?_
 refine wv 16 (.bool (decide (ep < 0))) ?_
 refine wv 17 (.bool (decide (ep < 0))) ?_
 refine (Zr (decide (ep < 0))).elim (fun b5 => ?_) (fun b5 => ?_)
 ·have g6 := of_decide_eq_true b5
  refine ZJ 17 (.bool true) (congrArg Value.bool b5) ?_
  iterate 2 refine wn 2 17 false ?_
  refine wv 20 (.bool true) ?_
  apply znt
  refine Z0S rfl ?_
  apply zsl
  refine wv 21 (.agg ⟨(Z1j)⟩) ?_
  refine zwd fun Kq kq => ?_
  refine Z1F (Z1j) H4 1 ?_
  intro w9 H10
  refine kq _ _ ?_
  clear kq Kq
  refine wv 11 (.int .i64 (1)) ?_
  apply znt
  apply ZI
  apply ZG
  refine Z4r rfl (ZZ (vs := (Z1j)) rfl (by kernel_rfl) (by kernel_rfl) (by exact Nat.le_of_ble_eq_true (by kernel_rfl)) (H10.at 1 rfl) (by kernel_rfl)) (ZT (v := (.int .i64 (1))) rfl) ?_
  exact ⟨by rw [if_neg (by omega)]; rfl, H10.upd 0 rfl [] (fun _ h => h.elim)⟩
 have g12 := of_decide_eq_false b5
 refine ZJ 17 (.bool false) (congrArg Value.bool b5) ?_
 refine wy 2 17 false 18 (.int .i64 (ep)) ?_
 refine wy 2 17 false 19 (.bool (decide (ep > 1048576))) ?_
 refine wv 20 (.bool (decide (ep > 1048576))) ?_
 apply znt
 refine (Zr (decide (ep > 1048576))).elim (fun b14 => ?_) (fun b14 => ?_)
 ·have g15 := of_decide_eq_true b14
  refine Z1V _ b14 ?_
  apply zsl
  refine wv 21 (.agg ⟨(Z1j)⟩) ?_
  refine zwd fun Kq kq => ?_
  refine Z1F (Z1j) H4 1 ?_
  intro w18 H19
  refine kq _ _ ?_
  clear kq Kq
  refine wv 11 (.int .i64 (1)) ?_
  apply znt
  apply ZI
  apply ZG
  refine Z4r rfl (ZZ (vs := (Z1j)) rfl (by kernel_rfl) (by kernel_rfl) (by exact Nat.le_of_ble_eq_true (by kernel_rfl)) (H19.at 1 rfl) (by kernel_rfl)) (ZT (v := (.int .i64 (1))) rfl) ?_
  exact ⟨by rw [if_neg (by omega)]; rfl, H19.upd 0 rfl [] (fun _ h => h.elim)⟩
 have g21 := of_decide_eq_false b14
 refine Z1w _ b14 ?_
 apply ZW
 apply ztn
 apply Zd
 apply zsl
 refine wv 22 (.int .u64 (til)) ?_
 refine wv 23 (.int .u64 (last)) ?_
 refine wv 24 (.bool (decide (til ≤ last))) ?_
 refine wv 25 (.bool (decide (til ≤ last))) ?_
 refine (Zr (decide (til ≤ last))).elim (fun b23 => ?_) (fun b23 => ?_)
 ·have g24 := of_decide_eq_true b23
  refine ZJ 25 (.bool true) (congrArg Value.bool b23) ?_
  iterate 2 refine wn 3 25 false ?_
  refine wv 28 (.bool true) ?_
  apply znt
  refine Z0S rfl ?_
  apply zsl
  refine wv 29 (.agg ⟨(Z1j)⟩) ?_
  refine zwd fun Kq kq => ?_
  refine Z1F (Z1j) H4 1 ?_
  intro w27 H28
  refine kq _ _ ?_
  clear kq Kq
  refine wv 11 (.int .i64 (4)) ?_
  apply znt
  apply ZI
  apply ZG
  refine Z4r rfl (ZZ (vs := (Z1j)) rfl (by kernel_rfl) (by kernel_rfl) (by exact Nat.le_of_ble_eq_true (by kernel_rfl)) (H28.at 1 rfl) (by kernel_rfl)) (ZT (v := (.int .i64 (4))) rfl) ?_
  exact ⟨by rw [if_pos (by omega)]; rfl, H28.upd 0 rfl [] (fun _ h => h.elim)⟩
 have g30 := of_decide_eq_false b23
 refine ZJ 25 (.bool false) (congrArg Value.bool b23) ?_
 refine wy 3 25 false 26 (.int .u64 (til)) ?_
 refine wy 3 25 false 27 (.bool (decide (til = 18446744073709551615))) ?_
 refine wv 28 (.bool (decide (til = 18446744073709551615))) ?_
 apply znt
 have b32 : (decide (til = 18446744073709551615)) = true := by exact decide_eq_true (by omega)
 have g33 := of_decide_eq_true b32
 refine Z1V _ b32 ?_
 apply zsl
 refine wv 29 (.agg ⟨(Z1j)⟩) ?_
 refine zwd fun Kq kq => ?_
 refine Z1F (Z1j) H4 1 ?_
 intro w35 H36
 refine kq _ _ ?_
 clear kq Kq
 refine wv 11 (.int .i64 (4)) ?_
 apply znt
 apply ZI
 apply ZG
 refine Z4r rfl (ZZ (vs := (Z1j)) rfl (by kernel_rfl) (by kernel_rfl) (by exact Nat.le_of_ble_eq_true (by kernel_rfl)) (H36.at 1 rfl) (by kernel_rfl)) (ZT (v := (.int .i64 (4))) rfl) ?_
 exact ⟨by rw [if_pos (by omega)]; rfl, H36.upd 0 rfl [] (fun _ h => h.elim)⟩
section
variable {P : Program} (w : World)
theorem Z4E (t xT k e : TypeId) (v : Value) (h : P.underlying t = some (.map k e)) : (Instr.typeAssert (.iface t v) xT t false).run P w = .ok v w := by
 simp [Instr.typeAssert, run_underlying h, go_sem, Result.andThen]
theorem Z6f {r : Nat} {es : Array MapEntry} {clock : Nat} (t : TypeId) (hb : w.heap[r]? = some (.map es clock)) :
  (Extern.MapsClone.clone #[.iface t (.map (some r))]).run P w = .ok (.iface t (.map (some w.heap.size))) (w.alloc (.map es clock)) := by
 have e : Extern.MapsClone.clone #[.iface t (.map (some r))] = (getObj r >>= fun o => match o with
   | .map entries clock => (newObj (.map entries clock) >>= fun n => pure (.iface t (.map (some n))))
   | _ => stuck "maps.clone: a map expected") := rfl
 rw [e]
 simp [MapKept.run_getObj_map hb, Result.andThen, go_sem]
end
theorem Zct (b : Nat) (es : Array MapEntry) (clock : Nat) (w : World) (hb : w.heap[b]? = some (.map es clock)) :
  Calls Tryz.prog 71 #[.map (some b)] w fun e w' => e = .returned (.map (some w.heap.size)) ∧ w' = w.alloc (.map es clock) := by
 have hq := fun w => run_eql_map_nil (P := Tryz.prog) w 119 24 53 (some b) Tryz.underlying119
 go_enter Tryz.func71, Tryz.ntmps71
 go_wp2
 rw [run_callFunc_extern Tryz.func102 (by kernel_rfl) (by kernel_rfl) (by kernel_rfl) (e := Extern.MapsClone.clone) (by kernel_rfl), Z6f w 119 hb]
 simp only [Result.andThen]
 rw [Oper.upon_value]
 go_wp2
 rw [Z4E _ 119 20 _ _ _ Tryz.underlying119]
 simp only [Result.andThen]
 rw [Oper.upon_value]
 go_wp2
 go_ret
 exact ⟨rfl, rfl⟩
theorem Zcs {κ ν : Type} {encK : κ → Value} {encV : ν → Value} {l : List (κ × ν)} (b : Nat) (w : World) (hm : MapAt w b encK encV l) :
  Calls Tryz.prog 71 #[.map (some b)] w fun e w' => ∃ c, e = .returned (.map (some c)) ∧ MapAt w' c encK encV l ∧ Upd [] w w' ∧ w.heap.size ≤ c := by
 obtain ⟨es, clock, hb, h1, h2⟩ := hm
 refine (Zct b es clock w hb).mono ?_
 rintro e w' ⟨rfl, rfl⟩
 exact ⟨w.heap.size, rfl, ⟨es, clock, Z0U w _, h1, h2⟩, (Upd.refl _ _).alloc _, Nat.le_refl _⟩
theorem Z8m (w : World) (t tm : Nat) (F Cn rp : Int) (M : List (NmD × CeR)) (ht : (Z0 t 121 [.int .i64 F, .int .i64 Cn, .int .i64 rp, .map (some tm)]).ok w) (htm : MapAt w tm nmV ceV M) :
  Calls Tryz.prog 34 #[(.pointer (some ⟨t, 0, none⟩))] w fun e w' => ∃ t2 tm2, e = .returned (.pointer (some ⟨t2, 0, none⟩)) ∧ (ZL [Z0 t2 121 [.int .i64 F, .int .i64 Cn, .int .i64 rp, .map (some tm2)], ZQ tm2 nmV ceV M]).ok w' ∧ Upd [] w w' ∧ ∀ b, (ZL [Z0 t2 121 [.int .i64 F, .int .i64 Cn, .int .i64 rp, .map (some tm2)], ZQ tm2 nmV ceV M]).fp b → w.heap.size ≤ b := by
 have H := Sat.start0 w
 refine Zh Tryz.func34 rfl 18 rfl (Nat.le_of_ble_eq_true rfl) ?_
 refine Zd ?_
 refine Zq ?_
 refine Z2 (Z1 rfl) (d := 2) (v := (.pointer none)) rfl (by kernel_rfl) ?_
 refine Zn ?_
 refine Z4 ?_
 refine Zd ?_
 refine Z08 H [Z7 w (fun _ => False)] 16 rfl (by kernel_rfl) (fun Hx => (Hx.pick [0] (by decide))) ?_
 intro w1 H2 S3
 refine Z09 0 rfl (by kernel_rfl) (by kernel_rfl) (by kernel_rfl) (fun _ _ _ h => h) S3 (Z1 rfl) (d := 3) (v := (.pointer (some ⟨t, 0, none⟩))) rfl (fun _ H' => (by kernel_rfl)) ?_
 refine Z09 1 rfl (by kernel_rfl) (by kernel_rfl) (by kernel_rfl) (fun _ _ _ h => h) S3 (Z1 rfl) (d := 4) (v := (.pointer (some ⟨t, 0, none⟩))) rfl (fun _ H' => (by kernel_rfl)) ?_
 refine Z09 2 rfl (by kernel_rfl) (by kernel_rfl) (by kernel_rfl) (fun _ _ _ h => h) S3 (Z1 rfl) (d := 5) (v := (.pointer (some ⟨t, 0, none⟩))) rfl (fun _ H' => (by kernel_rfl)) ?_
 refine Z09 3 rfl (by kernel_rfl) (by kernel_rfl) (by kernel_rfl) (fun _ _ _ h => h) S3 (Z1 rfl) (d := 6) (v := (.agg ⟨([(.int .i64 (F)), (.int .i64 (Cn))] : List Value)⟩)) rfl (fun _ H' => (Zi (vs := ([(.int .i64 (F)), (.int .i64 (Cn))] : List Value)) rfl (by kernel_rfl) (by kernel_rfl) (by exact Nat.le_of_ble_eq_true (by kernel_rfl)) (H'.roCells 0 rfl ht (fun h => h)) (by kernel_rfl))) ?_
 refine Z09 4 rfl (by kernel_rfl) (by kernel_rfl) (by kernel_rfl) (fun _ _ _ h => h) S3 (Z1 rfl) (d := 7) (v := (.pointer (some ⟨t, 0, none⟩))) rfl (fun _ H' => (by kernel_rfl)) ?_
 refine Z09 5 rfl (by kernel_rfl) (by kernel_rfl) (by kernel_rfl) (fun _ _ _ h => h) S3 (Z1 rfl) (d := 8) (v := (.pointer (some ⟨t, 0, none⟩))) rfl (fun _ H' => (by kernel_rfl)) ?_
 refine Z09 6 rfl (by kernel_rfl) (by kernel_rfl) (by kernel_rfl) (fun _ _ _ h => h) S3 (Z1 rfl) (d := 9) (v := (.pointer (some ⟨t, 2, none⟩))) rfl (fun _ H' => (by kernel_rfl)) ?_
 refine Z09 7 rfl (by kernel_rfl) (by kernel_rfl) (by kernel_rfl) (fun _ _ _ h => h) S3 (Z1 rfl) (d := 10) (v := (.int .i64 (rp))) rfl (fun _ H' => (Z8 rfl (by kernel_rfl) (H'.roCell 0 rfl ht (fun h => h) rfl))) ?_
 refine Z09 8 rfl (by kernel_rfl) (by kernel_rfl) (by kernel_rfl) (fun _ _ _ h => h) S3 (Z1 rfl) (d := 11) (v := (.pointer (some ⟨t, 0, none⟩))) rfl (fun _ H' => (by kernel_rfl)) ?_
 refine Z09 9 rfl (by kernel_rfl) (by kernel_rfl) (by kernel_rfl) (fun _ _ _ h => h) S3 (Z1 rfl) (d := 12) (v := (.pointer (some ⟨t, 0, none⟩))) rfl (fun _ H' => (by kernel_rfl)) ?_
 refine Z09 10 rfl (by kernel_rfl) (by kernel_rfl) (by kernel_rfl) (fun _ _ _ h => h) S3 (Z1 rfl) (d := 13) (v := (.pointer (some ⟨t, 3, none⟩))) rfl (fun _ H' => (by kernel_rfl)) ?_
 refine Z09 11 rfl (by kernel_rfl) (by kernel_rfl) (by kernel_rfl) (fun _ _ _ h => h) S3 (Z1 rfl) (d := 14) (v := (.map (some tm))) rfl (fun _ H' => (Z8 rfl (by kernel_rfl) (H'.roCell 0 rfl ht (fun h => h) rfl))) ?_
 refine Z2R 12 rfl (by kernel_rfl) (Z1 rfl) (fun K4 hK4 => ?_)
 refine Z0g (d := 15) rfl (by kernel_rfl) (Zcs tm w1 (H2.roMap 0 rfl htm (fun h => h))) ?_
 rintro _ w6 ⟨c5, rfl, k8, u9, f10⟩
 have H7 : Sat w [Z7 w (fun _ => False), ZQ c5 nmV ceV M] w6 := H2.addU u9 k8 (fun b hb => Nat.le_trans f10 (Nat.le_of_eq hb.symm))
 refine ⟨_, rfl, ?_⟩
 have S11 := H7.pick [0] (by decide)
 refine hK4 _ _ S11 ?_
 clear hK4 K4
 refine Z09 13 rfl (by kernel_rfl) (by kernel_rfl) (by kernel_rfl) (fun _ _ _ h => h) S11 (Z1 rfl) (d := 16) (v := (.agg ⟨([(.int .i64 (F)), (.int .i64 (Cn)), (.int .i64 (rp)), (.map (some c5))] : List Value)⟩)) rfl (fun _ H' => (by kernel_rfl)) ?_
 refine Z2R 14 rfl (by kernel_rfl) (Z1 rfl) (fun K12 hK12 => ?_)
 refine Z34 (vs := ([(.int .i64 (F)), (.int .i64 (Cn)), (.int .i64 (rp)), (.map (some c5))] : List Value)) rfl H7 rfl rfl ?_
 intro b13 w14 (H15 : Sat w [Z7 w (fun _ => False), ZQ c5 nmV ceV M, Z0 b13 121 ([(.int .i64 (F)), (.int .i64 (Cn)), (.int .i64 (rp)), (.map (some c5))] : List Value)] w14)
 have S16 := H15.pick [0] (by decide)
 refine hK12 _ _ S16 ?_
 clear hK12 K12
 refine Z09 15 rfl (by kernel_rfl) (by kernel_rfl) (by kernel_rfl) (fun _ _ _ h => h) S16 (Z1 rfl) (d := 2) (v := (.pointer (some ⟨b13, 0, none⟩))) rfl (fun _ H' => (by kernel_rfl)) ?_
 refine Z4t (by kernel_rfl) ?_
 refine Z4 ?_
 refine ZI ?_
 refine Z2e rfl (ZT (v := (.pointer (some ⟨b13, 0, none⟩))) rfl) ?_
 exact ⟨b13, c5, rfl, H15.fin [2, 1] (by decide) rfl, H15.upd 0 rfl [] (fun _ h => h.elim), H15.freshS 0 rfl (fun _ h => h) [2, 1] rfl rfl⟩
section
variable {α : Type} {enc : α → List Value} {sz : Nat} {w : World} {xs : List α}
theorem Zcr {w : World} {e size n base : Nat} {v : Value} {xs : List Value} (h : w.ownsRow base e size v n xs) : (Zk e size v n xs).ok w ∧ ∀ b, v.ownBlock = some b → base ≤ b := by
 refine ⟨⟨h.1, ?_⟩, fun b hb => ?_⟩
 ·rcases h.2 with hn | ⟨g, cap, cur, hv, hb, rest⟩
  ·exact .inl hn
  ·exact .inr ⟨g, cap, cur, hv, Nat.zero_le _, rest⟩
 ·rcases h.2 with ⟨rfl, _⟩ | ⟨g, cap, cur, rfl, hg, _⟩
  ·simp [Value.ownBlock] at hb
  ·simp [Value.ownBlock] at hb; omega
theorem ListAt.take3 {a : Option Addr} {n c k : Nat} (h : ListAt enc sz w (.slice a n c) xs) (hk : k ≤ n) (_h0 : 0 < sz) (_hs : ∀ x, (enc x).length = sz) : ListAt enc sz w (.slice a k k) (xs.take k) := by
 have hc := ListAt.cap h
 rcases h with ⟨a', c', e, rfl, hc, ha⟩ | ⟨hp, b, o, c', e, ⟨h1, h2⟩, h⟩
 ·simp only [Value.slice.injEq] at e
  obtain ⟨rfl, rfl, rfl⟩ := e
  obtain rfl : k = 0 := by omega
  exact .inl ⟨_, _, rfl, by simp, by omega, fun _ => rfl⟩
 ·simp only [Value.slice.injEq] at e
  obtain ⟨rfl, rfl, rfl⟩ := e
  have hl : (xs.take k).length = k := by rw [List.length_take]; omega
  by_cases hz : k = 0
  ·subst hz; exact .inl ⟨_, _, rfl, by simp, by omega, fun _ => rfl⟩
  ·refine .inr ⟨by omega, b, o, _, by rw [hl], ⟨by omega, by omega⟩, fun i hi => ?_⟩
   rw [List.getElem_take]
   exact h i (by rw [hl] at hi; omega)
end
section
variable {P : Program} {n : Nat} {f : Nat → Value} {w w' : World} {dst : Option Tmp} {ty : TypeId} {pos : String} {aft : Array Edge} {gd : Option (Nat × Bool)} {w0 : World} {G : List Ck} {K : Act → World → Prop} {Q : Exit → Act → World → Prop}
theorem Zbr {T E : TypeId} {x y z : Operand} {a : Option Addr} {len cap : Nat} {k k' : IntKind} {i j : Int} {q : Nat} (hT : P.underlying T = some (.slice E)) (hE : (P.info? E).isSome = true) (hx : ev n f x = .slice a len cap) (hy : ev n f y = .int k i) (hz : ev n f z = .int k' j) (h1 : i = (q : Int)) (h2 : j = (q : Int)) (h3 : q ≤ cap) :
  (execOp (ev n f) ⟨dst, .slice T x none (some y) (some z), ty, pos, aft, gd⟩).run P w = .ok (.value (.slice a q q)) w := by
 obtain ⟨inf, hi⟩ := Option.isSome_iff_exists.1 hE
 subst h1 h2
 have e0 : a.map (·.add (0 * inf.size)) = a := by cases a <;> simp [Addr.add]
 have : (Instr.slice T (.slice a len cap) none (some (.int k (q : Int))) (some (.int k' (q : Int)))).run P w = .ok (.slice a q q) w := by
  simp [Instr.slice, run_underlying hT, Instr.sliceBounds, Instr.sliceBound, asIntOf, h3, Result.andThen, sizeOf, typeInfo, hi]
  intro _
  cases a <;> simp [Addr.add]
 simp only [execOp, Instr.sliceAt, Option.map, hx, hy, hz]
 simp [run_underlying hT, this, Result.andThen]
theorem Z88 {α : Type} {enc : α → List Value} {T e : TypeId} {size bytes : Nat} (hR : Z4V P T e size bytes = true) (hs : ∀ x, (enc x).length = size) (h1 : ∀ x, (enc x).all (·.oneCell') = true) {a : Option Addr} {u : Value} {k : Nat} {xs ys : List α} (hv : ListAt enc size w (.slice a k k) xs) (hk : xs.length = k) (hu : ListAt enc size w u ys) (hp : 0 < ys.length) (hb : (k + ys.length) * bytes ≤ 140737488355328) (h63 : k + ys.length ≤ 140737488355328) :
  ∃ v' w', (Builtin.append_ #[T, T] ty #[.slice a k k, u]).run P w = .ok v' w' ∧ (Zk e size v' (k + ys.length) ((xs ++ ys).flatMap enc)).ok w' ∧ w.grownBy w' none ∧ ∀ b, v'.ownBlock = some b → w.heap.size ≤ b := by
 obtain ⟨i, z, ht, hi, hz, hsz, hby, hzs, h0⟩ := Z3Z hR
 obtain ⟨b2, o2, c2, rfl, hc2⟩ := hu.cells hs h0 hp
 have grow := fun (ad : Addr) (olds : List Value) (hlo : olds.length = k * size) (holds : ∀ j u, olds[j]? = some u → w.cell? (ad.add j) = some u) =>
  run_append_arg_grows (P := P) w T ty e i z size bytes ht hi hz hsz hby hzs h0 ad k k olds hlo holds ⟨b2, o2, none⟩ ys.length c2 (ys.flatMap enc) (Z1K enc size hs ys) hc2 (by omega) (by unfold maxLen; omega) hb
 have fin : ∀ (ad : Addr), a = some ad → (∀ j u, (xs.flatMap enc)[j]? = some u → w.cell? (ad.add j) = some u) → _ := fun ad ha holds => grow ad (xs.flatMap enc) (by rw [Z1K enc size hs, hk]) holds
 have done : ∀ v' w', w'.ownsRow w.heap.size e size v' (k + ys.length) (xs.flatMap enc ++ ys.flatMap enc) → (Zk e size v' (k + ys.length) ((xs ++ ys).flatMap enc)).ok w' ∧ ∀ b, v'.ownBlock = some b → w.heap.size ≤ b := fun v' w' h => by
  rw [← List.flatMap_append] at h
  exact Zcr h
 cases a with
 | some ad =>
  by_cases hz0 : 0 < xs.length
  ·obtain ⟨b, o, c, he, hc⟩ := hv.cells hs h0 hz0
   simp only [Value.slice.injEq, Option.some.injEq] at he
   obtain ⟨rfl, _, _⟩ := he
   obtain ⟨v', w', hr, ho, hg⟩ := fin _ rfl hc
   exact ⟨v', w', hr, (done v' w' ho).1, hg, (done v' w' ho).2⟩
  ·obtain rfl : xs = [] := List.eq_nil_of_length_eq_zero (by omega)
   obtain ⟨v', w', hr, ho, hg⟩ := fin _ rfl (by simp)
   exact ⟨v', w', hr, (done v' w' ho).1, hg, (done v' w' ho).2⟩
 | none =>
  obtain rfl : xs = [] := by
   rcases hv with ⟨_, _, _, h, _⟩ | ⟨_, _, _, _, e, _⟩
   ·exact h
   ·simp at e
  have hk0 : k = 0 := by simpa using hk.symm
  subst hk0
  obtain ⟨v', w', hr, ho, hg, hn⟩ := Z4d (ty := ty) hR hs h1 (World.ownsRow_nil w 0 e size) (u := .slice (some ⟨b2, o2, none⟩) ys.length c2) hu (by simpa using hb) (by simpa using h63)
  simp only [Nat.zero_add, List.nil_append] at ho ⊢
  exact ⟨v', w', hr, ho, hg, fun b hb => (hn b hb).resolve_left (by simp [Value.ownBlock])⟩
theorem Z7m {α : Type} {enc : α → List Value} {T e : TypeId} {size bytes : Nat} {x y : Operand} {d : Nat} (hd : dst = some d) (H : Sat w0 G w) (hR : Z4V P T e size bytes = true) (hs : ∀ x, (enc x).length = size) (h1 : ∀ x, (enc x).all (·.oneCell') = true) {a : Option Addr} {u : Value} {k : Nat} {xs ys : List α} (hv : ListAt enc size w (.slice a k k) xs) (hk : xs.length = k) (hu : ListAt enc size w u ys) (hp : 0 < ys.length)
  (hx : ev n f x = .slice a k k) (hy : ev n f y = u) (hb : (k + ys.length) * bytes ≤ 140737488355328) (h63 : k + ys.length ≤ 140737488355328)
  (kk : ∀ v' w', Sat w0 (G ++ [Zk e size v' (xs ++ ys).length ((xs ++ ys).flatMap enc)]) w' → K (fr n (upd f d v')) w') : WO P ⟨dst, .call { callee := .builtin .append, args := #[x, y], argTypes := #[T, T] }, ty, pos, aft, gd⟩ K Q n f w := by
 obtain ⟨v', w', hr, ho, hg, hn⟩ := Z88 (ty := ty) hR hs h1 hv hk hu hp hb h63
 rw [show k + ys.length = (xs ++ ys).length by rw [List.length_append, hk]] at ho
 exact Z4l hd (Z4n hx hy hr) (kk v' w' (H.add (Z3z hg) (fun b hb => hg.block b hb (by simp)) ho hn))
end
theorem Z9K (w : World) (t : Nat) (F Cn rp : Int) (la : Option Addr) (lc : Nat) (L : List CeR) (ht : (Z0 t 45 [.int .i64 F, .int .i64 Cn, .int .i64 rp, .slice la L.length lc]).ok w) (hrow : (Zk 53 38 (.slice la L.length lc) L.length (L.flatMap Z03)).ok w) (hlL : L.length ≤ 64) :
  Calls Tryz.prog 35 #[(.pointer (some ⟨t, 0, none⟩))] w fun e w' => ∃ (t2 : Nat) (la2 : Option Addr) (lc2 : Nat), e = .returned (.pointer (some ⟨t2, 0, none⟩)) ∧ (ZL [Z0 t2 45 [.int .i64 F, .int .i64 Cn, .int .i64 rp, .slice la2 (L).length lc2], Zk 53 38 (.slice la2 (L).length lc2) (L).length ((L).flatMap Z03)]).ok w' ∧ Upd [] w w' ∧ ∀ b, (ZL [Z0 t2 45 [.int .i64 F, .int .i64 Cn, .int .i64 rp, .slice la2 (L).length lc2], Zk 53 38 (.slice la2 (L).length lc2) (L).length ((L).flatMap Z03)]).fp b → w.heap.size ≤ b := by
 have H := Sat.start0 w
 refine Zh Tryz.func35 rfl 13 rfl (Nat.le_of_ble_eq_true rfl) ?_
 refine Zd ?_
 refine Zq ?_
 refine Z2 (Z1 rfl) (d := 2) (v := (.pointer none)) rfl (by kernel_rfl) ?_
 refine Zn ?_
 refine Z4 ?_
 refine Zd ?_
 refine Zq ?_
 refine Z2 (Z1 rfl) (d := 4) (v := (.pointer (some ⟨t, 0, none⟩))) rfl (by kernel_rfl) ?_
 refine Z2 (Z1 rfl) (d := 5) (v := (.pointer (some ⟨t, 0, none⟩))) rfl (by kernel_rfl) ?_
 refine Z2 (Z1 rfl) (d := 6) (v := (.agg ⟨([(.int .i64 (F)), (.int .i64 (Cn)), (.int .i64 (rp)), (.slice la L.length lc)] : List Value)⟩)) rfl (Zi (vs := ([(.int .i64 (F)), (.int .i64 (Cn)), (.int .i64 (rp)), (.slice la L.length lc)] : List Value)) rfl (by kernel_rfl) (by kernel_rfl) (by exact Nat.le_of_ble_eq_true (by kernel_rfl)) (H.roCells 0 rfl ht (fun h => h)) (by kernel_rfl)) ?_
 refine Z07 (Z1 rfl) (fun K1 hK1 => ?_)
 refine Z2q (zs := ([(.int .i64 (0)), (.int .i64 (0)), (.int .i64 (0)), (.slice none 0 0)] : List Value)) (z := (.agg ⟨([(.int .i64 (0)), (.int .i64 (0)), (.int .i64 (0)), (.slice none 0 0)] : List Value)⟩)) rfl H (by kernel_rfl) (by kernel_rfl) ?_
 intro b2 w3 (H4 : Sat w [Z7 w (fun _ => False), Z0 b2 45 ([(.int .i64 (0)), (.int .i64 (0)), (.int .i64 (0)), (.slice none 0 0)] : List Value)] w3)
 refine hK1 _ _ ?_
 clear hK1 K1
 refine Z07 (Z1 rfl) (fun K5 hK5 => ?_)
 refine Z1U (vs := ([(.int .i64 (F)), (.int .i64 (Cn)), (.int .i64 (rp)), (.slice la L.length lc)] : List Value)) (cs' := ([(.int .i64 (F)), (.int .i64 (Cn)), (.int .i64 (rp)), (.slice la L.length lc)] : List Value)) rfl H4 1 rfl rfl rfl rfl (by kernel_rfl) (Nat.le_of_ble_eq_true (by kernel_rfl)) (Nat.le_of_ble_eq_true (by kernel_rfl)) (by kernel_rfl) (by kernel_rfl) ?_
 intro w6 (H7 : Sat w [Z7 w (fun _ => False), Z0 b2 45 ([(.int .i64 (F)), (.int .i64 (Cn)), (.int .i64 (rp)), (.slice la L.length lc)] : List Value)] w6)
 refine hK5 _ _ ?_
 clear hK5 K5
 refine Zn ?_
 refine Z4 ?_
 refine Zd ?_
 refine Zq ?_
 refine Z2 (Z1 rfl) (d := 7) (v := (.pointer (some ⟨t, 0, none⟩))) rfl (by kernel_rfl) ?_
 refine Z2 (Z1 rfl) (d := 8) (v := (.pointer (some ⟨t, 0, none⟩))) rfl (by kernel_rfl) ?_
 refine Z2 (Z1 rfl) (d := 9) (v := (.pointer (some ⟨t, 3, none⟩))) rfl (by kernel_rfl) ?_
 refine Z2 (Z1 rfl) (d := 10) (v := (.slice la L.length lc)) rfl (Z8 rfl (by kernel_rfl) (H7.roCell 0 rfl ht (fun h => h) rfl)) ?_
 refine Z07 (Z1 rfl) (fun K9 hK9 => ?_)
 refine Z5x (T := 32) (e := 53) (size := 38) (bytes := 96) rfl H7 (by kernel_rfl) (H7.roCk 0 rfl hrow (fun _ _ h => h)) rfl rfl (Z0Q Z03 Z2E L) (by omega) (by omega) ?_
 intro v10 w11 (H12 : Sat w [Z7 w (fun _ => False), Z0 b2 45 ([(.int .i64 (F)), (.int .i64 (Cn)), (.int .i64 (rp)), (.slice la L.length lc)] : List Value), Zk 53 38 v10 L.length (L.flatMap Z03)] w11)
 obtain ⟨a13, c14, rfl⟩ := Z6 (H12.at 2 rfl)
 refine hK9 _ _ ?_
 clear hK9 K9
 refine Z2 (Z1 rfl) (d := 12) (v := (.pointer (some ⟨b2, 3, none⟩))) rfl (by kernel_rfl) ?_
 refine Z07 (Z1 rfl) (fun K15 hK15 => ?_)
 refine Z1U (vs := ([(.slice a13 L.length c14)] : List Value)) (cs' := ([(.int .i64 (F)), (.int .i64 (Cn)), (.int .i64 (rp)), (.slice a13 L.length c14)] : List Value)) rfl H12 1 rfl rfl rfl rfl (by kernel_rfl) (Nat.le_of_ble_eq_true (by kernel_rfl)) (Nat.le_of_ble_eq_true (by kernel_rfl)) (by kernel_rfl) (by kernel_rfl) ?_
 intro w16 (H17 : Sat w [Z7 w (fun _ => False), Z0 b2 45 ([(.int .i64 (F)), (.int .i64 (Cn)), (.int .i64 (rp)), (.slice a13 L.length c14)] : List Value), Zk 53 38 (.slice a13 L.length c14) L.length (L.flatMap Z03)] w16)
 refine hK15 _ _ ?_
 clear hK15 K15
 refine Zn ?_
 refine Z4 ?_
 refine Zd ?_
 refine Zq ?_
 refine Z2 (Z1 rfl) (d := 2) (v := (.pointer (some ⟨b2, 0, none⟩))) rfl (by kernel_rfl) ?_
 refine Zn ?_
 refine Z4 ?_
 refine ZI ?_
 refine Z2e rfl (ZT (v := (.pointer (some ⟨b2, 0, none⟩))) rfl) ?_
 exact ⟨b2, a13, c14, rfl, H17.fin [1, 2] (by decide) rfl, H17.upd 0 rfl [] (fun _ h => h.elim), H17.freshS 0 rfl (fun _ h => h) [1, 2] rfl rfl⟩
end Go.Proofs.YtoaifondpohniaaGreat
