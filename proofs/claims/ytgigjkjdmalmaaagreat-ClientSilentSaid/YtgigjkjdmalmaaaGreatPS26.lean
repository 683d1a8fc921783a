/- WHAT IS PROVED: contracts and plain laws of ClV. Conditions: stated with each. -/
import Derived.Test.YtgigjkjdmalmaaaGreatPS09
import Derived.Test.YtgigjkjdmalmaaaGreatPS25
set_option maxHeartbeats 4000000
set_option maxRecDepth 100000
namespace Go.Proofs.YtgigjkjdmalmaaaGreat
open Go.RowKit
theorem Z2W {fr : Int} {m x : OmR} {B : List Ck} {D : List OmR} {i : Nat} (h : ∀ j, j < D.length → Z4J fr m B j (D.getD j om0)) (hx : D[i]? = some x) : Z4J fr m B i x := by
 have q := h i (List.getElem?_eq_some_iff.1 hx).1
 rw [List.getD_eq_getElem?_getD, hx] at q
 exact q
theorem Z6c {p q : List UInt8} {i : Nat} (h : p.take i = q.take i) (h1 : i < p.length) (h2 : i < q.length) (e : p.getD i 0 = q.getD i 0) : p.take (i + 1) = q.take (i + 1) := by
 rw [List.getD_eq_getElem?_getD, List.getElem?_eq_getElem h1, List.getD_eq_getElem?_getD, List.getElem?_eq_getElem h2] at e
 rw [List.take_add_one, List.take_add_one, h, List.getElem?_eq_getElem h1, List.getElem?_eq_getElem h2]
 simp only [Option.getD_some] at e
 rw [e]
theorem Z4R (w : World) (v : Value) (p : List UInt8) (hp : ListAt Zl 1 w v p) (hx : p.length ≤ 1000000) :
  Calls Tryz.prog 42 #[(v)] w fun e w' => ∃ u, e = .returned u ∧ (Ze 5 1 u p.length (p.flatMap Zl)).ok w' ∧ Upd [] w w' ∧ ∀ b, (Ze 5 1 u p.length (p.flatMap Zl)).fp b → w.heap.size ≤ b := by
 have H := Sat.start0 w
 refine Zw Tryz.func42 rfl 5 rfl (Nat.le_of_ble_eq_true rfl) ?_
 refine Zf ?_
 refine Zr ?_
 refine Z4 (Z3 rfl) (d := 2) (v := (.slice none 0 0)) rfl (by kernel_rfl) ?_
 refine Zn ?_
 refine Z7 ?_
 refine Zf ?_
 refine Zr ?_
 refine Z4 (Z3 rfl) (d := 3) (v := v) rfl (by kernel_rfl) ?_
 refine ZG (Z3 rfl) (fun K1 hK1 => ?_)
 refine Z1d (T := 38) (e := 5) (size := 1) (bytes := 1) rfl H (by kernel_rfl) ZS Z0d (ListAt.now H 0 rfl hp) rfl rfl (by omega) (by omega) ?_
 intro v2 w3 (H4 : Sat w [Za w (fun _ => False), Ze 5 1 v2 p.length (p.flatMap Zl)] w3)
 obtain ⟨a5, c6, rfl⟩ := Zk (H4.at 1 rfl)
 refine hK1 _ _ ?_
 clear hK1 K1
 refine Z4 (Z3 rfl) (d := 2) (v := (.slice a5 p.length c6)) rfl (by kernel_rfl) ?_
 refine Zn ?_
 refine Z7 ?_
 refine ZY ?_
 refine Z0Q rfl (ZM (v := (.slice a5 p.length c6)) rfl) ?_
 exact ⟨_, rfl, H4.at 1 rfl, H4.upd 0 rfl [] (fun _ h => h.elim), H4.fresh 0 rfl (fun _ h => h) 1 rfl rfl⟩
theorem Z5J (w : World) (pa : Option Addr) (pc : Nat) (p : List UInt8) (hp : ListAt Zl 1 w (.slice pa p.length pc) p) (n : Nat) (hn : n ≤ 1000000) :
  Calls Tryz.prog 20 #[(.slice pa p.length pc), (.int .i64 ((n : Int)))] w fun e w' => ∃ u, e = .returned u ∧ (Ze 5 1 u (p.take n).length ((p.take n).flatMap Zl)).ok w' ∧ Upd [] w w' ∧ ∀ b, (Ze 5 1 u (p.take n).length ((p.take n).flatMap Zl)).fp b → w.heap.size ≤ b := by
 have hcap := ListAt.cap hp
 have H := Sat.start0 w
 refine Zw Tryz.func20 rfl 12 rfl (Nat.le_of_ble_eq_true rfl) ?_
 refine Zf ?_
 refine Zr ?_
 refine Z4 (Z3 rfl) (d := 4) (v := (.slice none 0 0)) rfl (by kernel_rfl) ?_
 refine Zn ?_
 refine Z7 ?_
 refine Zf ?_
 refine Zr ?_
 refine Z4 (Z3 rfl) (d := 5) (v := (.slice pa p.length pc)) rfl (by kernel_rfl) ?_
 refine Z4 (Z3 rfl) (d := 6) (v := (.slice pa p.length pc)) rfl (by kernel_rfl) ?_
 refine Z4 (Z3 rfl) (d := 7) (v := (.int .i64 ((p.length : Int)))) rfl (by kernel_rfl) ?_
 refine Z4 (Z3 rfl) (d := 8) (v := (.int .i64 ((n : Int)))) rfl (by kernel_rfl) ?_
 refine Z4 (Z3 rfl) (d := 9) (v := (.int .i64 (((min p.length n : Nat) : Int)))) rfl (e_min (k := .i64) (a := (p.length : Int)) (b := (n : Int)) (z := ((min p.length n : Nat) : Int)) rfl rfl (by omega)) ?_
 refine Z4 (Z3 rfl) (d := 10) (v := (.slice pa (min p.length n) pc)) rfl (Z4U (E := 5) (q := (min p.length n)) (by kernel_rfl) (by kernel_rfl) rfl rfl (by omega) (by omega)) ?_
 refine ZG (Z3 rfl) (fun K1 hK1 => ?_)
 refine ZI (d := 11) rfl (by kernel_rfl) (Z4R w (.slice pa (min p.length n) pc) (p.take (min p.length n)) (ListAt.take (ListAt.now H 0 rfl hp) (by omega)) (by simp only [List.length_take]; omega)) ?_
 rintro _ w2 ⟨u3, rfl, k4, p5, q6⟩
 have H7 : Sat w [Za w (fun _ => False), Ze 5 1 u3 ((p.take (min p.length n)).length) ((p.take (min p.length n)).flatMap Zl)] w2 := H.addU p5 k4 q6
 obtain ⟨a8, c9, rfl⟩ := Zk (H7.at 1 rfl)
 refine ⟨_, rfl, ?_⟩
 refine hK1 _ _ ?_
 clear hK1 K1
 refine Z4 (Z3 rfl) (d := 4) (v := (.slice a8 ((p.take (min p.length n)).length) c9)) rfl (by kernel_rfl) ?_
 refine Zn ?_
 refine Z7 ?_
 refine ZY ?_
 refine Z0Q rfl (ZM (v := (.slice a8 ((p.take (min p.length n)).length) c9)) rfl) ?_
 have ht : p.take (min p.length n) = p.take n := by rw [List.take_eq_take_iff]; omega
 exact ⟨_, rfl, (by rw [← ht]; exact H7.at 1 rfl), H7.upd 0 rfl [] (fun _ h => h.elim), (by rw [← ht]; exact H7.fresh 0 rfl (fun _ h => h) 1 rfl rfl)⟩
theorem Z5p (w : World) (pa : Option Addr) (pc : Nat) (p : List UInt8) (hp : ListAt Zl 1 w (.slice pa p.length pc) p) (hlp : p.length ≤ 1000000) (qa : Option Addr) (qc : Nat) (q : List UInt8) (hq : ListAt Zl 1 w (.slice qa q.length qc) q) :
  Calls Tryz.prog 23 #[(.slice pa p.length pc), (.slice qa q.length qc)] w fun e w' => e = .returned (.bool (decide (p = q))) ∧ Upd [] w w' := by
 have H := Sat.start0 w
 refine Zw Tryz.func23 rfl 26 rfl (Nat.le_of_ble_eq_true rfl) ?_
 refine Zf ?_
 refine Zr ?_
 refine Z4 (Z3 rfl) (d := 4) (v := (.bool false)) rfl (by kernel_rfl) ?_
 refine Zn ?_
 refine Z7 ?_
 refine Zf ?_
 refine Zf ?_
 refine Zr ?_
 refine Z4 (Z3 rfl) (d := 6) (v := (.slice pa p.length pc)) rfl (by kernel_rfl) ?_
 refine Z4 (Z3 rfl) (d := 7) (v := (.int .i64 ((p.length : Int)))) rfl (by kernel_rfl) ?_
 refine Z4 (Z3 rfl) (d := 8) (v := (.slice qa q.length qc)) rfl (by kernel_rfl) ?_
 refine Z4 (Z3 rfl) (d := 9) (v := (.int .i64 ((q.length : Int)))) rfl (by kernel_rfl) ?_
 refine Z4 (Z3 rfl) (d := 10) (v := (.bool (!(decide ((p.length : Int) = (q.length : Int)))))) rfl (by kernel_rfl) ?_
 refine Zn ?_
 refine Z7 ?_
 refine (Z02 (!(decide ((p.length : Int) = (q.length : Int))))).elim (fun b1 => ?_) (fun b1 => ?_)
 ·have g2 := Z0C b1
  have g3 := of_decide_eq_false g2
  refine Zq 10 (.bool true) (congrArg Value.bool b1) ?_
  have g4 := Z0C b1
  have g5 := of_decide_eq_false g4
  refine Z0y rfl ?_
  refine Zf ?_
  refine Zr ?_
  refine Z4 (Z3 rfl) (d := 4) (v := (.bool false)) rfl (by kernel_rfl) ?_
  refine Zn ?_
  refine Z7 ?_
  refine ZY ?_
  refine Z1e ?_
  refine Z0Q rfl (ZM (v := (.bool false)) rfl) ?_
  exact ⟨by rw [decide_eq_false (fun e => by have z := b1; simp [e] at z)], H.upd 0 rfl [] (fun _ h => h.elim)⟩
 ·have g6 := ZO b1
  have g7 := of_decide_eq_true g6
  refine Zq 10 (.bool false) (congrArg Value.bool b1) ?_
  have g8 := ZO b1
  have g9 := of_decide_eq_true g8
  refine Z00 rfl ?_
  refine ZR ?_
  refine Z7 ?_
  refine Zf ?_
  refine Zf ?_
  have hlen : p.length = q.length := by have z := b1; simp at z; omega
  refine Zr ?_
  refine Z4 (Z3 rfl) (d := 5) (v := (.int .i64 (0))) rfl (by kernel_rfl) ?_
  refine Zn ?_
  refine Z7 ?_
  refine ZD ?_
  refine ZW [4, 5, 11, 12, 13, 14, 15, 16, 17, 18, 19, 20, 21, 22, 23, 24, 25] (fun F_ W_ m_ => ∃ (i : Nat), F_ 5 = (.int .i64 ((i : Int))) ∧ (i ≤ p.length) ∧ (p.take i = q.take i) ∧ Sat w [Za w (fun _ => False)] W_ ∧ m_ = p.length + 1 - i) _ ⟨0, (show ((.int .i64 (0)) : Value) = _ by first | rfl | go_num), by omega, by simp, H, rfl⟩ ?_
  rintro g10 w11 _ ⟨i, v13, hi, hse, H12, rfl⟩
  refine Zq 5 _ v13 ?_
  refine Zf ?_
  refine Zf ?_
  refine Zr ?_
  refine Z4 (Z3 rfl) (d := 11) (v := (.int .i64 ((i : Int)))) rfl (by kernel_rfl) ?_
  refine Z4 (Z3 rfl) (d := 12) (v := (.slice pa p.length pc)) rfl (by kernel_rfl) ?_
  refine Z4 (Z3 rfl) (d := 13) (v := (.int .i64 ((p.length : Int)))) rfl (by kernel_rfl) ?_
  refine Z4 (Z3 rfl) (d := 14) (v := (.bool (decide ((i : Int) < (p.length : Int))))) rfl (by kernel_rfl) ?_
  refine Zn ?_
  refine Z7 ?_
  refine (Z02 (decide ((i : Int) < (p.length : Int)))).elim (fun b15 => ?_) (fun b15 => ?_)
  ·have g16 := of_decide_eq_true b15
   refine Zq 14 (.bool true) (congrArg Value.bool b15) ?_
   have g17 := of_decide_eq_true b15
   refine Z0y rfl ?_
   refine ZR ?_
   refine Z7 ?_
   refine Zf ?_
   refine ZD ?_
   refine Zf ?_
   refine Z1v H12 (by kernel_rfl) (by kernel_rfl) ?_
   refine ZL (Z3 rfl) (d := 17) (v := (.slice pa p.length pc)) rfl (fun _ H' => (by kernel_rfl)) ?_
   refine ZL (Z3 rfl) (d := 18) (v := (.int .i64 ((i : Int)))) rfl (fun _ H' => (by kernel_rfl)) ?_
   obtain ⟨g18, o19, c20, e21, R22⟩ := SliceOf.atD hp 0 (show i < p.length by omega)
   refine ZL (Z3 rfl) (d := 19) (v := (.pointer (some ⟨g18, o19 + ((i : Int)).toNat * 1, none⟩))) rfl (fun _ H' => (Z03 (E := 5) (by kernel_rfl) (by kernel_rfl) (Nat.le_of_ble_eq_true rfl) rfl e21 rfl (by omega) (by omega))) ?_
   refine ZL (Z3 rfl) (d := 20) (v := (.int .u8 (((p.getD i 0).toNat : Int)))) rfl (fun _ H' => (Zi rfl (by kernel_rfl) (H'.cellR 0 rfl (Z1l R22 0 (by kernel_rfl) (show o19 + ((i : Int)).toNat * 1 = o19 + i * 1 + 0 by omega)) (fun h => h)))) ?_
   refine ZL (Z3 rfl) (d := 21) (v := (.slice qa q.length qc)) rfl (fun _ H' => (by kernel_rfl)) ?_
   refine ZL (Z3 rfl) (d := 22) (v := (.int .i64 ((i : Int)))) rfl (fun _ H' => (by kernel_rfl)) ?_
   obtain ⟨g23, o24, c25, e26, R27⟩ := SliceOf.atD hq 0 (show i < q.length by omega)
   refine ZL (Z3 rfl) (d := 23) (v := (.pointer (some ⟨g23, o24 + ((i : Int)).toNat * 1, none⟩))) rfl (fun _ H' => (Z03 (E := 5) (by kernel_rfl) (by kernel_rfl) (Nat.le_of_ble_eq_true rfl) rfl e26 rfl (by omega) (by omega))) ?_
   refine ZL (Z3 rfl) (d := 24) (v := (.int .u8 (((q.getD i 0).toNat : Int)))) rfl (fun _ H' => (Zi rfl (by kernel_rfl) (H'.cellR 0 rfl (Z1l R27 0 (by kernel_rfl) (show o24 + ((i : Int)).toNat * 1 = o24 + i * 1 + 0 by omega)) (fun h => h)))) ?_
   refine ZL (Z3 rfl) (d := 25) (v := (.bool (!(decide (((p.getD i 0).toNat : Int) = ((q.getD i 0).toNat : Int)))))) rfl (fun _ H' => (by kernel_rfl)) ?_
   refine Z1O ?_
   intro w28 H29
   refine Z7 ?_
   refine (Z02 (!(decide (((p.getD i 0).toNat : Int) = ((q.getD i 0).toNat : Int))))).elim (fun b30 => ?_) (fun b30 => ?_)
   ·have g31 := Z0C b30
    have g32 := of_decide_eq_false g31
    refine Zq 25 (.bool true) (congrArg Value.bool b30) ?_
    have g33 := Z0C b30
    have g34 := of_decide_eq_false g33
    refine Z0y rfl ?_
    refine Zf ?_
    refine Zr ?_
    refine Z4 (Z3 rfl) (d := 4) (v := (.bool false)) rfl (by kernel_rfl) ?_
    refine Zn ?_
    refine Z7 ?_
    refine ZY ?_
    refine Z35 ?_
    refine Z1e ?_
    refine Z5F ?_
    refine Z35 ?_
    refine Z1e ?_
    refine Z0Q rfl (ZM (v := (.bool false)) rfl) ?_
    exact ⟨by rw [decide_eq_false (fun e => by rw [e] at b30; simp at b30)], H29.upd 0 rfl [] (fun _ h => h.elim)⟩
   ·have g35 := ZO b30
    have g36 := of_decide_eq_true g35
    refine Zq 25 (.bool false) (congrArg Value.bool b30) ?_
    have g37 := ZO b30
    have g38 := of_decide_eq_true g37
    refine Z00 rfl ?_
    refine ZR ?_
    refine ZE ?_
    refine Z7 ?_
    refine Zr ?_
    refine Z4 (Z3 rfl) (d := 15) (v := (.int .i64 ((i : Int)))) rfl (by kernel_rfl) ?_
    refine Z4 (Z3 rfl) (d := 16) (v := (.int .i64 ((i : Int) + 1))) rfl (Z08 (z := (i : Int) + 1) (by kernel_rfl) (IntWalk.i64_in _ (by omega))) ?_
    refine Z4 (Z3 rfl) (d := 5) (v := (.int .i64 ((i : Int) + 1))) rfl (by kernel_rfl) ?_
    refine Zn ?_
    refine ZF ?_ _ ⟨(i + 1), (show ((.int .i64 ((i : Int) + 1)) : Value) = _ by first | rfl | go_num), by omega, Z6c hse (by omega) (by omega) (UInt8.toNat_inj.1 (by have z := of_decide_eq_true (ZO b30); omega)), H29, rfl⟩ (by omega)
    exact (Z1 rfl (Z1 rfl (Z1 rfl (Z1 rfl (Z1 rfl (Z1 rfl (Z1 rfl (Z1 rfl (Z1 rfl (Z1 rfl (Z1 rfl (Z1 rfl (Z1 rfl (Z1 rfl (Z1 rfl (Z1 rfl (Z1 rfl (Z1 rfl (Z1 rfl (Z0s))))))))))))))))))))
  ·have g39 := of_decide_eq_false b15
   refine Zq 14 (.bool false) (congrArg Value.bool b15) ?_
   have g40 := of_decide_eq_false b15
   refine Z00 rfl ?_
   refine Z1K ?_
   refine Z0D ?_
   refine Z0B ?_
   refine Z1f ?_
   refine Z7 ?_
   refine Zf ?_
   refine Zr ?_
   refine Z4 (Z3 rfl) (d := 4) (v := (.bool true)) rfl (by kernel_rfl) ?_
   refine Zn ?_
   refine Z7 ?_
   refine ZY ?_
   refine Z0Q rfl (ZM (v := (.bool true)) rfl) ?_
   exact ⟨by rw [decide_eq_true (show p = q by rw [← List.take_of_length_le (show p.length ≤ i by omega), hse, List.take_of_length_le (by omega)])], H12.upd 0 rfl [] (fun _ h => h.elim)⟩
theorem Z4d (w : World) :
  Calls Tryz.prog 19 #[] w fun e w' => e = .returned (.bool true) ∧ Upd [] w w' := by
 have H := Sat.start0 w
 refine Zw Tryz.func19 rfl 48 rfl (Nat.le_of_ble_eq_true rfl) ?_
 refine Zf ?_
 refine Zr ?_
 refine Z4 (Z3 rfl) (d := 0) (v := (.bool false)) rfl (by kernel_rfl) ?_
 refine Zn ?_
 refine Z7 ?_
 refine Zf ?_
 refine Zr ?_
 refine ZG (Z3 rfl) (fun K1 hK1 => ?_)
 refine ZI (d := 6) rfl (by kernel_rfl) (Z4m w) ?_
 rintro _ w2 ⟨b3, m4, rfl, k5, p6, q7⟩
 have H8 : Sat w [Za w (fun _ => False), ZJ [Z5 b3 108 [.map (some m4)], Zh m4 Zb (Value.int .i64) (Zj [])]] w2 := H.addU p6 k5 q7
 have H9 : Sat w [Za w (fun _ => False), Z5 b3 108 ([(.map (some m4))] : List Value), Zh m4 Zb (Value.int .i64) (Zj [])] w2 := H8.open 1 rfl
 refine ⟨_, rfl, ?_⟩
 refine hK1 _ _ ?_
 clear hK1 K1
 refine Z4 (Z3 rfl) (d := 1) (v := (.pointer (some ⟨b3, 0, none⟩))) rfl (by kernel_rfl) ?_
 refine Zn ?_
 refine Z7 ?_
 refine Zf ?_
 refine Zf ?_
 refine Zr ?_
 refine Z4 (Z3 rfl) (d := 7) (v := (.pointer (some ⟨b3, 0, none⟩))) rfl (by kernel_rfl) ?_
 refine Z4 (Z3 rfl) (d := 8) (v := (.bool false)) rfl (by kernel_rfl) ?_
 refine Zn ?_
 refine Z7 ?_
 refine Z00 rfl ?_
 refine ZR ?_
 refine Z7 ?_
 refine Zf ?_
 refine Zr ?_
 refine Z4 (Z3 rfl) (d := 10) (v := (.agg ⟨([(.int .i64 (1)), (.int .i64 (1))] : List Value)⟩)) rfl (by kernel_rfl) ?_
 refine Z4 (Z3 rfl) (d := 11) (v := (.pointer (some ⟨b3, 0, none⟩))) rfl (by kernel_rfl) ?_
 refine ZG (Z3 rfl) (fun K10 hK10 => ?_)
 refine ZI (d := 12) rfl (by kernel_rfl) (Z3s w2 1 1 (0 : Int) b3 (by kernel_rfl) (by omega)) ?_
 rintro _ w11 ⟨c12, rfl, k13, p14, q15⟩
 have H16 : Sat w [Za w (fun _ => False), Z5 b3 108 ([(.map (some m4))] : List Value), Zh m4 Zb (Value.int .i64) (Zj []), Z5 c12 112 ([(.int .i64 (1)), (.int .i64 (1)), (.int .i64 (0)), (.pointer (some ⟨b3, 0, none⟩)), (.slice none 0 0)] : List Value)] w11 := H9.addU p14 k13 q15
 refine ⟨_, rfl, ?_⟩
 refine hK10 _ _ ?_
 clear hK10 K10
 refine Z4 (Z3 rfl) (d := 9) (v := (.tuple #[(.pointer (some ⟨c12, 0, none⟩)), (.int .i64 (0))])) rfl (by kernel_rfl) ?_
 refine Z4 (Z3 rfl) (d := 13) (v := (.pointer (some ⟨c12, 0, none⟩))) rfl (by kernel_rfl) ?_
 refine Z4 (Z3 rfl) (d := 14) (v := (.int .i64 (0))) rfl (by kernel_rfl) ?_
 refine Z4 (Z3 rfl) (d := 2) (v := (.pointer (some ⟨c12, 0, none⟩))) rfl (by kernel_rfl) ?_
 refine Z4 (Z3 rfl) (d := 3) (v := (.int .i64 (0))) rfl (by kernel_rfl) ?_
 refine Zn ?_
 refine Z7 ?_
 refine Zf ?_
 refine Zf ?_
 refine Zr ?_
 refine Z4 (Z3 rfl) (d := 15) (v := (.int .i64 (0))) rfl (by kernel_rfl) ?_
 refine Z4 (Z3 rfl) (d := 16) (v := (.bool false)) rfl (by kernel_rfl) ?_
 refine Z4 (Z3 rfl) (d := 17) (v := (.bool false)) rfl (by kernel_rfl) ?_
 refine Z4 (Zo 2 17 false rfl (by kernel_rfl) rfl (by kernel_rfl)) (d := 18) (v := (.pointer (some ⟨c12, 0, none⟩))) rfl (by kernel_rfl) ?_
 refine Z4 (Zo 2 17 false rfl (by kernel_rfl) rfl (by kernel_rfl)) (d := 19) (v := (.bool false)) rfl (by kernel_rfl) ?_
 refine Z4 (Z3 rfl) (d := 20) (v := (.bool false)) rfl (by kernel_rfl) ?_
 refine Zn ?_
 refine Z7 ?_
 refine Z00 rfl ?_
 refine ZR ?_
 refine Z7 ?_
 refine Zf ?_
 have H18 : Sat w [Za w (fun _ => False), Z5 b3 108 ([(.map (some m4))] : List Value), Zh m4 Zb (Value.int .i64) (Zj []), Z5 c12 112 ([(.int .i64 (1)), (.int .i64 (1)), (.int .i64 (0)), (.pointer (some ⟨b3, 0, none⟩)), (.slice none (([] : List Zm).length) 0)] : List Value), Ze 119 79 (.slice none (([] : List Zm).length) 0) (([] : List Zm).length) (([] : List Zm).flatMap Zg)] w11 := H16.addNil 119 79
 refine Zr ?_
 refine Z4 (Z3 rfl) (d := 22) (v := (.pointer (some ⟨c12, 0, none⟩))) rfl (by kernel_rfl) ?_
 refine ZG (Z3 rfl) (fun K19 hK19 => ?_)
 refine Z05 (e := 5) (size := 1) (bytes := 1) (z := (.int .u8 (0))) (pvs := [(0, (.int .u8 (97)))]) (vs := ([(.int .u8 (97))] : List Value)) rfl H18 (by kernel_rfl) (by kernel_rfl) (by kernel_rfl) (by kernel_rfl) (by kernel_rfl) rfl rfl ?_
 intro b20 w21 (H22 : Sat w [Za w (fun _ => False), Z5 b3 108 ([(.map (some m4))] : List Value), Zh m4 Zb (Value.int .i64) (Zj []), Z5 c12 112 ([(.int .i64 (1)), (.int .i64 (1)), (.int .i64 (0)), (.pointer (some ⟨b3, 0, none⟩)), (.slice none (([] : List Zm).length) 0)] : List Value), Ze 119 79 (.slice none (([] : List Zm).length) 0) (([] : List Zm).length) (([] : List Zm).flatMap Zg), Ze 5 1 (.slice (some ⟨b20, 0, none⟩) 1 1) 1 ([(.int .u8 (97))] : List Value)] w21)
 have H23 : Sat w [Za w (fun _ => False), Z5 b3 108 ([(.map (some m4))] : List Value), Zh m4 Zb (Value.int .i64) (Zj []), Z5 c12 112 ([(.int .i64 (1)), (.int .i64 (1)), (.int .i64 (0)), (.pointer (some ⟨b3, 0, none⟩)), (.slice none (([] : List Zm).length) 0)] : List Value), Ze 119 79 (.slice none (([] : List Zm).length) 0) (([] : List Zm).length) (([] : List Zm).flatMap Zg), Ze 5 1 (.slice (some ⟨b20, 0, none⟩) 1 1) 1 ([97].flatMap Zl)] w21 := H22.cast (by rw [(show (([(.int .u8 (97))] : List Value) : List Value) = ([97] : List UInt8).flatMap Zl by kernel_rfl)])
 refine hK19 _ _ ?_
 clear hK19 K19
 refine ZG (Z3 rfl) (fun K24 hK24 => ?_)
 refine Z0H (e := 5) (s := [97]) rfl H23 5 rfl (by kernel_rfl) (by kernel_rfl) rfl ?_
 intro w25 (H26 : Sat w [Za w (fun _ => False), Z5 b3 108 ([(.map (some m4))] : List Value), Zh m4 Zb (Value.int .i64) (Zj []), Z5 c12 112 ([(.int .i64 (1)), (.int .i64 (1)), (.int .i64 (0)), (.pointer (some ⟨b3, 0, none⟩)), (.slice none (([] : List Zm).length) 0)] : List Value), Ze 119 79 (.slice none (([] : List Zm).length) 0) (([] : List Zm).length) (([] : List Zm).flatMap Zg), Zy (.slice (some ⟨b20, 0, none⟩) 1 1) ([97])] w25)
 refine hK24 _ _ ?_
 clear hK24 K24
 refine Z4 (Z3 rfl) (d := 25) (v := (.agg ⟨(hc Zd)⟩)) rfl (by kernel_rfl) ?_
 refine ZG (Z3 rfl) (fun K27 hK27 => ?_)
 refine ZI (d := 26) rfl (by kernel_rfl) (Z2c w25 c12 b3 m4 0 none 1 1 0 ([] : List Zm) ([]) (some ⟨b20, 0, none⟩) 1 ([97]) (H26.fin [3, 4, 1, 2, 5] (by decide) rfl) Zd (by decide) (by decide) (by decide) (fun _ e_ => by cases e_; rfl) (by omega) (by omega)) ?_
 rintro _ w28 ⟨g29, c30, a31, c32, m33, m34, m35, m36, a37, c38, D39, B40, rfl, n41, o42, T43⟩
 have H44 : Sat w [Za w (fun _ => False), Z5 b3 108 ([(.map (some m4))] : List Value), Zh m4 Zb (Value.int .i64) (Zj (Zc ([]) (⟨1000 + 0, Z2 (⟨0, ((([] : List Zm).length : Int) + 1), Z8 (ofT 0 ((([] : List Zm).length : Int) + 1) Zd ([97])), ([97]).length, 0, 0⟩ : Z0)⟩ : Z6))), Z5 c12 112 ([(.int .i64 (1)), (.int .i64 (1)), (.int .i64 (0)), (.pointer (some ⟨b3, 0, none⟩)), (.slice (some ⟨g29, 0, none⟩) ((([] : List Zm) ++ [(⟨(⟨0, ((([] : List Zm).length : Int) + 1), Z8 (ofT 0 ((([] : List Zm).length : Int) + 1) Zd ([97])), ([97]).length, 1000 + 0, Z9 (Zc ([]) (⟨1000 + 0, Z2 (⟨0, ((([] : List Zm).length : Int) + 1), Z8 (ofT 0 ((([] : List Zm).length : Int) + 1) Zd ([97])), ([97]).length, 0, 0⟩ : Z0)⟩ : Z6)) (⟨1000 + 0, Z2 (⟨0, ((([] : List Zm).length : Int) + 1), Z8 (ofT 0 ((([] : List Zm).length : Int) + 1) Zd ([97])), ([97]).length, 0, 0⟩ : Z0)⟩ : Z6)⟩ : Z0), a31, c32, ([97]), Zd, m33, none, m34, m35, false, 0, m36, false, []⟩ : Zm)]).length) c30)] : List Value), Ze 119 79 (.slice (some ⟨g29, 0, none⟩) ((([] : List Zm) ++ [(⟨(⟨0, ((([] : List Zm).length : Int) + 1), Z8 (ofT 0 ((([] : List Zm).length : Int) + 1) Zd ([97])), ([97]).length, 1000 + 0, Z9 (Zc ([]) (⟨1000 + 0, Z2 (⟨0, ((([] : List Zm).length : Int) + 1), Z8 (ofT 0 ((([] : List Zm).length : Int) + 1) Zd ([97])), ([97]).length, 0, 0⟩ : Z0)⟩ : Z6)) (⟨1000 + 0, Z2 (⟨0, ((([] : List Zm).length : Int) + 1), Z8 (ofT 0 ((([] : List Zm).length : Int) + 1) Zd ([97])), ([97]).length, 0, 0⟩ : Z0)⟩ : Z6)⟩ : Z0), a31, c32, ([97]), Zd, m33, none, m34, m35, false, 0, m36, false, []⟩ : Zm)]).length) c30) ((([] : List Zm) ++ [(⟨(⟨0, ((([] : List Zm).length : Int) + 1), Z8 (ofT 0 ((([] : List Zm).length : Int) + 1) Zd ([97])), ([97]).length, 1000 + 0, Z9 (Zc ([]) (⟨1000 + 0, Z2 (⟨0, ((([] : List Zm).length : Int) + 1), Z8 (ofT 0 ((([] : List Zm).length : Int) + 1) Zd ([97])), ([97]).length, 0, 0⟩ : Z0)⟩ : Z6)) (⟨1000 + 0, Z2 (⟨0, ((([] : List Zm).length : Int) + 1), Z8 (ofT 0 ((([] : List Zm).length : Int) + 1) Zd ([97])), ([97]).length, 0, 0⟩ : Z0)⟩ : Z6)⟩ : Z0), a31, c32, ([97]), Zd, m33, none, m34, m35, false, 0, m36, false, []⟩ : Zm)]).length) ((([] : List Zm) ++ [(⟨(⟨0, ((([] : List Zm).length : Int) + 1), Z8 (ofT 0 ((([] : List Zm).length : Int) + 1) Zd ([97])), ([97]).length, 1000 + 0, Z9 (Zc ([]) (⟨1000 + 0, Z2 (⟨0, ((([] : List Zm).length : Int) + 1), Z8 (ofT 0 ((([] : List Zm).length : Int) + 1) Zd ([97])), ([97]).length, 0, 0⟩ : Z0)⟩ : Z6)) (⟨1000 + 0, Z2 (⟨0, ((([] : List Zm).length : Int) + 1), Z8 (ofT 0 ((([] : List Zm).length : Int) + 1) Zd ([97])), ([97]).length, 0, 0⟩ : Z0)⟩ : Z6)⟩ : Z0), a31, c32, ([97]), Zd, m33, none, m34, m35, false, 0, m36, false, []⟩ : Zm)]).flatMap Zg), Zy (.slice (some ⟨b20, 0, none⟩) 1 1) ([97]), Zh m33 (Value.int .i64) Z0c [], Zh m34 (Value.int .i64) Value.bool [], Zh m35 (Value.int .i64) rcV [], Zh m36 (Value.int .i64) ZU [], Ze 5 1 (.slice a31 (([97]).length) c32) (([97]).length) (([97]).flatMap Zl), Ze 82 295 (.slice a37 D39.length c38) D39.length (D39.flatMap Z01), Z0G B40] w28 := (Sat.turnL (L' := [Z5 c12 112 ([(.int .i64 (1)), (.int .i64 (1)), (.int .i64 (0)), (.pointer (some ⟨b3, 0, none⟩)), (.slice (some ⟨g29, 0, none⟩) ((([] : List Zm) ++ [(⟨(⟨0, ((([] : List Zm).length : Int) + 1), Z8 (ofT 0 ((([] : List Zm).length : Int) + 1) Zd ([97])), ([97]).length, 1000 + 0, Z9 (Zc ([]) (⟨1000 + 0, Z2 (⟨0, ((([] : List Zm).length : Int) + 1), Z8 (ofT 0 ((([] : List Zm).length : Int) + 1) Zd ([97])), ([97]).length, 0, 0⟩ : Z0)⟩ : Z6)) (⟨1000 + 0, Z2 (⟨0, ((([] : List Zm).length : Int) + 1), Z8 (ofT 0 ((([] : List Zm).length : Int) + 1) Zd ([97])), ([97]).length, 0, 0⟩ : Z0)⟩ : Z6)⟩ : Z0), a31, c32, ([97]), Zd, m33, none, m34, m35, false, 0, m36, false, []⟩ : Zm)]).length) c30)] : List Value), Ze 119 79 (.slice (some ⟨g29, 0, none⟩) ((([] : List Zm) ++ [(⟨(⟨0, ((([] : List Zm).length : Int) + 1), Z8 (ofT 0 ((([] : List Zm).length : Int) + 1) Zd ([97])), ([97]).length, 1000 + 0, Z9 (Zc ([]) (⟨1000 + 0, Z2 (⟨0, ((([] : List Zm).length : Int) + 1), Z8 (ofT 0 ((([] : List Zm).length : Int) + 1) Zd ([97])), ([97]).length, 0, 0⟩ : Z0)⟩ : Z6)) (⟨1000 + 0, Z2 (⟨0, ((([] : List Zm).length : Int) + 1), Z8 (ofT 0 ((([] : List Zm).length : Int) + 1) Zd ([97])), ([97]).length, 0, 0⟩ : Z0)⟩ : Z6)⟩ : Z0), a31, c32, ([97]), Zd, m33, none, m34, m35, false, 0, m36, false, []⟩ : Zm)]).length) c30) ((([] : List Zm) ++ [(⟨(⟨0, ((([] : List Zm).length : Int) + 1), Z8 (ofT 0 ((([] : List Zm).length : Int) + 1) Zd ([97])), ([97]).length, 1000 + 0, Z9 (Zc ([]) (⟨1000 + 0, Z2 (⟨0, ((([] : List Zm).length : Int) + 1), Z8 (ofT 0 ((([] : List Zm).length : Int) + 1) Zd ([97])), ([97]).length, 0, 0⟩ : Z0)⟩ : Z6)) (⟨1000 + 0, Z2 (⟨0, ((([] : List Zm).length : Int) + 1), Z8 (ofT 0 ((([] : List Zm).length : Int) + 1) Zd ([97])), ([97]).length, 0, 0⟩ : Z0)⟩ : Z6)⟩ : Z0), a31, c32, ([97]), Zd, m33, none, m34, m35, false, 0, m36, false, []⟩ : Zm)]).length) ((([] : List Zm) ++ [(⟨(⟨0, ((([] : List Zm).length : Int) + 1), Z8 (ofT 0 ((([] : List Zm).length : Int) + 1) Zd ([97])), ([97]).length, 1000 + 0, Z9 (Zc ([]) (⟨1000 + 0, Z2 (⟨0, ((([] : List Zm).length : Int) + 1), Z8 (ofT 0 ((([] : List Zm).length : Int) + 1) Zd ([97])), ([97]).length, 0, 0⟩ : Z0)⟩ : Z6)) (⟨1000 + 0, Z2 (⟨0, ((([] : List Zm).length : Int) + 1), Z8 (ofT 0 ((([] : List Zm).length : Int) + 1) Zd ([97])), ([97]).length, 0, 0⟩ : Z0)⟩ : Z6)⟩ : Z0), a31, c32, ([97]), Zd, m33, none, m34, m35, false, 0, m36, false, []⟩ : Zm)]).flatMap Zg), Z5 b3 108 ([(.map (some m4))] : List Value), Zh m4 Zb (Value.int .i64) (Zj (Zc ([]) (⟨1000 + 0, Z2 (⟨0, ((([] : List Zm).length : Int) + 1), Z8 (ofT 0 ((([] : List Zm).length : Int) + 1) Zd ([97])), ([97]).length, 0, 0⟩ : Z0)⟩ : Z6))), Zy (.slice (some ⟨b20, 0, none⟩) 1 1) ([97]), Zh m33 (Value.int .i64) Z0c [], Zh m34 (Value.int .i64) Value.bool [], Zh m35 (Value.int .i64) rcV [], Zh m36 (Value.int .i64) ZU [], Ze 5 1 (.slice a31 (([97]).length) c32) (([97]).length) (([97]).flatMap Zl), Ze 82 295 (.slice a37 D39.length c38) D39.length (D39.flatMap Z01), Z0G B40]) (R := [Za w (fun _ => False)]) H26 [3, 4, 1, 2, 5] [0] (by decide) (by kernel_rfl) rfl T43).pick [12, 2, 3, 0, 1, 4, 5, 6, 7, 8, 9, 10, 11] (by decide)
 refine ⟨_, rfl, ?_⟩
 refine hK27 _ _ ?_
 clear hK27 K27
 refine Z4 (Z3 rfl) (d := 21) (v := (.tuple #[(.slice a37 D39.length c38), (.int .i64 (0))])) rfl (by kernel_rfl) ?_
 refine Z4 (Z3 rfl) (d := 27) (v := (.slice a37 D39.length c38)) rfl (by kernel_rfl) ?_
 refine Z4 (Z3 rfl) (d := 28) (v := (.int .i64 (0))) rfl (by kernel_rfl) ?_
 refine Z4 (Z3 rfl) (d := 4) (v := (.slice a37 D39.length c38)) rfl (by kernel_rfl) ?_
 refine Z4 (Z3 rfl) (d := 5) (v := (.int .i64 (0))) rfl (by kernel_rfl) ?_
 refine Zn ?_
 refine Z7 ?_
 refine Zf ?_
 refine Zr ?_
 refine Z4 (Z3 rfl) (d := 29) (v := (.int .i64 (0))) rfl (by kernel_rfl) ?_
 refine Z4 (Z3 rfl) (d := 30) (v := (.bool true)) rfl (by kernel_rfl) ?_
 refine Z4 (Z3 rfl) (d := 31) (v := (.bool true)) rfl (by kernel_rfl) ?_
 refine Z4 (Zo 2 31 true rfl (by kernel_rfl) rfl (by kernel_rfl)) (d := 32) (v := (.slice a37 D39.length c38)) rfl (by kernel_rfl) ?_
 refine Z4 (Zo 2 31 true rfl (by kernel_rfl) rfl (by kernel_rfl)) (d := 33) (v := (.int .i64 ((D39.length : Int)))) rfl (by kernel_rfl) ?_
 refine Z4 (Zo 2 31 true rfl (by kernel_rfl) rfl (by kernel_rfl)) (d := 34) (v := (.bool (decide ((D39.length : Int) = 4)))) rfl (by kernel_rfl) ?_
 refine Z4 (Z3 rfl) (d := 35) (v := (.bool (decide ((D39.length : Int) = 4)))) rfl (by kernel_rfl) ?_
 refine Z4 (Z3 rfl) (d := 36) (v := (.bool (decide ((D39.length : Int) = 4)))) rfl (by kernel_rfl) ?_
 have b45 : (decide ((D39.length : Int) = 4)) = true := by exact decide_eq_true (by omega)
 refine ZZ 36 (.bool true) (congrArg Value.bool b45) ?_
 have g46 := of_decide_eq_true b45
 refine Z4 (Zo 7 36 true rfl (by kernel_rfl) rfl (by kernel_rfl)) (d := 37) (v := (.slice a37 D39.length c38)) rfl (by kernel_rfl) ?_
 obtain ⟨g47, c48, e49⟩ := Z1b (H44.at 11 rfl) (by omega)
 obtain ⟨x50, h51⟩ := Z51 (show 0 < D39.length by omega)
 refine Z4 (Zo 7 36 true rfl (by kernel_rfl) rfl (by kernel_rfl)) (d := 38) (v := (.pointer (some ⟨g47, 0 + ((0 : Int)).toNat * 295, none⟩))) rfl (Z11 (E := 82) (by kernel_rfl) (by kernel_rfl) (Nat.le_of_ble_eq_true rfl) rfl e49 rfl (by omega) (by omega)) ?_
 refine Z4 (Zo 7 36 true rfl (by kernel_rfl) rfl (by kernel_rfl)) (d := 39) (v := (.pointer (some ⟨g47, 0 + ((0 : Int)).toNat * 295, none⟩))) rfl (by kernel_rfl) ?_
 refine Z4 (Zo 7 36 true rfl (by kernel_rfl) rfl (by kernel_rfl)) (d := 40) (v := (.int .i64 (x50.k))) rfl (Zi rfl (by kernel_rfl) (Z0f (H44.at 11 rfl) e49 Z1S h51 0 rfl (show 0 + ((0 : Int)).toNat * 295 = 0 * 295 + 0 by omega) (by kernel_rfl))) ?_
 refine Z4 (Zo 7 36 true rfl (by kernel_rfl) rfl (by kernel_rfl)) (d := 41) (v := (.bool (decide (x50.k = 1)))) rfl (by kernel_rfl) ?_
 refine Z4 (Z3 rfl) (d := 42) (v := (.bool (decide (x50.k = 1)))) rfl (by kernel_rfl) ?_
 refine Z4 (Z3 rfl) (d := 43) (v := (.bool (decide (x50.k = 1)))) rfl (by kernel_rfl) ?_
 have b52 : (decide (x50.k = 1)) = true := by exact decide_eq_true (Z2W o42 h51).k
 refine ZZ 43 (.bool true) (congrArg Value.bool b52) ?_
 have g53 := of_decide_eq_true b52
 refine Z4 (Zo 14 43 true rfl (by kernel_rfl) rfl (by kernel_rfl)) (d := 44) (v := (.pointer (some ⟨c12, 0, none⟩))) rfl (by kernel_rfl) ?_
 refine ZG (Zo 14 43 true rfl (by kernel_rfl) rfl (by kernel_rfl)) (fun K54 hK54 => ?_)
 refine ZI (d := 45) rfl (by kernel_rfl) (Z1z w28 c12 b3 c30 (some ⟨g29, 0, none⟩) 1 1 0 ([] ++ [(⟨(⟨0, ((([] : List Zm).length : Int) + 1), Z8 (ofT 0 ((([] : List Zm).length : Int) + 1) Zd ([97])), ([97]).length, 1000 + 0, Z9 (Zc ([]) (⟨1000 + 0, Z2 (⟨0, ((([] : List Zm).length : Int) + 1), Z8 (ofT 0 ((([] : List Zm).length : Int) + 1) Zd ([97])), ([97]).length, 0, 0⟩ : Z0)⟩ : Z6)) (⟨1000 + 0, Z2 (⟨0, ((([] : List Zm).length : Int) + 1), Z8 (ofT 0 ((([] : List Zm).length : Int) + 1) Zd ([97])), ([97]).length, 0, 0⟩ : Z0)⟩ : Z6)⟩ : Z0), a31, c32, ([97]), Zd, m33, none, m34, m35, false, 0, m36, false, []⟩ : Zm)]) (H44.at 3 rfl)) ?_
 rintro _ w55 ⟨rfl, u57⟩
 have H56 := H44.keepU u57
 refine ⟨_, rfl, ?_⟩
 refine hK54 _ _ ?_
 clear hK54 K54
 refine Z4 (Zo 14 43 true rfl (by kernel_rfl) rfl (by kernel_rfl)) (d := 46) (v := (.bool true)) rfl (by kernel_rfl) ?_
 refine Z4 (Z3 rfl) (d := 47) (v := (.bool true)) rfl (by kernel_rfl) ?_
 refine Z4 (Z3 rfl) (d := 0) (v := (.bool true)) rfl (by kernel_rfl) ?_
 refine Zn ?_
 refine Z7 ?_
 refine ZY ?_
 refine Z0Q rfl (ZM (v := (.bool true)) rfl) ?_
 exact ⟨rfl, H56.upd 0 rfl [] (fun _ h => h.elim)⟩
end Go.Proofs.YtgigjkjdmalmaaaGreat
