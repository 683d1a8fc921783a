/- WHAT IS PROVED: contracts and plain laws of OpenC10, ActD, OpenA11, Dt16, ArrB, BatA. Conditions: stated with each. -/
import Derived.Laws.MakeOwn
import Derived.Test.YtoaifondpohniaaGreatPL05
import Derived.Test.YtoaifondpohniaaGreatPL06
import Derived.Test.YtoaifondpohniaaGreatPL09
import Derived.Test.YtoaifondpohniaaGreatPL10
import Derived.Test.YtoaifondpohniaaGreatPL13
import Derived.Test.YtoaifondpohniaaGreatPL17
set_option maxHeartbeats 4000000
set_option maxRecDepth 100000
namespace Go.Proofs.YtoaifondpohniaaGreat
open Go.ChangeShapes Go.WideShapes Go.ChangeAt Go.RowKit Go.Deep
section
variable {H : Type} {enc : TypeId × Value → H} {W : World}
theorem Z2F {P : Program} {t : TypeId} {fs : Array Field} {n : Nat} {cs : List Value} {y : DataW H × List MemPlace} (ht : P.underlying t = some (.struct fs)) (h : DataW.trod enc P W 0 (fun _ => true) true n t cs = some y) :
  cs.length = P.cellsOf t ∧ ∃ m, ∀ (i : Nat) (g : Field), fs[i]? = some g → ∃ z, DataW.trod enc P W 0 (fun _ => true) true m g.type ((cs.drop g.offset).take (P.cellsOf g.type)) = some z := by
 obtain ⟨xs, m, _, _, hl, hx, hf⟩ := DataW.trod_struct ht h
 refine ⟨hl, m, fun i g hg => ?_⟩
 have h1 := hf i g hg
 have hi : i < xs.length := by
  rw [hx]
  obtain ⟨h, _⟩ := Array.getElem?_eq_some_iff.1 hg
  exact h
 rw [List.getElem?_eq_getElem hi] at h1
 exact ⟨_, h1⟩
theorem Z0w {cs A rest : List Value} {o n : Nat} (h : (cs.drop o).take n = A) (hr : cs.drop (o + n) = rest) : cs.drop o = A ++ rest := by
 rw [← h, ← hr, ← List.drop_drop, List.take_append_drop]
theorem Z4m {cs : List Value} {n : Nat} (h : cs.length = n) : cs.drop n = [] := by rw [← h, List.drop_length]
theorem Z6F {t i : TypeId} {f g : Field} {n : Nat} {cs : List Value} {y : DataW H × List MemPlace} (ht : Tryz.prog.underlying t = some (.struct #[f, g])) (hi : Tryz.prog.underlying i = some (.int .i64)) (hf : f.type = i) (hg : g.type = i) (of : f.offset = 0) (og : g.offset = 1) (hc : Tryz.prog.cellsOf i = 1) (hn : Tryz.prog.cellsOf t = 2)
  (h : DataW.trod enc Tryz.prog W 0 (fun _ => true) true n t cs = some y) : ∃ a b : Int, cs = [.int .i64 a, .int .i64 b] ∧ (-9223372036854775808 ≤ a ∧ a ≤ 9223372036854775807) ∧ (-9223372036854775808 ≤ b ∧ b ≤ 9223372036854775807) := by
 obtain ⟨hl, m, hq⟩ := Z2F ht h
 obtain ⟨z0, h0⟩ := hq 0 _ rfl
 obtain ⟨z1, h1⟩ := hq 1 _ rfl
 simp only [List.getElem_toArray, List.getElem_cons_zero, List.getElem_cons_succ, hf, hg, of, og, hc] at h0 h1
 obtain ⟨a, e0, w0⟩ := Z0G (k := .i64) hi h0
 obtain ⟨b, e1, w1⟩ := Z0G (k := .i64) hi h1
 refine ⟨a, b, ?_, Z9k w0, Z9k w1⟩
 have := Z0w e0 (Z0w e1 (Z4m (hl.trans hn)))
 simpa using this
theorem Z4S {n : Nat} {cs : List Value} {y : DataW H × List MemPlace} (h : DataW.trod enc Tryz.prog W 0 (fun _ => true) true n 24 cs = some y) : ∃ a b : Int, cs = [.int .i64 a, .int .i64 b] ∧ (-9223372036854775808 ≤ a ∧ a ≤ 9223372036854775807) ∧ (-9223372036854775808 ≤ b ∧ b ≤ 9223372036854775807) :=
 Z6F Tryz.underlying24 Tryz.underlying3 rfl rfl rfl rfl (by kernel_rfl) (by kernel_rfl) h
theorem Z7U {n : Nat} {cs : List Value} {y : DataW H × List MemPlace} (h : DataW.trod enc Tryz.prog W 0 (fun _ => true) true n 29 cs = some y) : ∃ a b : Int, cs = [.int .i64 a, .int .i64 b] ∧ (-9223372036854775808 ≤ a ∧ a ≤ 9223372036854775807) ∧ (-9223372036854775808 ≤ b ∧ b ≤ 9223372036854775807) :=
 Z6F Tryz.underlying29 Tryz.underlying3 rfl rfl rfl rfl (by kernel_rfl) (by kernel_rfl) h
end
end Go.Proofs.YtoaifondpohniaaGreat
namespace Go.Proofs.YtoaifondpohniaaGreat
open Go.RowKit
structure Z9m where
 d : Int
 f : Int
 t : Int
 u : Int
 n : NmD
 ta : Option Addr
 tc : Nat
 xs : List Int
 X : CeR
def ac0 : Z9m := ⟨0, 0, 0, 0, nm0, none, 0, [], ce0⟩
def Z6W (a : Z9m) : List Value := [.int .i64 a.d, .int .i64 a.f, .int .u64 a.t, .int .u64 a.u, .int .i64 a.n.cl, .int .i64 a.n.sq, .slice a.ta a.xs.length a.tc] ++ Z03 a.X
theorem Z5z (a : Z9m) : (Z6W a).length = 45 := by unfold Z6W; rw [List.length_append, Z0l]; rfl
end Go.Proofs.YtoaifondpohniaaGreat
namespace Go.Proofs.YtoaifondpohniaaGreat
open Go.ChangeShapes Go.WideShapes Go.ChangeAt Go.RowKit Go.Deep
section
variable {H : Type} {enc : TypeId × Value → H} {W : World}
end
end Go.Proofs.YtoaifondpohniaaGreat

namespace Go.Proofs.YtoaifondpohniaaGreat
open Go.RowKit
section
variable {g T n : Nat} {A : List Bool} {w w0 w' : World} {G : List Ck}
end
section
variable {P : Program} {n : Nat} {f : Nat → Value} {w w0 : World} {dst : Option Tmp} {ty : TypeId} {pos : String} {aft : Array Edge} {gd : Option (Nat × Bool)} {K : Act → World → Prop} {Q : Exit → Act → World → Prop} {G : List Ck}
end
section
variable {κ ν : Type} [DecidableEq κ] {P : Program} {n : Nat} {f : Nat → Value} {w w0 : World} {dst : Option Tmp} {ty : TypeId} {pos : String} {aft : Array Edge} {gd : Option (Nat × Bool)} {Q : Exit → Act → World → Prop} {G : List Ck} {T kt et : TypeId} {b : Nat} {encK : κ → Value} {encV : ν → Value} {l : List (κ × ν)}
end
theorem Z7r (a : Bool) : ∀ (es : List MapEntry) (ks : List Bool) (n : Nat), es.map (·.key) = ks.map Value.bool →
  Instr.findNow .bool (.bool a) es n = some ((ks.idxOf? a).bind fun i => (es[i]?).map fun e => (n + i, e.val)) := by
 intro es
 induction es with
 | nil => intro ks n h; cases ks <;> simp_all [Instr.findNow]
 | cons e es ih =>
  intro ks n h
  cases ks with
  | nil => simp at h
  | cons x ks =>
   simp only [List.map_cons, List.cons.injEq] at h
   obtain ⟨h1, h2⟩ := h
   by_cases hax : a = x
   ·subst hax
    simp [Instr.findNow, h1, Instr.sameNow, List.idxOf?_cons]
   ·have hx : (x == a) = false := by simp; exact fun h => hax h.symm
    have hx' : (a == x) = false := by simpa using hax
    simp only [Instr.findNow, h1, Instr.sameNow, hx', ih ks (n + 1) h2, List.idxOf?_cons, hx, Bool.false_eq_true, if_false]
    cases hi : ks.idxOf? a with
    | none => simp
    | some i => simp [Nat.add_assoc, Nat.add_comm 1 i]
theorem KeyTy.bool {P : Program} {k : TypeId} (hk : P.underlying k = some .bool) : KeyTy P k Value.bool where
 check w em a := MapKept.run_checkKey (d := .bool) hk (by simp [MapKept.IsKey]) em 9999
 find w a es ks h := by
  simp [Instr.findKey, run_underlying hk, Z7r a es ks 0 h]
 same a := by simp [Instr.sameBits]
theorem Z1t (w : World) (v n : Int) (hn : n ≤ 4611686018427387904) :
  Calls Tryz.prog 8 #[(.int .i64 (v)), (.int .i64 (n))] w fun e w' => e = .returned (.int .i64 (Z3 v n)) ∧ Upd [] w w' := by
 have H := Sat.start0 w
 refine Zh Tryz.func8 rfl 17 rfl (Nat.le_of_ble_eq_true rfl) ?_
 refine Zd ?_
 refine Zq ?_
 refine Z2 (Z1 rfl) (d := 4) (v := (.int .i64 (0))) rfl (by kernel_rfl) ?_
 refine Zn ?_
 refine Z4 ?_
 refine Zd ?_
 refine Zd ?_
 refine Zq ?_
 refine Z2 (Z1 rfl) (d := 6) (v := (.int .i64 (n))) rfl (by kernel_rfl) ?_
 refine Z2 (Z1 rfl) (d := 7) (v := (.bool (decide (n < 1)))) rfl (by kernel_rfl) ?_
 refine Zn ?_
 refine Z4 ?_
 refine (Zr (decide (n < 1))).elim (fun b1 => ?_) (fun b1 => ?_)
 ·have g2 := of_decide_eq_true b1
  refine Zl 7 (.bool true) (congrArg Value.bool b1) ?_
  refine Z0S rfl ?_
  refine Zd ?_
  refine Zq ?_
  refine Z2 (Z1 rfl) (d := 4) (v := (.int .i64 (0))) rfl (by kernel_rfl) ?_
  refine Zn ?_
  refine Z4 ?_
  refine ZI ?_
  refine ZG ?_
  refine Z2e rfl (ZT (v := (.int .i64 (0))) rfl) ?_
  exact ⟨by unfold Z3; rw [if_pos (of_decide_eq_true b1)], H.upd 0 rfl [] (fun _ h => h.elim)⟩
 ·have g3 := of_decide_eq_false b1
  refine Zl 7 (.bool false) (congrArg Value.bool b1) ?_
  refine Z1g rfl ?_
  refine ZW ?_
  refine Z4 ?_
  refine Zd ?_
  refine Zq ?_
  refine Z2 (Z1 rfl) (d := 8) (v := (.int .i64 (v))) rfl (by kernel_rfl) ?_
  refine Z2 (Z1 rfl) (d := 9) (v := (.int .i64 (n))) rfl (by kernel_rfl) ?_
  refine Z2 (Z1 rfl) (d := 10) (v := (.int .i64 (Int.tmod v n))) rfl (Zc1 (by kernel_rfl) (by omega)) ?_
  refine Z2 (Z1 rfl) (d := 5) (v := (.int .i64 (Int.tmod v n))) rfl (by kernel_rfl) ?_
  refine Zn ?_
  refine Z4 ?_
  refine Zd ?_
  refine Zd ?_
  refine Zq ?_
  refine Z2 (Z1 rfl) (d := 11) (v := (.int .i64 (Int.tmod v n))) rfl (by kernel_rfl) ?_
  refine Z2 (Z1 rfl) (d := 12) (v := (.bool (decide ((Int.tmod v n) < 0)))) rfl (by kernel_rfl) ?_
  refine Zn ?_
  refine Z4 ?_
  refine (Zr (decide ((Int.tmod v n) < 0))).elim (fun b4 => ?_) (fun b4 => ?_)
  ·have g5 := of_decide_eq_true b4
   refine Zl 12 (.bool true) (congrArg Value.bool b4) ?_
   refine Z0S rfl ?_
   refine Zq ?_
   refine Z2 (Z1 rfl) (d := 13) (v := (.int .i64 (Int.tmod v n))) rfl (by kernel_rfl) ?_
   refine Z2 (Z1 rfl) (d := 14) (v := (.int .i64 (n))) rfl (by kernel_rfl) ?_
   refine Z2 (Z1 rfl) (d := 15) (v := (.int .i64 ((Int.tmod v n) + n))) rfl (Z0n (z := (Int.tmod v n) + n) (by kernel_rfl) (IntWalk.i64_in _ (by have := Z9g v n (by omega); omega))) ?_
   refine Z2 (Z1 rfl) (d := 5) (v := (.int .i64 ((Int.tmod v n) + n))) rfl (by kernel_rfl) ?_
   refine Zn ?_
   refine Z4 ?_
   refine Zd ?_
   refine Zq ?_
   refine Z2 (Z1 rfl) (d := 16) (v := (.int .i64 ((Int.tmod v n) + n))) rfl (by kernel_rfl) ?_
   refine Z2 (Z1 rfl) (d := 4) (v := (.int .i64 ((Int.tmod v n) + n))) rfl (by kernel_rfl) ?_
   refine Zn ?_
   refine Z4 ?_
   refine ZI ?_
   refine Z2e rfl (ZT (v := (.int .i64 ((Int.tmod v n) + n))) rfl) ?_
   exact ⟨by unfold Z3; rw [if_neg (of_decide_eq_false b1), Z7Z v n (by have := of_decide_eq_false b1; omega), if_pos (of_decide_eq_true b4)], H.upd 0 rfl [] (fun _ h => h.elim)⟩
  ·have g6 := of_decide_eq_false b4
   refine Zl 12 (.bool false) (congrArg Value.bool b4) ?_
   refine Z1g rfl ?_
   refine ZW ?_
   refine Z4 ?_
   refine Zd ?_
   refine Zq ?_
   refine Z2 (Z1 rfl) (d := 16) (v := (.int .i64 (Int.tmod v n))) rfl (by kernel_rfl) ?_
   refine Z2 (Z1 rfl) (d := 4) (v := (.int .i64 (Int.tmod v n))) rfl (by kernel_rfl) ?_
   refine Zn ?_
   refine Z4 ?_
   refine ZI ?_
   refine Z2e rfl (ZT (v := (.int .i64 (Int.tmod v n))) rfl) ?_
   exact ⟨by unfold Z3; rw [if_neg (of_decide_eq_false b1), Z7Z v n (by have := of_decide_eq_false b1; omega), if_neg (of_decide_eq_false b4)], H.upd 0 rfl [] (fun _ h => h.elim)⟩
theorem wN_any (w : World) (f c : Int) (hf : -1099511627776 ≤ f ∧ f ≤ 1099511627776) :
  Calls Tryz.prog 80 #[(.agg ⟨([(.int .i64 (f)), (.int .i64 (c))] : List Value)⟩)] w fun e w' => e = .returned (.int .i64 (3 * f + 1)) ∧ Upd [] w w' := by
 have H := Sat.start0 w
 refine Zh Tryz.func80 rfl 7 rfl (Nat.le_of_ble_eq_true rfl) ?_
 refine Zd ?_
 refine Zq ?_
 refine Z07 (Z1 rfl) (fun K1 hK1 => ?_)
 refine Z34 (vs := ([(.int .i64 (f)), (.int .i64 (c))] : List Value)) rfl H rfl rfl ?_
 intro b2 w3 (H4 : Sat w [Z7 w (fun _ => False), Z0 b2 36 ([(.int .i64 (f)), (.int .i64 (c))] : List Value)] w3)
 refine hK1 _ _ ?_
 clear hK1 K1
 refine Z2 (Z1 rfl) (d := 2) (v := (.int .i64 (0))) rfl (by kernel_rfl) ?_
 refine Zn ?_
 refine Z4 ?_
 refine Zd ?_
 refine Zq ?_
 refine Z2 (Z1 rfl) (d := 3) (v := (.pointer (some ⟨b2, 0, none⟩))) rfl (by kernel_rfl) ?_
 refine Z2 (Z1 rfl) (d := 4) (v := (.int .i64 (f))) rfl (Z8 rfl (by kernel_rfl) (H4.cell 1 rfl rfl)) ?_
 refine Z2 (Z1 rfl) (d := 5) (v := (.int .i64 (3 * f))) rfl (Z0n (z := 3 * f) (by kernel_rfl) (IntWalk.i64_in _ (by omega))) ?_
 refine Z2 (Z1 rfl) (d := 6) (v := (.int .i64 ((3 * f) + 1))) rfl (Z0n (z := (3 * f) + 1) (by kernel_rfl) (IntWalk.i64_in _ (by omega))) ?_
 refine Z2 (Z1 rfl) (d := 2) (v := (.int .i64 ((3 * f) + 1))) rfl (by kernel_rfl) ?_
 refine Zn ?_
 refine Z4 ?_
 refine ZI ?_
 refine Z2e rfl (ZT (v := (.int .i64 ((3 * f) + 1))) rfl) ?_
 exact ⟨rfl, H4.upd 0 rfl [] (fun _ h => h.elim)⟩
theorem wQ_any (w : World) (f c : Int) (hf : -1099511627776 ≤ f ∧ f ≤ 1099511627776) :
  Calls Tryz.prog 90 #[(.agg ⟨([(.int .i64 (f)), (.int .i64 (c))] : List Value)⟩)] w fun e w' => e = .returned (.int .i64 (2 * f + 1)) ∧ Upd [] w w' := by
 have H := Sat.start0 w
 refine Zh Tryz.func90 rfl 7 rfl (Nat.le_of_ble_eq_true rfl) ?_
 refine Zd ?_
 refine Zq ?_
 refine Z07 (Z1 rfl) (fun K1 hK1 => ?_)
 refine Z34 (vs := ([(.int .i64 (f)), (.int .i64 (c))] : List Value)) rfl H rfl rfl ?_
 intro b2 w3 (H4 : Sat w [Z7 w (fun _ => False), Z0 b2 36 ([(.int .i64 (f)), (.int .i64 (c))] : List Value)] w3)
 refine hK1 _ _ ?_
 clear hK1 K1
 refine Z2 (Z1 rfl) (d := 2) (v := (.int .i64 (0))) rfl (by kernel_rfl) ?_
 refine Zn ?_
 refine Z4 ?_
 refine Zd ?_
 refine Zq ?_
 refine Z2 (Z1 rfl) (d := 3) (v := (.pointer (some ⟨b2, 0, none⟩))) rfl (by kernel_rfl) ?_
 refine Z2 (Z1 rfl) (d := 4) (v := (.int .i64 (f))) rfl (Z8 rfl (by kernel_rfl) (H4.cell 1 rfl rfl)) ?_
 refine Z2 (Z1 rfl) (d := 5) (v := (.int .i64 (2 * f))) rfl (Z0n (z := 2 * f) (by kernel_rfl) (IntWalk.i64_in _ (by omega))) ?_
 refine Z2 (Z1 rfl) (d := 6) (v := (.int .i64 ((2 * f) + 1))) rfl (Z0n (z := (2 * f) + 1) (by kernel_rfl) (IntWalk.i64_in _ (by omega))) ?_
 refine Z2 (Z1 rfl) (d := 2) (v := (.int .i64 ((2 * f) + 1))) rfl (by kernel_rfl) ?_
 refine Zn ?_
 refine Z4 ?_
 refine ZI ?_
 refine Z2e rfl (ZT (v := (.int .i64 ((2 * f) + 1))) rfl) ?_
 exact ⟨rfl, H4.upd 0 rfl [] (fun _ h => h.elim)⟩
theorem ZaY (w : World) (f c : Int) (hf : -1099511627776 ≤ f ∧ f ≤ 1099511627776) :
  Calls Tryz.prog 51 #[(.agg ⟨([(.int .i64 (f)), (.int .i64 (c))] : List Value)⟩)] w fun e w' => e = .returned (.int .i64 (3 * f + 1)) ∧ Upd [] w w' := by
 have H := Sat.start0 w
 refine Zh Tryz.func51 rfl 7 rfl (Nat.le_of_ble_eq_true rfl) ?_
 refine Zd ?_
 refine Zq ?_
 refine Z07 (Z1 rfl) (fun K1 hK1 => ?_)
 refine Z34 (vs := ([(.int .i64 (f)), (.int .i64 (c))] : List Value)) rfl H rfl rfl ?_
 intro b2 w3 (H4 : Sat w [Z7 w (fun _ => False), Z0 b2 36 ([(.int .i64 (f)), (.int .i64 (c))] : List Value)] w3)
 refine hK1 _ _ ?_
 clear hK1 K1
 refine Z2 (Z1 rfl) (d := 2) (v := (.int .i64 (0))) rfl (by kernel_rfl) ?_
 refine Zn ?_
 refine Z4 ?_
 refine Zd ?_
 refine Zq ?_
 refine Z2 (Z1 rfl) (d := 3) (v := (.pointer (some ⟨b2, 0, none⟩))) rfl (by kernel_rfl) ?_
 refine Z2 (Z1 rfl) (d := 4) (v := (.int .i64 (f))) rfl (Z8 rfl (by kernel_rfl) (H4.cell 1 rfl rfl)) ?_
 refine Z2 (Z1 rfl) (d := 5) (v := (.int .i64 (3 * f))) rfl (Z0n (z := 3 * f) (by kernel_rfl) (IntWalk.i64_in _ (by omega))) ?_
 refine Z2 (Z1 rfl) (d := 6) (v := (.int .i64 ((3 * f) + 1))) rfl (Z0n (z := (3 * f) + 1) (by kernel_rfl) (IntWalk.i64_in _ (by omega))) ?_
 refine Z2 (Z1 rfl) (d := 2) (v := (.int .i64 ((3 * f) + 1))) rfl (by kernel_rfl) ?_
 refine Zn ?_
 refine Z4 ?_
 refine ZI ?_
 refine Z2e rfl (ZT (v := (.int .i64 ((3 * f) + 1))) rfl) ?_
 exact ⟨rfl, H4.upd 0 rfl [] (fun _ h => h.elim)⟩
theorem Zb1 (w : World) (f c : Int) (hf : -1099511627776 ≤ f ∧ f ≤ 1099511627776) :
  Calls Tryz.prog 37 #[(.agg ⟨([(.int .i64 (f)), (.int .i64 (c))] : List Value)⟩)] w fun e w' => e = .returned (.int .i64 (2 * f + 1)) ∧ Upd [] w w' := by
 have H := Sat.start0 w
 refine Zh Tryz.func37 rfl 7 rfl (Nat.le_of_ble_eq_true rfl) ?_
 refine Zd ?_
 refine Zq ?_
 refine Z07 (Z1 rfl) (fun K1 hK1 => ?_)
 refine Z34 (vs := ([(.int .i64 (f)), (.int .i64 (c))] : List Value)) rfl H rfl rfl ?_
 intro b2 w3 (H4 : Sat w [Z7 w (fun _ => False), Z0 b2 36 ([(.int .i64 (f)), (.int .i64 (c))] : List Value)] w3)
 refine hK1 _ _ ?_
 clear hK1 K1
 refine Z2 (Z1 rfl) (d := 2) (v := (.int .i64 (0))) rfl (by kernel_rfl) ?_
 refine Zn ?_
 refine Z4 ?_
 refine Zd ?_
 refine Zq ?_
 refine Z2 (Z1 rfl) (d := 3) (v := (.pointer (some ⟨b2, 0, none⟩))) rfl (by kernel_rfl) ?_
 refine Z2 (Z1 rfl) (d := 4) (v := (.int .i64 (f))) rfl (Z8 rfl (by kernel_rfl) (H4.cell 1 rfl rfl)) ?_
 refine Z2 (Z1 rfl) (d := 5) (v := (.int .i64 (2 * f))) rfl (Z0n (z := 2 * f) (by kernel_rfl) (IntWalk.i64_in _ (by omega))) ?_
 refine Z2 (Z1 rfl) (d := 6) (v := (.int .i64 ((2 * f) + 1))) rfl (Z0n (z := (2 * f) + 1) (by kernel_rfl) (IntWalk.i64_in _ (by omega))) ?_
 refine Z2 (Z1 rfl) (d := 2) (v := (.int .i64 ((2 * f) + 1))) rfl (by kernel_rfl) ?_
 refine Zn ?_
 refine Z4 ?_
 refine ZI ?_
 refine Z2e rfl (ZT (v := (.int .i64 ((2 * f) + 1))) rfl) ?_
 exact ⟨rfl, H4.upd 0 rfl [] (fun _ h => h.elim)⟩
theorem Zbe (w : World) (f c r : Int) (hf : -1099511627776 ≤ f ∧ f ≤ 1099511627776) :
  Calls Tryz.prog 48 #[(.agg ⟨([(.int .i64 (f)), (.int .i64 (c))] : List Value)⟩), (.int .i64 (r))] w fun e w' => e = .returned (.bool (inB f r)) ∧ Upd [] w w' := by
 have H := Sat.start0 w
 refine Zh Tryz.func48 rfl 13 rfl (Nat.le_of_ble_eq_true rfl) ?_
 refine Zd ?_
 refine Zq ?_
 refine Z07 (Z1 rfl) (fun K1 hK1 => ?_)
 refine Z34 (vs := ([(.int .i64 (f)), (.int .i64 (c))] : List Value)) rfl H rfl rfl ?_
 intro b2 w3 (H4 : Sat w [Z7 w (fun _ => False), Z0 b2 36 ([(.int .i64 (f)), (.int .i64 (c))] : List Value)] w3)
 refine hK1 _ _ ?_
 clear hK1 K1
 refine Z2 (Z1 rfl) (d := 4) (v := (.bool false)) rfl (by kernel_rfl) ?_
 refine Zn ?_
 refine Z4 ?_
 refine Z0A [4, 5, 6, 7, 8, 9, 10, 11, 12] (fun G_ W_ => G_ 4 = (.bool (inB f r)) ∧ Sat w [Z7 w (fun _ => False), Z0 b2 36 ([(.int .i64 (f)), (.int .i64 (c))] : List Value)] W_) ?_ ?_
 ·refine Zq ?_
  refine Z2 (Z1 rfl) (d := 5) (v := (.int .i64 (r))) rfl (by kernel_rfl) ?_
  refine Z2 (Z1 rfl) (d := 6) (v := (.bool (decide (r ≥ 0)))) rfl (by kernel_rfl) ?_
  refine Z2 (Z1 rfl) (d := 7) (v := (.bool (decide (r ≥ 0)))) rfl (by kernel_rfl) ?_
  refine (Zr (decide (r ≥ 0))).elim (fun b6 => ?_) (fun b6 => ?_)
  ·have g7 := of_decide_eq_true b6
   refine ZJ 7 (.bool true) (congrArg Value.bool b6) ?_
   refine Z2 (ZD 2 7 true rfl (by kernel_rfl) rfl (by kernel_rfl)) (d := 8) (v := (.int .i64 (r))) rfl (by kernel_rfl) ?_
   refine Z2 (ZD 2 7 true rfl (by kernel_rfl) rfl (by kernel_rfl)) (d := 9) (v := (.agg ⟨([(.int .i64 (f)), (.int .i64 (c))] : List Value)⟩)) rfl (Zi (vs := ([(.int .i64 (f)), (.int .i64 (c))] : List Value)) rfl (by kernel_rfl) (by kernel_rfl) (by exact Nat.le_of_ble_eq_true (by kernel_rfl)) (H4.at 1 rfl) (by kernel_rfl)) ?_
   refine Z07 (ZD 2 7 true rfl (by kernel_rfl) rfl (by kernel_rfl)) (fun K8 hK8 => ?_)
   refine Z0g (d := 10) rfl (by kernel_rfl) (wN_any w3 f c (by omega)) ?_
   rintro _ w9 ⟨rfl, u11⟩
   have H10 := H4.keepU u11
   refine ⟨_, rfl, ?_⟩
   refine hK8 _ _ ?_
   clear hK8 K8
   refine Z2 (ZD 2 7 true rfl (by kernel_rfl) rfl (by kernel_rfl)) (d := 11) (v := (.bool (decide (r < (3 * f + 1))))) rfl (by kernel_rfl) ?_
   refine Z2 (Z1 rfl) (d := 12) (v := (.bool (decide (r < (3 * f + 1))))) rfl (by kernel_rfl) ?_
   refine Z2 (Z1 rfl) (d := 4) (v := (.bool (decide (r < (3 * f + 1))))) rfl (by kernel_rfl) ?_
   refine Zn ?_
   refine ZX ?_ ⟨(congrArg Value.bool (show (decide (r < (3 * f + 1))) = (inB f r) by simp [inB, b6])), H10⟩
   exact (Z5 rfl (Z5 rfl (Z5 rfl (Z5 rfl (Z5 rfl (Z5 rfl (Z5 rfl (Z5 rfl (Z5 rfl (Z5 rfl (Z2o)))))))))))
  ·have g12 := of_decide_eq_false b6
   refine ZJ 7 (.bool false) (congrArg Value.bool b6) ?_
   refine Z0p (Z0i 2 7 true rfl (by kernel_rfl) rfl (by kernel_rfl)) rfl ?_
   refine Z0p (Z0i 2 7 true rfl (by kernel_rfl) rfl (by kernel_rfl)) rfl ?_
   refine Z0p (Z0i 2 7 true rfl (by kernel_rfl) rfl (by kernel_rfl)) rfl ?_
   refine Z0p (Z0i 2 7 true rfl (by kernel_rfl) rfl (by kernel_rfl)) rfl ?_
   refine Z2 (Z1 rfl) (d := 12) (v := (.bool false)) rfl (by kernel_rfl) ?_
   refine Z2 (Z1 rfl) (d := 4) (v := (.bool false)) rfl (by kernel_rfl) ?_
   refine Zn ?_
   refine ZX ?_ ⟨(congrArg Value.bool (show false = (inB f r) by simp [inB, b6])), H4⟩
   exact (Z5 rfl (Z5 rfl (Z5 rfl (Z5 rfl (Z5 rfl (Z5 rfl (Z5 rfl (Z5 rfl (Z5 rfl (Z5 rfl (Z2o)))))))))))
 ·rintro f13 w14 ⟨v16, H15⟩
  refine Zl 4 _ v16 ?_
  refine ZI ?_
  refine Z2e rfl (ZT (v := (.bool (inB f r))) rfl) ?_
  exact ⟨rfl, H15.upd 0 rfl [] (fun _ h => h.elim)⟩
theorem Z97 (w : World) :
  Calls Tryz.prog 36 #[] w fun e w' => ∃ b mb, e = .returned (.pointer (some ⟨b, 0, none⟩)) ∧ (ZL [Z0 b 110 [.map (some mb)], ZQ mb Zz (Value.int .i64) (ZS [])]).ok w' ∧ Upd [] w w' ∧ ∀ q_, (ZL [Z0 b 110 [.map (some mb)], ZQ mb Zz (Value.int .i64) (ZS [])]).fp q_ → w.heap.size ≤ q_ := by
 have H := Sat.start0 w
 refine Zh Tryz.func36 rfl 4 rfl (Nat.le_of_ble_eq_true rfl) ?_
 refine Zd ?_
 refine Zq ?_
 refine Z2 (Z1 rfl) (d := 0) (v := (.pointer none)) rfl (by kernel_rfl) ?_
 refine Zn ?_
 refine Z4 ?_
 refine Zd ?_
 refine Zq ?_
 refine Z07 (Z1 rfl) (fun K1 hK1 => ?_)
 refine Z7n Zz (Value.int .i64) rfl H ?_
 intro b2 w3 (H4 : Sat w [Z7 w (fun _ => False), ZQ b2 Zz (Value.int .i64) []] w3)
 refine hK1 _ _ ?_
 clear hK1 K1
 refine Z2 (Z1 rfl) (d := 2) (v := (.agg ⟨([(.map (some b2))] : List Value)⟩)) rfl (by kernel_rfl) ?_
 refine Z07 (Z1 rfl) (fun K5 hK5 => ?_)
 refine Z34 (vs := ([(.map (some b2))] : List Value)) rfl H4 rfl rfl ?_
 intro b6 w7 (H8 : Sat w [Z7 w (fun _ => False), ZQ b2 Zz (Value.int .i64) [], Z0 b6 110 ([(.map (some b2))] : List Value)] w7)
 refine hK5 _ _ ?_
 clear hK5 K5
 refine Z2 (Z1 rfl) (d := 0) (v := (.pointer (some ⟨b6, 0, none⟩))) rfl (by kernel_rfl) ?_
 refine Zn ?_
 refine Z4 ?_
 refine ZI ?_
 refine Z2e rfl (ZT (v := (.pointer (some ⟨b6, 0, none⟩))) rfl) ?_
 exact ⟨b6, b2, rfl, H8.fin [2, 1] (by decide) rfl, H8.upd 0 rfl [] (fun _ h => h.elim), H8.freshS 0 rfl (fun _ h => h) [2, 1] rfl rfl⟩
theorem ZaQ (w : World) :
  Calls Tryz.prog 7 #[] w fun e w' => ∃ b mb r, e = .returned (.tuple #[.agg #[.pointer (some ⟨b, 0, none⟩), .pointer (some ⟨r, 0, none⟩)], .bool true]) ∧ (ZL [Z0 b 110 [.map (some mb)], ZQ mb Zz (Value.int .i64) (ZS []), Z0 r 98 [.slice none 0 0]]).ok w' ∧ Upd [] w w' ∧ ∀ q_, (ZL [Z0 b 110 [.map (some mb)], ZQ mb Zz (Value.int .i64) (ZS []), Z0 r 98 [.slice none 0 0]]).fp q_ → w.heap.size ≤ q_ := by
 have H := Sat.start0 w
 refine Zh Tryz.func7 rfl 10 rfl (Nat.le_of_ble_eq_true rfl) ?_
 refine Zd ?_
 refine Zq ?_
 refine Z07 (Z1 rfl) (fun K1 hK1 => ?_)
 refine Z2q (zs := ([(.pointer none), (.pointer none)] : List Value)) (z := (.agg ⟨([(.pointer none), (.pointer none)] : List Value)⟩)) rfl H (by kernel_rfl) (by kernel_rfl) ?_
 intro b2 w3 (H4 : Sat w [Z7 w (fun _ => False), Z0 b2 40 ([(.pointer none), (.pointer none)] : List Value)] w3)
 refine hK1 _ _ ?_
 clear hK1 K1
 refine Z2 (Z1 rfl) (d := 1) (v := (.bool false)) rfl (by kernel_rfl) ?_
 refine Zn ?_
 refine Z4 ?_
 refine Zd ?_
 refine Zq ?_
 refine Z07 (Z1 rfl) (fun K5 hK5 => ?_)
 refine Z0g (d := 3) rfl (by kernel_rfl) (Z97 w3) ?_
 rintro _ w6 ⟨b7, m8, rfl, k9, p10, q11⟩
 have H12 : Sat w [Z7 w (fun _ => False), Z0 b2 40 ([(.pointer none), (.pointer none)] : List Value), ZL [Z0 b7 110 [.map (some m8)], ZQ m8 Zz (Value.int .i64) (ZS [])]] w6 := H4.addU p10 k9 q11
 have H13 : Sat w [Z7 w (fun _ => False), Z0 b2 40 ([(.pointer none), (.pointer none)] : List Value), Z0 b7 110 ([(.map (some m8))] : List Value), ZQ m8 Zz (Value.int .i64) (ZS [])] w6 := H12.open 2 rfl
 refine ⟨_, rfl, ?_⟩
 refine hK5 _ _ ?_
 clear hK5 K5
 refine Z2 (Z1 rfl) (d := 2) (v := (.pointer (some ⟨b7, 0, none⟩))) rfl (by kernel_rfl) ?_
 refine Zn ?_
 refine Z4 ?_
 refine Zd ?_
 refine Zq ?_
 refine Z2 (Z1 rfl) (d := 4) (v := (.pointer (some ⟨b7, 0, none⟩))) rfl (by kernel_rfl) ?_
 refine Z2 (Z1 rfl) (d := 5) (v := (.agg ⟨([(.slice none 0 0)] : List Value)⟩)) rfl (by kernel_rfl) ?_
 refine Z07 (Z1 rfl) (fun K14 hK14 => ?_)
 refine Z34 (vs := ([(.slice none 0 0)] : List Value)) rfl H13 rfl rfl ?_
 intro b15 w16 (H17 : Sat w [Z7 w (fun _ => False), Z0 b2 40 ([(.pointer none), (.pointer none)] : List Value), Z0 b7 110 ([(.map (some m8))] : List Value), ZQ m8 Zz (Value.int .i64) (ZS []), Z0 b15 98 ([(.slice none 0 0)] : List Value)] w16)
 refine hK14 _ _ ?_
 clear hK14 K14
 refine Z2 (Z1 rfl) (d := 7) (v := (.agg ⟨([(.pointer (some ⟨b7, 0, none⟩)), (.pointer (some ⟨b15, 0, none⟩))] : List Value)⟩)) rfl (by kernel_rfl) ?_
 refine Z2 (Z1 rfl) (d := 8) (v := (.pointer (some ⟨b7, 0, none⟩))) rfl (by kernel_rfl) ?_
 refine Z2 (Z1 rfl) (d := 9) (v := (.bool true)) rfl (by kernel_rfl) ?_
 refine Z07 (Z1 rfl) (fun K18 hK18 => ?_)
 refine Z2C (vs := ([(.pointer (some ⟨b7, 0, none⟩)), (.pointer (some ⟨b15, 0, none⟩))] : List Value)) rfl H17 1 rfl rfl rfl rfl (by kernel_rfl) (Nat.le_of_ble_eq_true (by kernel_rfl)) (Nat.le_of_ble_eq_true (by kernel_rfl)) (by kernel_rfl) ?_
 intro w19 (H20 : Sat w [Z7 w (fun _ => False), Z0 b2 40 ([(.pointer (some ⟨b7, 0, none⟩)), (.pointer (some ⟨b15, 0, none⟩))] : List Value), Z0 b7 110 ([(.map (some m8))] : List Value), ZQ m8 Zz (Value.int .i64) (ZS []), Z0 b15 98 ([(.slice none 0 0)] : List Value)] w19)
 refine hK18 _ _ ?_
 clear hK18 K18
 refine Z2 (Z1 rfl) (d := 1) (v := (.bool true)) rfl (by kernel_rfl) ?_
 refine Zn ?_
 refine Z4 ?_
 refine ZI ?_
 refine Z4r rfl (ZZ (vs := ([(.pointer (some ⟨b7, 0, none⟩)), (.pointer (some ⟨b15, 0, none⟩))] : List Value)) rfl (by kernel_rfl) (by kernel_rfl) (by exact Nat.le_of_ble_eq_true (by kernel_rfl)) (H20.at 1 rfl) (by kernel_rfl)) (ZT (v := (.bool true)) rfl) ?_
 exact ⟨b7, m8, b15, rfl, H20.fin [2, 3, 4] (by decide) rfl, H20.upd 0 rfl [] (fun _ h => h.elim), H20.freshS 0 rfl (fun _ h => h) [2, 3, 4] rfl rfl⟩
end Go.Proofs.YtoaifondpohniaaGreat
