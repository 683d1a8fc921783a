/- WHAT IS PROVED: contracts and plain laws of EntM, Eqs, Strs, EntE, Dt16, ArrB, BatA. Conditions: stated with each. -/
import Derived.ChangeKeysEq
import Derived.Laws.IdiomStrings
import Derived.Laws.MakeOwn
import Derived.Test.YtoaifondpohniaaGreatPS03
import Derived.Test.YtoaifondpohniaaGreatPS04
import Derived.Test.YtoaifondpohniaaGreatPS05
import Derived.Test.YtoaifondpohniaaGreatPS08
import Derived.Test.YtoaifondpohniaaGreatPS09
import Derived.Test.YtoaifondpohniaaGreatPS12
import Derived.Test.YtoaifondpohniaaGreatPS15
set_option maxHeartbeats 4000000
set_option maxRecDepth 100000
namespace Go.Proofs.YtoaifondpohniaaGreat
open Go.RowKit
def Z5h (x : NmD) : Prop := (0 ≤ x.cl ∧ x.cl < 3) ∧ 1 ≤ x.sq ∧ x.sq ≤ 4
def CeSm (c : CeR) : Prop := Z5h ⟨c.x.cl, c.x.seq⟩ ∧ c.S.length ≤ 12 ∧ Z8G c.S
def nmOf (e : Z8h) : NmD := ⟨e.cl, e.sq⟩
abbrev EMap := List (NmD × Z8h)
section
variable {last tm : Int} {lg : NmD → Bool} {M : EMap} {e : Z8h} {L : List CeR} {c : CeR}
structure EOk (M : EMap) : Prop where
 nd : (M.map (·.1)).Nodup
 nm : ∀ x ∈ M, x.1 = nmOf x.2
 sm : ∀ x ∈ M, Z5h x.1
end
section
variable {κ ν : Type} [DecidableEq κ] {l : List (κ × ν)} {a : κ} {v : ν}
theorem Z6d {y : κ × ν} (h : y ∈ Z21 l a v) : y = (a, v) ∨ y ∈ l := by
 unfold Z21 at h
 split at h
 ·obtain ⟨z, hz, e⟩ := List.mem_map.1 h
  split at e
  ·exact .inl e.symm
  ·exact .inr (e ▸ hz)
 ·rcases List.mem_append.1 h with h | h
  ·exact .inr h
  ·exact .inl (List.mem_singleton.1 h)
theorem Z3M {x : ν} (h : Z7 l a = some x) : (a, x) ∈ l := by
 unfold Z7 at h
 obtain ⟨y, hy, rfl⟩ := Option.map_eq_some_iff.1 h
 have h1 := List.find?_some hy
 have h2 := List.mem_of_find?_eq_some hy
 have h3 : y.1 = a := by simpa using h1
 rw [← h3]; exact h2
theorem Z36 : Z7 l a = none ↔ a ∉ l.map (·.1) := by
 unfold Z7
 rw [Option.map_eq_none_iff, List.find?_eq_none]
 constructor
 ·intro h hm
  obtain ⟨y, hy, rfl⟩ := List.mem_map.1 hm
  exact h y hy (by simp)
 ·intro h y hy he
  have h3 : y.1 = a := by simpa using he
  exact h (h3 ▸ List.mem_map_of_mem hy)
theorem Z72 : (Z21 l a v).map (·.1) = if a ∈ l.map (·.1) then l.map (·.1) else l.map (·.1) ++ [a] := by
 unfold Z21
 split
 ·rw [List.map_map]
  refine List.map_congr_left fun y _ => ?_
  show (if y.1 = a then (a, v) else y).1 = y.1
  split
  ·rename_i e; exact e.symm
  ·rfl
 ·simp
end
theorem Z3H : ∀ (n : Nat) (l : List Nat), l.Nodup → (∀ x ∈ l, x < n) → l.length ≤ n
 | 0, l, _, h => by
  cases l with
  | nil => simp
  | cons x l => exact absurd (h x (by simp)) (Nat.not_lt_zero _)
 | n + 1, l, hn, h => by
  have ih := Z3H n (l.erase n) (hn.erase n) fun x hx => by
   have h1 := (List.Nodup.mem_erase_iff hn).1 hx
   have h2 := h x h1.2
   have := h1.1
   omega
  by_cases hm : n ∈ l
  ·have := List.length_erase_of_mem hm; omega
  ·rw [List.erase_of_not_mem hm] at ih; omega
section
variable {last tm : Int} {lg : NmD → Bool} {M : EMap} {e : Z8h} {L : List CeR} {c : CeR}
theorem EOk.nil : EOk [] := ⟨List.nodup_nil, by simp, by simp⟩
theorem EOk.put (h : EOk M) (hs : Z5h (nmOf e)) : EOk (Z21 M (nmOf e) e) := by
 refine ⟨?_, fun x hx => ?_, fun x hx => ?_⟩
 ·rw [Z72]
  split
  ·exact h.nd
  ·rename_i q
   rw [List.nodup_append]
   exact ⟨h.nd, by simp, fun a ha b hb e => by rw [List.mem_singleton.1 hb] at e; exact q (e ▸ ha)⟩
 ·rcases Z6d hx with rfl | hx
  ·rfl
  ·exact h.nm x hx
 ·rcases Z6d hx with rfl | hx
  ·exact hs
  ·exact h.sm x hx
theorem EOk.len (h : EOk M) : M.length ≤ 12 := by
 have hm := Z3H 12 ((M.map (·.1)).map fun x => (x.cl * 4 + (x.sq - 1)).toNat) ?_ ?_
 ·simpa using hm
 ·rw [List.Nodup, List.pairwise_map]
  refine List.Pairwise.imp_of_mem ?_ h.nd
  intro a b ha hb hne e
  obtain ⟨x, hx, rfl⟩ := List.mem_map.1 ha
  obtain ⟨y, hy, rfl⟩ := List.mem_map.1 hb
  have hx' := h.sm x hx
  have hy' := h.sm y hy
  unfold Z5h at hx' hy'
  apply hne
  have h1 : x.1.cl = y.1.cl := by omega
  have h2 : x.1.sq = y.1.sq := by omega
  cases hx1 : x.1; cases hy1 : y.1
  simp_all
 ·intro z hz
  obtain ⟨a, ha, rfl⟩ := List.mem_map.1 hz
  obtain ⟨x, hx, rfl⟩ := List.mem_map.1 ha
  have := h.sm x hx
  unfold Z5h at this
  omega
theorem EOk.inj (h : EOk M) : ∀ a ∈ M.map (·.2), ∀ b ∈ M.map (·.2), nmOf a = nmOf b → a = b := fun a ha b hb e => by
 obtain ⟨x, hx, rfl⟩ := List.mem_map.1 ha
 obtain ⟨y, hy, rfl⟩ := List.mem_map.1 hb
 have e2 : x.1 = y.1 := by rw [h.nm x hx, h.nm y hy, e]
 obtain ⟨i, hi, hxi⟩ := List.mem_iff_getElem.1 hx
 obtain ⟨j, hj, hyj⟩ := List.mem_iff_getElem.1 hy
 have key : i = j := by
  have hp := List.pairwise_iff_getElem.1 h.nd
  rcases Nat.lt_trichotomy i j with q | q | q
  ·exact absurd (by rw [List.getElem_map, List.getElem_map, hxi, hyj, e2]) (hp i j (by simpa using hi) (by simpa using hj) q)
  ·exact q
  ·exact absurd (by rw [List.getElem_map, List.getElem_map, hxi, hyj, e2]) (hp j i (by simpa using hj) (by simpa using hi) q)
 subst key
 rw [← hxi, ← hyj]
end
section
variable {last tm : Int} {lg : NmD → Bool} {M M' : EMap} {A C : List CeR} {P : List PrR} {i k : Nat} {w : World}
theorem Z55 (h : k < C.length) : C.getD k ce0 ∈ C := by
 rw [List.getD_eq_getElem?_getD, List.getElem?_eq_getElem h]; exact List.getElem_mem h
theorem Z7A (h : i < P.length) : P.getD i pr0 ∈ P := by
 rw [List.getD_eq_getElem?_getD, List.getElem?_eq_getElem h]; exact List.getElem_mem h
def PSm (P : List PrR) : Prop := ∀ p ∈ P, ∀ c ∈ p.C, CeSm c
theorem PSm.at (h : PSm P) (hi : i < P.length) (hk : k < (P.getD i pr0).C.length) : CeSm ((P.getD i pr0).C.getD k ce0) := h _ (Z7A hi) _ (Z55 hk)
theorem PSm.all (h : PSm P) : ∀ c ∈ P.flatMap (·.C), CeSm c := fun c hc => by
 obtain ⟨p, hp, hc⟩ := List.mem_flatMap.1 hc
 exact h p hp c hc
variable {LM : List (NmD × Bool)} {lg : NmD → Bool} {c : CeR} {v : Z8h}
end
section
variable {P : Program} {t : TypeId} {X : Type} [DecidableEq X]
structure Flat (P : Program) (t : TypeId) (enc : X → List Value) : Prop where
 eq : ∀ (w : World) (x y : X), (Op.equalIn 10000 t (.agg ⟨enc x⟩) (.agg ⟨enc y⟩)).run P w = .ok (decide (x = y)) w
 held : P.eqGuardType P.depth t = false
variable {enc : X → List Value}
theorem Flat.e_eq (F : Flat P t enc) {n : Nat} {f : Nat → Value} {w : World} {dst : Option Tmp} {ty : TypeId} {pos : String} {aft : Array Edge} {gd : Option (Nat × Bool)} {x y : Operand} {T : TypeId} (a b : X) (hx : ev n f x = .agg ⟨enc a⟩) (hy : ev n f y = .agg ⟨enc b⟩) :
  (execOp (ev n f) ⟨dst, .binOp .eql t x y T, ty, pos, aft, gd⟩).run P w = .ok (.value (.bool (decide (a = b)))) w := by
 have h : (Op.equalIn 10000 t (.agg ⟨enc a⟩) (.agg ⟨enc b⟩)).run P w = .ok (decide (a = b)) w := F.eq w a b
 simp only [execOp, hx, hy]
 simp only [Sem.run_bind, run_eqGuard_agg w _ _ _ _ _ _ F.held, Result.andThen_ok, run_eql_struct, h, Sem.run_pure]
theorem Flat.e_ne (F : Flat P t enc) {n : Nat} {f : Nat → Value} {w : World} {dst : Option Tmp} {ty : TypeId} {pos : String} {aft : Array Edge} {gd : Option (Nat × Bool)} {x y : Operand} {T : TypeId} (a b : X) (hx : ev n f x = .agg ⟨enc a⟩) (hy : ev n f y = .agg ⟨enc b⟩) :
  (execOp (ev n f) ⟨dst, .binOp .neq t x y T, ty, pos, aft, gd⟩).run P w = .ok (.value (.bool (!decide (a = b)))) w := by
 have h : (Op.equalIn 10000 t (.agg ⟨enc a⟩) (.agg ⟨enc b⟩)).run P w = .ok (decide (a = b)) w := F.eq w a b
 simp only [execOp, hx, hy]
 simp only [Sem.run_bind, run_eqGuard_agg w _ _ _ _ _ _ F.held, Result.andThen_ok, run_neq_struct, h, Sem.run_pure]
end
section
variable {P : Program} {n : Nat} {f : Nat → Value} {w : World} {dst : Option Tmp} {ty : TypeId} {pos : String} {aft : Array Edge} {gd : Option (Nat × Bool)}
end
instance : DecidableEq Z8h := fun a b =>
 if h : a.cl = b.cl ∧ a.sq = b.sq ∧ a.h = b.h ∧ a.t = b.t then .isTrue (by cases a; cases b; simp_all) else .isFalse (fun e => h (by rw [e]; simp))
def Z5g (a b : Int) : Value := .agg ⟨[.int .i64 a, .int .i64 b]⟩
theorem Z3j (w : World) (a b c d : Int) : (Op.equalIn 9999 24 (Z5g a b) (Z5g c d)).run Tryz.prog w = .ok (decide (a = c ∧ b = d)) w := by
 have ei := fun a b => run_equalIn_int (P := Tryz.prog) w 9997 3 .i64 .i64 a b Tryz.underlying3
 refine (Z1g (d := 9998) _ [a == c, b == d] Tryz.underlying24 (by kernel_rfl)
  ⟨⟨by decide, .int .i64 a, .int .i64 c, by kernel_rfl, by kernel_rfl, ei _ _⟩, ⟨by decide, .int .i64 b, .int .i64 d, by kernel_rfl, by kernel_rfl, ei _ _⟩, trivial⟩).trans ?_
 congr 1
 rw [Bool.eq_iff_iff]
 simp
theorem Z7v (a b : Int) : Instr.sameBits 10000 (.agg ⟨[.int .i64 a, .int .i64 b]⟩) (.agg ⟨[.int .i64 a, .int .i64 b]⟩) = true := by simp [Instr.sameBits]
theorem nmK : KeyTy Tryz.prog 24 nmV := KeyTy.deep (by kernel_rfl) (fun w em a => by cases em <;> kernel_rfl) (fun w x y => by
 simp only [Op.equal, Op.maxDepth, nmV, Z0G]
 simp [go_sem]
 obtain ⟨x1, x2⟩ := x
 obtain ⟨y1, y2⟩ := y
 by_cases h1 : x1 = y1 <;> by_cases h2 : x2 = y2 <;> simp_all) (fun a => Z7v _ _)
end Go.Proofs.YtoaifondpohniaaGreat

namespace Go.Proofs.YtoaifondpohniaaGreat
open Go.RowKit
section
variable {g T n : Nat} {A : List Bool} {w w0 w' : World} {G : List Ck}
end
section
variable {P : Program} {n : Nat} {f : Nat → Value} {w w0 : World} {dst : Option Tmp} {ty : TypeId} {pos : String} {aft : Array Edge} {gd : Option (Nat × Bool)} {K : Act → World → Prop} {Q : Exit → Act → World → Prop} {G : List Ck}
end
section
variable {κ ν : Type} [DecidableEq κ] {P : Program} {n : Nat} {f : Nat → Value} {w w0 : World} {dst : Option Tmp} {ty : TypeId} {pos : String} {aft : Array Edge} {gd : Option (Nat × Bool)} {Q : Exit → Act → World → Prop} {G : List Ck} {T kt et : TypeId} {b : Nat} {encK : κ → Value} {encV : ν → Value} {l : List (κ × ν)}
end
theorem Z4N (a : Bool) : ∀ (es : List MapEntry) (ks : List Bool) (n : Nat), es.map (·.key) = ks.map Value.bool →
  Instr.findNow .bool (.bool a) es n = some ((ks.idxOf? a).bind fun i => (es[i]?).map fun e => (n + i, e.val)) := by
 intro es
 induction es with
 | nil => intro ks n h; cases ks <;> simp_all [Instr.findNow]
 | cons e es ih =>
  intro ks n h
  cases ks with
  | nil => simp at h
  | cons x ks =>
   simp only [List.map_cons, List.cons.injEq] at h
   obtain ⟨h1, h2⟩ := h
   by_cases hax : a = x
   ·subst hax
    simp [Instr.findNow, h1, Instr.sameNow, List.idxOf?_cons]
   ·have hx : (x == a) = false := by simp; exact fun h => hax h.symm
    have hx' : (a == x) = false := by simpa using hax
    simp only [Instr.findNow, h1, Instr.sameNow, hx', ih ks (n + 1) h2, List.idxOf?_cons, hx, Bool.false_eq_true, if_false]
    cases hi : ks.idxOf? a with
    | none => simp
    | some i => simp [Nat.add_assoc, Nat.add_comm 1 i]
theorem KeyTy.bool {P : Program} {k : TypeId} (hk : P.underlying k = some .bool) : KeyTy P k Value.bool where
 check w em a := MapKept.run_checkKey (d := .bool) hk (by simp [MapKept.IsKey]) em 9999
 find w a es ks h := by
  simp [Instr.findKey, run_underlying hk, Z4N a es ks 0 h]
 same a := by simp [Instr.sameBits]
theorem Z1s (w : World) (v n : Int) (hn : n ≤ 4611686018427387904) :
  Calls Tryz.prog 8 #[(.int .i64 (v)), (.int .i64 (n))] w fun e w' => e = .returned (.int .i64 (Z5 v n)) ∧ Upd [] w w' := by
 have H := Sat.start0 w
 refine ZE Tryz.func8 rfl 17 rfl (Nat.le_of_ble_eq_true rfl) ?_
 refine Zc ?_
 refine Zp ?_
 refine Z2 (Z1 rfl) (d := 4) (v := (.int .i64 (0))) rfl (by kernel_rfl) ?_
 refine Zm ?_
 refine Z4 ?_
 refine Zc ?_
 refine Zc ?_
 refine Zp ?_
 refine Z2 (Z1 rfl) (d := 6) (v := (.int .i64 (n))) rfl (by kernel_rfl) ?_
 refine Z2 (Z1 rfl) (d := 7) (v := (.bool (decide (n < 1)))) rfl (by kernel_rfl) ?_
 refine Zm ?_
 refine Z4 ?_
 refine (ZS (decide (n < 1))).elim (fun b1 => ?_) (fun b1 => ?_)
 ·have g2 := of_decide_eq_true b1
  refine Zs 7 (.bool true) (congrArg Value.bool b1) ?_
  refine Z0h rfl ?_
  refine Zc ?_
  refine Zp ?_
  refine Z2 (Z1 rfl) (d := 4) (v := (.int .i64 (0))) rfl (by kernel_rfl) ?_
  refine Zm ?_
  refine Z4 ?_
  refine ZY ?_
  refine Z0d ?_
  refine Z0O rfl (ZF (v := (.int .i64 (0))) rfl) ?_
  exact ⟨by unfold Z5; rw [if_pos (of_decide_eq_true b1)], H.upd 0 rfl [] (fun _ h => h.elim)⟩
 ·have g3 := of_decide_eq_false b1
  refine Zs 7 (.bool false) (congrArg Value.bool b1) ?_
  refine Z09 rfl ?_
  refine Z0b ?_
  refine Z4 ?_
  refine Zc ?_
  refine Zp ?_
  refine Z2 (Z1 rfl) (d := 8) (v := (.int .i64 (v))) rfl (by kernel_rfl) ?_
  refine Z2 (Z1 rfl) (d := 9) (v := (.int .i64 (n))) rfl (by kernel_rfl) ?_
  refine Z2 (Z1 rfl) (d := 10) (v := (.int .i64 (Int.tmod v n))) rfl (e_tmod (by kernel_rfl) (by omega)) ?_
  refine Z2 (Z1 rfl) (d := 5) (v := (.int .i64 (Int.tmod v n))) rfl (by kernel_rfl) ?_
  refine Zm ?_
  refine Z4 ?_
  refine Zc ?_
  refine Zc ?_
  refine Zp ?_
  refine Z2 (Z1 rfl) (d := 11) (v := (.int .i64 (Int.tmod v n))) rfl (by kernel_rfl) ?_
  refine Z2 (Z1 rfl) (d := 12) (v := (.bool (decide ((Int.tmod v n) < 0)))) rfl (by kernel_rfl) ?_
  refine Zm ?_
  refine Z4 ?_
  refine (ZS (decide ((Int.tmod v n) < 0))).elim (fun b4 => ?_) (fun b4 => ?_)
  ·have g5 := of_decide_eq_true b4
   refine Zs 12 (.bool true) (congrArg Value.bool b4) ?_
   refine Z0h rfl ?_
   refine Zp ?_
   refine Z2 (Z1 rfl) (d := 13) (v := (.int .i64 (Int.tmod v n))) rfl (by kernel_rfl) ?_
   refine Z2 (Z1 rfl) (d := 14) (v := (.int .i64 (n))) rfl (by kernel_rfl) ?_
   refine Z2 (Z1 rfl) (d := 15) (v := (.int .i64 ((Int.tmod v n) + n))) rfl (Z04 (z := (Int.tmod v n) + n) (by kernel_rfl) (IntWalk.i64_in _ (by have := Z6c v n (by omega); omega))) ?_
   refine Z2 (Z1 rfl) (d := 5) (v := (.int .i64 ((Int.tmod v n) + n))) rfl (by kernel_rfl) ?_
   refine Zm ?_
   refine Z4 ?_
   refine Zc ?_
   refine Zp ?_
   refine Z2 (Z1 rfl) (d := 16) (v := (.int .i64 ((Int.tmod v n) + n))) rfl (by kernel_rfl) ?_
   refine Z2 (Z1 rfl) (d := 4) (v := (.int .i64 ((Int.tmod v n) + n))) rfl (by kernel_rfl) ?_
   refine Zm ?_
   refine Z4 ?_
   refine ZY ?_
   refine Z0O rfl (ZF (v := (.int .i64 ((Int.tmod v n) + n))) rfl) ?_
   exact ⟨by unfold Z5; rw [if_neg (of_decide_eq_false b1), Z4H v n (by have := of_decide_eq_false b1; omega), if_pos (of_decide_eq_true b4)], H.upd 0 rfl [] (fun _ h => h.elim)⟩
  ·have g6 := of_decide_eq_false b4
   refine Zs 12 (.bool false) (congrArg Value.bool b4) ?_
   refine Z09 rfl ?_
   refine Z0b ?_
   refine Z4 ?_
   refine Zc ?_
   refine Zp ?_
   refine Z2 (Z1 rfl) (d := 16) (v := (.int .i64 (Int.tmod v n))) rfl (by kernel_rfl) ?_
   refine Z2 (Z1 rfl) (d := 4) (v := (.int .i64 (Int.tmod v n))) rfl (by kernel_rfl) ?_
   refine Zm ?_
   refine Z4 ?_
   refine ZY ?_
   refine Z0O rfl (ZF (v := (.int .i64 (Int.tmod v n))) rfl) ?_
   exact ⟨by unfold Z5; rw [if_neg (of_decide_eq_false b1), Z4H v n (by have := of_decide_eq_false b1; omega), if_neg (of_decide_eq_false b4)], H.upd 0 rfl [] (fun _ h => h.elim)⟩
theorem wN_any (w : World) (f c : Int) (hf : -1099511627776 ≤ f ∧ f ≤ 1099511627776) :
  Calls Tryz.prog 80 #[(.agg ⟨([(.int .i64 (f)), (.int .i64 (c))] : List Value)⟩)] w fun e w' => e = .returned (.int .i64 (3 * f + 1)) ∧ Upd [] w w' := by
 have H := Sat.start0 w
 refine ZE Tryz.func80 rfl 7 rfl (Nat.le_of_ble_eq_true rfl) ?_
 refine Zc ?_
 refine Zp ?_
 refine ZA (Z1 rfl) (fun K1 hK1 => ?_)
 refine Z0H (vs := ([(.int .i64 (f)), (.int .i64 (c))] : List Value)) rfl H rfl rfl ?_
 intro b2 w3 (H4 : Sat w [Z6 w (fun _ => False), Z3 b2 36 ([(.int .i64 (f)), (.int .i64 (c))] : List Value)] w3)
 refine hK1 _ _ ?_
 clear hK1 K1
 refine Z2 (Z1 rfl) (d := 2) (v := (.int .i64 (0))) rfl (by kernel_rfl) ?_
 refine Zm ?_
 refine Z4 ?_
 refine Zc ?_
 refine Zp ?_
 refine Z2 (Z1 rfl) (d := 3) (v := (.pointer (some ⟨b2, 0, none⟩))) rfl (by kernel_rfl) ?_
 refine Z2 (Z1 rfl) (d := 4) (v := (.int .i64 (f))) rfl (Zi rfl (by kernel_rfl) (H4.cell 1 rfl rfl)) ?_
 refine Z2 (Z1 rfl) (d := 5) (v := (.int .i64 (3 * f))) rfl (Z04 (z := 3 * f) (by kernel_rfl) (IntWalk.i64_in _ (by omega))) ?_
 refine Z2 (Z1 rfl) (d := 6) (v := (.int .i64 ((3 * f) + 1))) rfl (Z04 (z := (3 * f) + 1) (by kernel_rfl) (IntWalk.i64_in _ (by omega))) ?_
 refine Z2 (Z1 rfl) (d := 2) (v := (.int .i64 ((3 * f) + 1))) rfl (by kernel_rfl) ?_
 refine Zm ?_
 refine Z4 ?_
 refine ZY ?_
 refine Z0O rfl (ZF (v := (.int .i64 ((3 * f) + 1))) rfl) ?_
 exact ⟨rfl, H4.upd 0 rfl [] (fun _ h => h.elim)⟩
theorem wQ_any (w : World) (f c : Int) (hf : -1099511627776 ≤ f ∧ f ≤ 1099511627776) :
  Calls Tryz.prog 90 #[(.agg ⟨([(.int .i64 (f)), (.int .i64 (c))] : List Value)⟩)] w fun e w' => e = .returned (.int .i64 (2 * f + 1)) ∧ Upd [] w w' := by
 have H := Sat.start0 w
 refine ZE Tryz.func90 rfl 7 rfl (Nat.le_of_ble_eq_true rfl) ?_
 refine Zc ?_
 refine Zp ?_
 refine ZA (Z1 rfl) (fun K1 hK1 => ?_)
 refine Z0H (vs := ([(.int .i64 (f)), (.int .i64 (c))] : List Value)) rfl H rfl rfl ?_
 intro b2 w3 (H4 : Sat w [Z6 w (fun _ => False), Z3 b2 36 ([(.int .i64 (f)), (.int .i64 (c))] : List Value)] w3)
 refine hK1 _ _ ?_
 clear hK1 K1
 refine Z2 (Z1 rfl) (d := 2) (v := (.int .i64 (0))) rfl (by kernel_rfl) ?_
 refine Zm ?_
 refine Z4 ?_
 refine Zc ?_
 refine Zp ?_
 refine Z2 (Z1 rfl) (d := 3) (v := (.pointer (some ⟨b2, 0, none⟩))) rfl (by kernel_rfl) ?_
 refine Z2 (Z1 rfl) (d := 4) (v := (.int .i64 (f))) rfl (Zi rfl (by kernel_rfl) (H4.cell 1 rfl rfl)) ?_
 refine Z2 (Z1 rfl) (d := 5) (v := (.int .i64 (2 * f))) rfl (Z04 (z := 2 * f) (by kernel_rfl) (IntWalk.i64_in _ (by omega))) ?_
 refine Z2 (Z1 rfl) (d := 6) (v := (.int .i64 ((2 * f) + 1))) rfl (Z04 (z := (2 * f) + 1) (by kernel_rfl) (IntWalk.i64_in _ (by omega))) ?_
 refine Z2 (Z1 rfl) (d := 2) (v := (.int .i64 ((2 * f) + 1))) rfl (by kernel_rfl) ?_
 refine Zm ?_
 refine Z4 ?_
 refine ZY ?_
 refine Z0O rfl (ZF (v := (.int .i64 ((2 * f) + 1))) rfl) ?_
 exact ⟨rfl, H4.upd 0 rfl [] (fun _ h => h.elim)⟩
theorem Z8d (w : World) (f c : Int) (hf : -1099511627776 ≤ f ∧ f ≤ 1099511627776) :
  Calls Tryz.prog 37 #[(.agg ⟨([(.int .i64 (f)), (.int .i64 (c))] : List Value)⟩)] w fun e w' => e = .returned (.int .i64 (2 * f + 1)) ∧ Upd [] w w' := by
 have H := Sat.start0 w
 refine ZE Tryz.func37 rfl 7 rfl (Nat.le_of_ble_eq_true rfl) ?_
 refine Zc ?_
 refine Zp ?_
 refine ZA (Z1 rfl) (fun K1 hK1 => ?_)
 refine Z0H (vs := ([(.int .i64 (f)), (.int .i64 (c))] : List Value)) rfl H rfl rfl ?_
 intro b2 w3 (H4 : Sat w [Z6 w (fun _ => False), Z3 b2 36 ([(.int .i64 (f)), (.int .i64 (c))] : List Value)] w3)
 refine hK1 _ _ ?_
 clear hK1 K1
 refine Z2 (Z1 rfl) (d := 2) (v := (.int .i64 (0))) rfl (by kernel_rfl) ?_
 refine Zm ?_
 refine Z4 ?_
 refine Zc ?_
 refine Zp ?_
 refine Z2 (Z1 rfl) (d := 3) (v := (.pointer (some ⟨b2, 0, none⟩))) rfl (by kernel_rfl) ?_
 refine Z2 (Z1 rfl) (d := 4) (v := (.int .i64 (f))) rfl (Zi rfl (by kernel_rfl) (H4.cell 1 rfl rfl)) ?_
 refine Z2 (Z1 rfl) (d := 5) (v := (.int .i64 (2 * f))) rfl (Z04 (z := 2 * f) (by kernel_rfl) (IntWalk.i64_in _ (by omega))) ?_
 refine Z2 (Z1 rfl) (d := 6) (v := (.int .i64 ((2 * f) + 1))) rfl (Z04 (z := (2 * f) + 1) (by kernel_rfl) (IntWalk.i64_in _ (by omega))) ?_
 refine Z2 (Z1 rfl) (d := 2) (v := (.int .i64 ((2 * f) + 1))) rfl (by kernel_rfl) ?_
 refine Zm ?_
 refine Z4 ?_
 refine ZY ?_
 refine Z0O rfl (ZF (v := (.int .i64 ((2 * f) + 1))) rfl) ?_
 exact ⟨rfl, H4.upd 0 rfl [] (fun _ h => h.elim)⟩
theorem Z6X (w : World) (f c r : Int) (hf : -1099511627776 ≤ f ∧ f ≤ 1099511627776) :
  Calls Tryz.prog 48 #[(.agg ⟨([(.int .i64 (f)), (.int .i64 (c))] : List Value)⟩), (.int .i64 (r))] w fun e w' => e = .returned (.bool (inB f r)) ∧ Upd [] w w' := by
 have H := Sat.start0 w
 refine ZE Tryz.func48 rfl 13 rfl (Nat.le_of_ble_eq_true rfl) ?_
 refine Zc ?_
 refine Zp ?_
 refine ZA (Z1 rfl) (fun K1 hK1 => ?_)
 refine Z0H (vs := ([(.int .i64 (f)), (.int .i64 (c))] : List Value)) rfl H rfl rfl ?_
 intro b2 w3 (H4 : Sat w [Z6 w (fun _ => False), Z3 b2 36 ([(.int .i64 (f)), (.int .i64 (c))] : List Value)] w3)
 refine hK1 _ _ ?_
 clear hK1 K1
 refine Z2 (Z1 rfl) (d := 4) (v := (.bool false)) rfl (by kernel_rfl) ?_
 refine Zm ?_
 refine Z4 ?_
 refine Z3t [4, 5, 6, 7, 8, 9, 10, 11, 12] (fun G_ W_ => G_ 4 = (.bool (inB f r)) ∧ Sat w [Z6 w (fun _ => False), Z3 b2 36 ([(.int .i64 (f)), (.int .i64 (c))] : List Value)] W_) ?_ ?_
 ·refine Zp ?_
  refine Z2 (Z1 rfl) (d := 5) (v := (.int .i64 (r))) rfl (by kernel_rfl) ?_
  refine Z2 (Z1 rfl) (d := 6) (v := (.bool (decide (r ≥ 0)))) rfl (by kernel_rfl) ?_
  refine Z2 (Z1 rfl) (d := 7) (v := (.bool (decide (r ≥ 0)))) rfl (by kernel_rfl) ?_
  refine (ZS (decide (r ≥ 0))).elim (fun b6 => ?_) (fun b6 => ?_)
  ·have g7 := of_decide_eq_true b6
   refine Z02 7 (.bool true) (congrArg Value.bool b6) ?_
   refine Z2 (Zj 2 7 true rfl (by kernel_rfl) rfl (by kernel_rfl)) (d := 8) (v := (.int .i64 (r))) rfl (by kernel_rfl) ?_
   refine Z2 (Zj 2 7 true rfl (by kernel_rfl) rfl (by kernel_rfl)) (d := 9) (v := (.agg ⟨([(.int .i64 (f)), (.int .i64 (c))] : List Value)⟩)) rfl (ZB (vs := ([(.int .i64 (f)), (.int .i64 (c))] : List Value)) rfl (by kernel_rfl) (by kernel_rfl) (by exact Nat.le_of_ble_eq_true (by kernel_rfl)) (H4.at 1 rfl) (by kernel_rfl)) ?_
   refine ZA (Zj 2 7 true rfl (by kernel_rfl) rfl (by kernel_rfl)) (fun K8 hK8 => ?_)
   refine Zv (d := 10) rfl (by kernel_rfl) (wN_any w3 f c (by omega)) ?_
   rintro _ w9 ⟨rfl, u11⟩
   have H10 := H4.keepU u11
   refine ⟨_, rfl, ?_⟩
   refine hK8 _ _ ?_
   clear hK8 K8
   refine Z2 (Zj 2 7 true rfl (by kernel_rfl) rfl (by kernel_rfl)) (d := 11) (v := (.bool (decide (r < (3 * f + 1))))) rfl (by kernel_rfl) ?_
   refine Z2 (Z1 rfl) (d := 12) (v := (.bool (decide (r < (3 * f + 1))))) rfl (by kernel_rfl) ?_
   refine Z2 (Z1 rfl) (d := 4) (v := (.bool (decide (r < (3 * f + 1))))) rfl (by kernel_rfl) ?_
   refine Zm ?_
   refine Z0T ?_ ⟨(congrArg Value.bool (show (decide (r < (3 * f + 1))) = (inB f r) by simp [inB, b6])), H10⟩
   exact (Z0 rfl (Z0 rfl (Z0 rfl (Z0 rfl (Z0 rfl (Z0 rfl (Z0 rfl (Z0 rfl (Z0 rfl (Z0 rfl (Z0R)))))))))))
  ·have g12 := of_decide_eq_false b6
   refine Z02 7 (.bool false) (congrArg Value.bool b6) ?_
   refine Zx (Zh 2 7 true rfl (by kernel_rfl) rfl (by kernel_rfl)) rfl ?_
   refine Zx (Zh 2 7 true rfl (by kernel_rfl) rfl (by kernel_rfl)) rfl ?_
   refine Zx (Zh 2 7 true rfl (by kernel_rfl) rfl (by kernel_rfl)) rfl ?_
   refine Zx (Zh 2 7 true rfl (by kernel_rfl) rfl (by kernel_rfl)) rfl ?_
   refine Z2 (Z1 rfl) (d := 12) (v := (.bool false)) rfl (by kernel_rfl) ?_
   refine Z2 (Z1 rfl) (d := 4) (v := (.bool false)) rfl (by kernel_rfl) ?_
   refine Zm ?_
   refine Z0T ?_ ⟨(congrArg Value.bool (show false = (inB f r) by simp [inB, b6])), H4⟩
   exact (Z0 rfl (Z0 rfl (Z0 rfl (Z0 rfl (Z0 rfl (Z0 rfl (Z0 rfl (Z0 rfl (Z0 rfl (Z0 rfl (Z0R)))))))))))
 ·rintro f13 w14 ⟨v16, H15⟩
  refine Zs 4 _ v16 ?_
  refine ZY ?_
  refine Z0O rfl (ZF (v := (.bool (inB f r))) rfl) ?_
  exact ⟨rfl, H15.upd 0 rfl [] (fun _ h => h.elim)⟩
theorem Z5X (w : World) :
  Calls Tryz.prog 36 #[] w fun e w' => ∃ b mb, e = .returned (.pointer (some ⟨b, 0, none⟩)) ∧ (ZH [Z3 b 110 [.map (some mb)], ZC mb Za (Value.int .i64) (Zq [])]).ok w' ∧ Upd [] w w' ∧ ∀ q_, (ZH [Z3 b 110 [.map (some mb)], ZC mb Za (Value.int .i64) (Zq [])]).fp q_ → w.heap.size ≤ q_ := by
 have H := Sat.start0 w
 refine ZE Tryz.func36 rfl 4 rfl (Nat.le_of_ble_eq_true rfl) ?_
 refine Zc ?_
 refine Zp ?_
 refine Z2 (Z1 rfl) (d := 0) (v := (.pointer none)) rfl (by kernel_rfl) ?_
 refine Zm ?_
 refine Z4 ?_
 refine Zc ?_
 refine Zp ?_
 refine ZA (Z1 rfl) (fun K1 hK1 => ?_)
 refine Z4O Za (Value.int .i64) rfl H ?_
 intro b2 w3 (H4 : Sat w [Z6 w (fun _ => False), ZC b2 Za (Value.int .i64) []] w3)
 refine hK1 _ _ ?_
 clear hK1 K1
 refine Z2 (Z1 rfl) (d := 2) (v := (.agg ⟨([(.map (some b2))] : List Value)⟩)) rfl (by kernel_rfl) ?_
 refine ZA (Z1 rfl) (fun K5 hK5 => ?_)
 refine Z0H (vs := ([(.map (some b2))] : List Value)) rfl H4 rfl rfl ?_
 intro b6 w7 (H8 : Sat w [Z6 w (fun _ => False), ZC b2 Za (Value.int .i64) [], Z3 b6 110 ([(.map (some b2))] : List Value)] w7)
 refine hK5 _ _ ?_
 clear hK5 K5
 refine Z2 (Z1 rfl) (d := 0) (v := (.pointer (some ⟨b6, 0, none⟩))) rfl (by kernel_rfl) ?_
 refine Zm ?_
 refine Z4 ?_
 refine ZY ?_
 refine Z0O rfl (ZF (v := (.pointer (some ⟨b6, 0, none⟩))) rfl) ?_
 exact ⟨b6, b2, rfl, H8.fin [2, 1] (by decide) rfl, H8.upd 0 rfl [] (fun _ h => h.elim), H8.freshS 0 rfl (fun _ h => h) [2, 1] rfl rfl⟩
theorem Z6S (w : World) :
  Calls Tryz.prog 7 #[] w fun e w' => ∃ b mb r, e = .returned (.tuple #[.agg #[.pointer (some ⟨b, 0, none⟩), .pointer (some ⟨r, 0, none⟩)], .bool true]) ∧ (ZH [Z3 b 110 [.map (some mb)], ZC mb Za (Value.int .i64) (Zq []), Z3 r 98 [.slice none 0 0]]).ok w' ∧ Upd [] w w' ∧ ∀ q_, (ZH [Z3 b 110 [.map (some mb)], ZC mb Za (Value.int .i64) (Zq []), Z3 r 98 [.slice none 0 0]]).fp q_ → w.heap.size ≤ q_ := by
 have H := Sat.start0 w
 refine ZE Tryz.func7 rfl 10 rfl (Nat.le_of_ble_eq_true rfl) ?_
 refine Zc ?_
 refine Zp ?_
 refine ZA (Z1 rfl) (fun K1 hK1 => ?_)
 refine Z0e (zs := ([(.pointer none), (.pointer none)] : List Value)) (z := (.agg ⟨([(.pointer none), (.pointer none)] : List Value)⟩)) rfl H (by kernel_rfl) (by kernel_rfl) ?_
 intro b2 w3 (H4 : Sat w [Z6 w (fun _ => False), Z3 b2 40 ([(.pointer none), (.pointer none)] : List Value)] w3)
 refine hK1 _ _ ?_
 clear hK1 K1
 refine Z2 (Z1 rfl) (d := 1) (v := (.bool false)) rfl (by kernel_rfl) ?_
 refine Zm ?_
 refine Z4 ?_
 refine Zc ?_
 refine Zp ?_
 refine ZA (Z1 rfl) (fun K5 hK5 => ?_)
 refine Zv (d := 3) rfl (by kernel_rfl) (Z5X w3) ?_
 rintro _ w6 ⟨b7, m8, rfl, k9, p10, q11⟩
 have H12 : Sat w [Z6 w (fun _ => False), Z3 b2 40 ([(.pointer none), (.pointer none)] : List Value), ZH [Z3 b7 110 [.map (some m8)], ZC m8 Za (Value.int .i64) (Zq [])]] w6 := H4.addU p10 k9 q11
 have H13 : Sat w [Z6 w (fun _ => False), Z3 b2 40 ([(.pointer none), (.pointer none)] : List Value), Z3 b7 110 ([(.map (some m8))] : List Value), ZC m8 Za (Value.int .i64) (Zq [])] w6 := H12.open 2 rfl
 refine ⟨_, rfl, ?_⟩
 refine hK5 _ _ ?_
 clear hK5 K5
 refine Z2 (Z1 rfl) (d := 2) (v := (.pointer (some ⟨b7, 0, none⟩))) rfl (by kernel_rfl) ?_
 refine Zm ?_
 refine Z4 ?_
 refine Zc ?_
 refine Zp ?_
 refine Z2 (Z1 rfl) (d := 4) (v := (.pointer (some ⟨b7, 0, none⟩))) rfl (by kernel_rfl) ?_
 refine Z2 (Z1 rfl) (d := 5) (v := (.agg ⟨([(.slice none 0 0)] : List Value)⟩)) rfl (by kernel_rfl) ?_
 refine ZA (Z1 rfl) (fun K14 hK14 => ?_)
 refine Z0H (vs := ([(.slice none 0 0)] : List Value)) rfl H13 rfl rfl ?_
 intro b15 w16 (H17 : Sat w [Z6 w (fun _ => False), Z3 b2 40 ([(.pointer none), (.pointer none)] : List Value), Z3 b7 110 ([(.map (some m8))] : List Value), ZC m8 Za (Value.int .i64) (Zq []), Z3 b15 98 ([(.slice none 0 0)] : List Value)] w16)
 refine hK14 _ _ ?_
 clear hK14 K14
 refine Z2 (Z1 rfl) (d := 7) (v := (.agg ⟨([(.pointer (some ⟨b7, 0, none⟩)), (.pointer (some ⟨b15, 0, none⟩))] : List Value)⟩)) rfl (by kernel_rfl) ?_
 refine Z2 (Z1 rfl) (d := 8) (v := (.pointer (some ⟨b7, 0, none⟩))) rfl (by kernel_rfl) ?_
 refine Z2 (Z1 rfl) (d := 9) (v := (.bool true)) rfl (by kernel_rfl) ?_
 refine ZA (Z1 rfl) (fun K18 hK18 => ?_)
 refine Z1D (vs := ([(.pointer (some ⟨b7, 0, none⟩)), (.pointer (some ⟨b15, 0, none⟩))] : List Value)) rfl H17 1 rfl rfl rfl rfl (by kernel_rfl) (Nat.le_of_ble_eq_true (by kernel_rfl)) (Nat.le_of_ble_eq_true (by kernel_rfl)) (by kernel_rfl) ?_
 intro w19 (H20 : Sat w [Z6 w (fun _ => False), Z3 b2 40 ([(.pointer (some ⟨b7, 0, none⟩)), (.pointer (some ⟨b15, 0, none⟩))] : List Value), Z3 b7 110 ([(.map (some m8))] : List Value), ZC m8 Za (Value.int .i64) (Zq []), Z3 b15 98 ([(.slice none 0 0)] : List Value)] w19)
 refine hK18 _ _ ?_
 clear hK18 K18
 refine Z2 (Z1 rfl) (d := 1) (v := (.bool true)) rfl (by kernel_rfl) ?_
 refine Zm ?_
 refine Z4 ?_
 refine ZY ?_
 refine Z6p rfl (Z0i (vs := ([(.pointer (some ⟨b7, 0, none⟩)), (.pointer (some ⟨b15, 0, none⟩))] : List Value)) rfl (by kernel_rfl) (by kernel_rfl) (by exact Nat.le_of_ble_eq_true (by kernel_rfl)) (H20.at 1 rfl) (by kernel_rfl)) (ZF (v := (.bool true)) rfl) ?_
 exact ⟨b7, m8, b15, rfl, H20.fin [2, 3, 4] (by decide) rfl, H20.upd 0 rfl [] (fun _ h => h.elim), H20.freshS 0 rfl (fun _ h => h) [2, 3, 4] rfl rfl⟩
end Go.Proofs.YtoaifondpohniaaGreat
