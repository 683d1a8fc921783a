/- WHAT IS PROVED: contracts and plain laws of ClM, ApM, Unr, Hash, Short, Break. Conditions: stated with each. -/
import Derived.LoopN
import Derived.Stop.BytesEq
import Derived.Test.YtgigjkjdmalmaaaGreatPA01
import Derived.Test.YtgigjkjdmalmaaaGreatPA02
set_option maxHeartbeats 4000000
set_option maxRecDepth 100000
namespace Go.Proofs.YtgigjkjdmalmaaaGreat
open Go.RowKit
section
variable {κ ν : Type} [DecidableEq κ] {l : List (κ × ν)} {a : κ}
theorem Z5f {x : ν} (h : Zq l a = some x) : (a, x) ∈ l := by
 unfold Zq at h
 obtain ⟨y, hy, rfl⟩ := Option.map_eq_some_iff.1 h
 have h1 := List.find?_some hy
 have h2 := List.mem_of_find?_eq_some hy
 have h3 : y.1 = a := by simpa using h1
 rw [← h3]; exact h2
theorem Z13 : Zq l a = none ↔ a ∉ l.map (·.1) := by
 unfold Zq
 rw [Option.map_eq_none_iff, List.find?_eq_none]
 constructor
 ·intro h hm
  obtain ⟨y, hy, rfl⟩ := List.mem_map.1 hm
  exact h y hy (by simp)
 ·intro h y hy he
  have h3 : y.1 = a := by simpa using he
  exact h (List.mem_map.2 ⟨y, hy, h3⟩)
end
section
set_option linter.unusedSectionVars false
variable {β γ : Type} [DecidableEq β] [DecidableEq γ] {l : List (Int × β)} {k : Int} {v d x : β} {n : Nat}
def Z10 (l : List (Int × β)) (x : β) : Nat := l.countP fun y => decide (y.2 = x)
def Z0d (l : List (Int × β)) (k : Int) (v : β) : List (Int × β) := if k ∈ l.map (·.1) then l else l ++ [(k, v)]
def Z5h (l : List (Int × β)) (n : Nat) : Prop := ∃ y ∈ l, n ≤ Z10 l y.2
theorem Z2u (h : k ∈ l.map (·.1)) : Z0d l k v = l := if_pos h
theorem Z1x (h : k ∉ l.map (·.1)) : Z0d l k v = l ++ [(k, v)] := if_neg h
theorem Z4e : (Z0d l k v).length ≤ l.length + 1 := by unfold Z0d; split <;> simp
theorem Z4p (h : k ∉ l.map (·.1)) : Z1P l k v = Z0d l k v := by rw [Z1x h]; unfold Z1P; rw [if_neg h]
theorem Z5U (h : k ∉ l.map (·.1)) : Zq (l ++ [(k, v)]) k = some v := by
 have q := Z3a l k v
 unfold Z1P at q
 rwa [if_neg h] at q
theorem Z23 (l m : List (Int × β)) (x : β) : Z10 (l ++ m) x = Z10 l x + Z10 m x := List.countP_append
theorem Z2z (k : Int) (v x : β) : Z10 [(k, v)] x = if v = x then 1 else 0 := by
 unfold Z10
 by_cases h : v = x <;> simp [h]
theorem Z6k : Z10 l x ≤ l.length := List.countP_le_length
theorem Z53 (h : k ∈ l.map (·.1)) : (k, (Zq l k).getD d) ∈ l := by
 cases e : Zq l k with
 | none => exact absurd h (Z13.1 e)
 | some v => exact Z5f e
theorem Z1O (h : k ∉ l.map (·.1)) : (Zq (Z0d l k v) k).getD d = v := by rw [Z1x h, Z5U h]; rfl
theorem Z5X : Z5h (Z0d l k v) n ↔ Z5h l n ∨ n ≤ Z10 (Z0d l k v) ((Zq (Z0d l k v) k).getD d) := by
 by_cases h : k ∈ l.map (·.1)
 ·rw [Z2u h]
  constructor
  ·exact .inl
  ·rintro (q | q)
   ·exact q
   ·exact ⟨_, Z53 h, q⟩
 ·rw [Z1O h, Z1x h]
  constructor
  ·rintro ⟨y, hy, q⟩
   by_cases e : y.2 = v
   ·right; rw [e] at q; exact q
   ·left
    rw [Z23, Z2z, if_neg (fun q => e q.symm), Nat.add_zero] at q
    rcases List.mem_append.1 hy with hy | hy
    ·exact ⟨y, hy, q⟩
    ·exact absurd (by rw [List.mem_singleton.1 hy]) e
  ·rintro (⟨y, hy, q⟩ | q)
   ·exact ⟨y, List.mem_append_left _ hy, by rw [Z23]; omega⟩
   ·exact ⟨(k, v), by simp, q⟩
theorem Z5Y : ¬ Z5h ([] : List (Int × β)) n := by rintro ⟨y, hy, _⟩; cases hy
variable {f : β → γ}
theorem Z4j : (l.map fun e => (e.1, f e.2)).map (·.1) = l.map (·.1) := by rw [List.map_map]; rfl
theorem Z4f : Z0d (l.map fun e => (e.1, f e.2)) k (f v) = (Z0d l k v).map fun e => (e.1, f e.2) := by
 unfold Z0d
 rw [Z4j]
 split
 ·rfl
 ·rw [List.map_append]; rfl
theorem Z6s (hf : ∀ a b, f a = f b → a = b) : Z10 (l.map fun e => (e.1, f e.2)) (f x) = Z10 l x := by
 unfold Z10
 rw [List.countP_map]
 congr 1
 funext y
 show decide (f y.2 = f x) = decide (y.2 = x)
 by_cases h : y.2 = x
 ·rw [h]; simp
 ·rw [decide_eq_false h, decide_eq_false (fun e => h (hf _ _ e))]
theorem Z5T (k : Int) : Zq (l.map fun e => (e.1, f e.2)) k = (Zq l k).map f := by
 unfold Zq
 rw [List.find?_map, Option.map_map, Option.map_map]
 rfl
theorem Z4h {m : List (Int × β)} (h : l.Perm m) : Z10 l x = Z10 m x := h.countP_eq _
end
structure RcG {β : Type} (i : Nat) (v : β) (R : List (Int × β)) : Prop where
 len : R.length = i
 lt : ∀ y ∈ R, y.1 < (i : Int)
 all : ∀ y ∈ R, y.2 = v
section
set_option linter.unusedSectionVars false
variable {β : Type} [DecidableEq β] {i : Nat} {v d : β} {R : List (Int × β)} {F : Int} {op : Bool}
theorem RcG.nil : RcG 0 v [] := ⟨rfl, (fun _ h => nomatch h), (fun _ h => nomatch h)⟩
theorem RcG.new (h : RcG i v R) : (i : Int) ∉ R.map (·.1) := fun q => by
 obtain ⟨y, hy, e⟩ := List.mem_map.1 q
 have := h.lt y hy; omega
theorem RcG.add (h : RcG i v R) : RcG (i + 1) v (Z0d R i v) := by
 refine ⟨by rw [Z1x h.new, List.length_append, h.len]; rfl, fun y hy => ?_, fun y hy => ?_⟩
 all_goals
  rw [Z1x h.new] at hy
  rcases List.mem_append.1 hy with hy | hy
 ·have := h.lt y hy; omega
 ·rw [List.mem_singleton.1 hy]; show (i : Int) < _; omega
 ·exact h.all y hy
 ·rw [List.mem_singleton.1 hy]
theorem RcG.got (h : RcG i v R) (d : β) : (Zq (Z0d R i v) i).getD d = v := Z1O h.new
theorem RcG.cnt (h : RcG i v R) : Z10 (Z0d R i v) v = i + 1 := by
 unfold Z10
 rw [List.countP_eq_length.2 (fun y hy => decide_eq_true (h.add.all y hy)), h.add.len]
theorem Z6D (h : RcG i v R) (ho : op = decide ((i : Int) = F + 1)) (hi : (i : Int) < F + 1) (hc : op = true ∨ (Z10 (Z0d R i v) ((Zq (Z0d R i v) i).getD d) : Int) < F + 1) : op = decide (((i + 1 : Nat) : Int) = F + 1) := by
 rw [h.got, h.cnt] at hc
 rw [decide_eq_false (by omega)] at ho
 subst ho
 rcases hc with hc | hc
 ·cases hc
 ·exact (decide_eq_false (by omega)).symm
theorem Z5o (h : RcG i v R) (hi : (i : Int) < F + 1) (hc : F + 1 ≤ (Z10 (Z0d R i v) ((Zq (Z0d R i v) i).getD d) : Int)) : true = decide (((i + 1 : Nat) : Int) = F + 1) ∧ (Zq (Z0d R i v) i).getD d = v := by
 rw [h.got, h.cnt] at hc
 exact ⟨(decide_eq_true (by omega)).symm, h.got d⟩
end
end Go.Proofs.YtgigjkjdmalmaaaGreat
namespace Go.Proofs.YtgigjkjdmalmaaaGreat
section
variable {P : Program} {Q : Exit → Act → World → Prop} {n m : Nat} {f : Nat → Value} {w : World} {c : Code}
theorem Z4w (m : Nat) (h : WC P c (Exit.then (Code.rounds P c Q m) Q) n f w) : WC P (Code.loop c) Q n f w := ⟨wp_loop_rounds (m + 1) h.h⟩
theorem Z1g (h : WC P c (Exit.then (Code.rounds P c Q m) Q) n f w) : Exit.then (Code.rounds P c Q (m + 1)) Q .normal (fr n f) w := h.h
end
end Go.Proofs.YtgigjkjdmalmaaaGreat
namespace Go.Proofs.YtgigjkjdmalmaaaGreat
open Go.RowKit
structure Z1J where
 l : List UInt8
 len : l.length = 32
 deriving DecidableEq
def hc (h : Z1J) : List Value := (List.range 32).map fun i => Z1S (h.l.getD i 0)
theorem Z3C (h : Z1J) : hc h = h.l.map Z1S := by
 unfold hc
 refine List.ext_getElem (by simp [h.len]) fun i h1 h2 => ?_
 simp only [List.length_map] at h2
 simp [List.getD, List.getElem?_eq_getElem h2]
@[simp] theorem Z3D (h : Z1J) : (hc h).length = 32 := by simp [hc]
def Z55 (h : Z1J) : Value := .agg ⟨hc h⟩
def Z8 : Z1J := ⟨List.replicate 32 0, by simp⟩
theorem Z2j (w : World) (d : Nat) (a b : Z1J) : (Op.equalIn (d + 2) 40 (Z55 a) (Z55 b)).run Tryz.prog w = .ok (decide (a = b)) w := by
 have := run_equalIn_bytes (P := Tryz.prog) w d 40 5 32 (by kernel_rfl) (by kernel_rfl) (fun w => by kernel_rfl) a.l b.l a.len b.len
 unfold Z55
 rw [Z3C, Z3C]
 refine Eq.trans this ?_
 congr 1
 rw [Bool.eq_iff_iff]
 simp only [beq_iff_eq, decide_eq_true_eq]
 obtain ⟨a, ha⟩ := a
 obtain ⟨b, hb⟩ := b
 simp
theorem Z5I {n : Nat} {f : Nat → Value} {w : World} {dst : Option Tmp} {ty : TypeId} {pos : String} {aft : Array Edge} {gd : Option (Nat × Bool)} {x y : Operand} {T : TypeId} (a b : Z1J) (hx : ev n f x = .agg ⟨hc a⟩) (hy : ev n f y = .agg ⟨hc b⟩) :
  (execOp (ev n f) ⟨dst, .binOp .neq 40 x y T, ty, pos, aft, gd⟩).run Tryz.prog w = .ok (.value (.bool (!decide (a = b)))) w := by
 have h := Z2j w 9998 a b
 unfold Z55 at h
 simp only [execOp, hx, hy]
 simp only [Sem.run_bind, run_eqGuard_agg w _ _ _ _ _ _ (show Tryz.prog.eqGuardType Tryz.prog.depth 40 = false by kernel_rfl), Result.andThen_ok, run_neq_struct, h, Sem.run_pure]
def Z32 (P : Program) (w : World) (d : Nat) (X Y : Array Value) : List Field → List Bool → Prop
 | [], [] => True
 | f :: fs, r :: rs => (f.name ≠ "_" ∧ ∃ a b, (part f.type X f.offset).run P w = .ok a w ∧ (part f.type Y f.offset).run P w = .ok b w ∧ (Op.equalIn d f.type a b).run P w = .ok r w) ∧ Z32 P w d X Y fs rs
 | _, _ => False
theorem Z2h {P : Program} {w : World} {d : Nat} {X Y : Array Value} : ∀ (fs : List Field) (rs : List Bool), Z32 P w d X Y fs rs → (Op.eqFields d X Y fs).run P w = .ok (rs.all id) w
 | [], [], _ => by simp [Op.eqFields]
 | f :: fs, r :: rs, h => by
  obtain ⟨⟨hn, a, b, ha, hb, hr⟩, h2⟩ := h
  have ih := Z2h fs rs h2
  simp only [Op.eqFields, hn, ne_eq, not_false_eq_true, if_true, Sem.run_bind, ha, hb, hr, Result.andThen_ok]
  cases r
  ·simp
  ·simp [ih]
 | [], _ :: _, h => h.elim
 | _ :: _, [], h => h.elim
theorem Z1e {P : Program} {w : World} {d : Nat} {X Y : Array Value} {t : TypeId} (fs : List Field) (rs : List Bool) (ht : P.underlying t = some (.struct ⟨fs⟩)) (hp : P.stoodInHeld t = false) (h : Z32 P w d X Y fs rs) :
  (Op.equalIn (d + 1) t (.agg X) (.agg Y)).run P w = .ok (rs.all id) w := by
 have hf : P.fieldsOf t = ⟨fs⟩ := by simp [Program.fieldsOf, ht]
 rw [run_equalIn_struct w d t X Y (by rw [hf]; exact ht) hp, hf]
 exact Z2h fs rs h
variable {P : Program} {ops : Array Oper} {Q : Exit → Act → World → Prop} {n : Nat} {f : Nat → Value} {w0 w w' : World} {o : Oper} {rest : List Oper} {G : List Ck} {C : World → Prop} {A : Act → Prop}
theorem wv (d : Nat) (v : Value) (k : WL P ops Q rest n (upd f d v) w) (hg : o.guard = none := by exact rfl) (hd : o.dst = some d := by exact rfl) (hr : (execOp (ev n f) o).run P w = .ok (.value v) w := by kernel_rfl) : WL P ops Q (o :: rest) n f w := Z3 (Z1 hg) hd hr k
theorem qv {Q : Act → Prop} (d : Nat) (v : Value) (k : WQ P ops C Q rest n (upd f d v)) (hg : o.guard = none := by exact rfl) (hd : o.dst = some d := by exact rfl) (hr : ∀ w, C w → (execOp (ev n f) o).run P w = .ok (.value v) w := by exact fun _ _ => by kernel_rfl) : WQ P ops C Q (o :: rest) n f := ZO (Z1 hg) hd hr k
theorem hv0 {S : World → Prop} {listed : Array Bool} {fuel : Nat} {Q : Exit → Act → World → Prop} (i : Nat) (HS : S w) (d : Nat) (v : Value) (k : WH P ops Q S fuel (listed.setIfInBounds i true) n (upd f d v) w) (hi : ops[i]? = some o := by exact rfl) (hs : Region.noSelect ops = true := by kernel_rfl) (hf : Region.free .any ops listed i = true := by kernel_rfl) (hr : (Region.ready .any ops listed).contains i = true := by kernel_rfl) (hQ : ∀ c a w, Q (.panic c) (a.put o.dst v) w → Q (.panic c) a w := by exact fun _ _ _ h => h)
  (hg : o.guard = none := by exact rfl) (hd : o.dst = some d := by exact rfl) (he : ∀ w, S w → (execOp (ev n f) o).run P w = .ok (.value v) w := by exact fun _ _ => by kernel_rfl) :
  WH P ops Q S (fuel + 1) listed n f w := Zt i hi hs hf hr hQ HS (Z1 hg) hd he k
abbrev pt (b o : Nat) : Value := .pointer (some ⟨b, o, none⟩)
section
variable {P : Program} {ops : Array Oper} {Q : Exit → Act → World → Prop} {md : Region.Mode} {S : World → Prop} {B : Nat → Bool}
def Z2E (P : Program) (md : Region.Mode) (ops : Array Oper) (Q : Exit → Act → World → Prop) (S : World → Prop) (B : Nat → Bool) : Nat → Array Bool → Act → World → Prop
 | 0, listed, a, w => Region.ready md ops listed = [] ∧ Q .normal a w
 | fuel + 1, listed, a, w =>
  (Region.ready md ops listed = [] → Q .normal a w) ∧
  ∀ i ∈ Region.ready md ops listed, wpOp P ops Q i (fun a' w' => if B i = true then ∃ S2 : World → Prop, S2 w' ∧ wpAnyH P md ops Q S2 fuel (listed.setIfInBounds i true) a' w' else S w' ∧ Z2E P md ops Q S B fuel (listed.setIfInBounds i true) a' w') a w
theorem Z31 : ∀ (fuel : Nat) (listed : Array Bool) (a : Act) (w : World), Z2E P md ops Q S B fuel listed a w → wpAny P md ops Q fuel listed a w
 | 0, _, _, _, h => h
 | fuel + 1, _, _, _, h => ⟨h.1, fun i hi => wpOp_mono (fun a' w' h' => by
   split at h'
   ·obtain ⟨S2, _, h2⟩ := h'; exact wpAny_of_held fuel _ a' w' h2
   ·exact Z31 fuel _ a' w' h'.2) (h.2 i hi)⟩
theorem Z3P {i : Nat} {oi : Oper} {v : Value} (hi : ops[i]? = some oi) (hsel : ∀ (j : Nat) (o : Oper) cs b, ops[j]? = some o → o.op ≠ .select cs b)
  (hQ : ∀ c a w, Q (.panic c) (a.put oi.dst v) w → Q (.panic c) a w) (hiB : B i = false) (hB : ∀ j oj, B j = true → ops[j]? = some oj → ∃ e ∈ oj.after, Region.binds md e = true ∧ e.on = i) :
  ∀ (fuel : Nat) (listed : Array Bool) (a : Act) (w : World),
   (∀ j oj, ops[j]? = some oj → j ≠ i → listed.getD j true = false → (∀ e ∈ oj.after, Region.binds md e = true → e.on ≠ i) → oi.apart ops oj = true) →
   i ∈ Region.ready md ops listed → YieldsIf P ops S oi v a → S w →
   Z2E P md ops Q S B fuel (listed.setIfInBounds i true) (a.put oi.dst v) w → Z2E P md ops Q S B (fuel + 1) listed a w := by
 intro fuel
 induction fuel with
 | zero =>
  intro listed a w _ hr hy hS H
  refine ⟨fun h => (by rw [h] at hr; cases hr), fun j hj => ?_⟩
  by_cases hji : j = i
  ·subst hji; exact hy.wpOp hi hS (by rw [if_neg (by rw [hiB]; simp)]; exact ⟨hS, H⟩)
  ·have := ready_mono hj hji
   rw [H.1] at this
   cases this
 | succ fuel ih =>
  intro listed a w hfree hr hy hS H
  refine ⟨fun h => (by rw [h] at hr; cases hr), fun j hj => ?_⟩
  by_cases hji : j = i
  ·subst hji; exact hy.wpOp hi hS (by rw [if_neg (by rw [hiB]; simp)]; exact ⟨hS, H⟩)
  ·have h1 := H.2 j (ready_mono hj hji)
   obtain ⟨hjun, oj, hoj, hall⟩ := mem_ready.1 hj
   have hnot : ∀ e ∈ oj.after, Region.binds md e = true → e.on ≠ i := fun e he hb heq => by
    have h1 := hall e he hb
    have h0 := (mem_ready.1 hr).1
    rw [heq] at h1
    rcases Nat.lt_or_ge i listed.size with h' | h'
    ·simp [h'] at h0 h1; rw [h0] at h1; cases h1
    ·simp [Array.getElem?_eq_none h'] at h1
   have hjB : ¬ B j = true := fun hjb => by
    obtain ⟨e, he, hb, hon⟩ := hB j oj hjb hoj
    exact hnot e he hb hon
   have h2 := wpOp_putIf hoj (hfree j oj hoj hji hjun hnot) (fun cs b => hsel i oi cs b hi) (fun cs b => hsel j oj cs b hoj) hQ hy h1
   have hfree' : ∀ k ok, ops[k]? = some ok → k ≠ i → (listed.setIfInBounds j true).getD k true = false →
     (∀ e ∈ ok.after, Region.binds md e = true → e.on ≠ i) → oi.apart ops ok = true := fun k ok hk hki hun hno => by
    refine hfree k ok hk hki ?_ hno
    by_cases hjk : j = k
    ·subst hjk; exact hjun
    ·rw [getD_set_ne true hjk] at hun; exact hun
   refine wpOp_mono (fun a' w' h3 => ?_) h2
   have h4 := h3.2
   rw [if_neg hjB] at h4 ⊢
   refine ⟨h4.1, ih (listed.setIfInBounds j true) a' w' hfree' (ready_mono hr (Ne.symm hji)) h3.1 h4.1 ?_⟩
   rw [Array.setIfInBounds_comm _ _ hji]
   exact h4.2
theorem Z3k {i : Nat} {oi : Oper} {v : Value} (hi : ops[i]? = some oi) (hsel : ∀ (j : Nat) (o : Oper) cs b, ops[j]? = some o → o.op ≠ .select cs b)
  (hQ : ∀ c a w, Q (.panic c) (a.put oi.dst v) w → Q (.panic c) a w) (hiB : B i = false) :
  ∀ (fuel : Nat) (listed : Array Bool) (a : Act) (w : World),
   (∀ j oj, ops[j]? = some oj → j ≠ i → listed.getD j true = false → (∀ e ∈ oj.after, Region.binds md e = true → e.on ≠ i) → oi.apart ops oj = true) →
   i ∈ Region.ready md ops listed → YieldsIf P ops (fun _ => True) oi v a → S w →
   Z2E P md ops Q S B fuel (listed.setIfInBounds i true) (a.put oi.dst v) w → Z2E P md ops Q S B (fuel + 1) listed a w := by
 intro fuel
 induction fuel with
 | zero =>
  intro listed a w _ hr hy hS H
  refine ⟨fun h => (by rw [h] at hr; cases hr), fun j hj => ?_⟩
  by_cases hji : j = i
  ·subst hji; exact hy.wpOp hi trivial (by rw [if_neg (by rw [hiB]; simp)]; exact ⟨hS, H⟩)
  ·have := ready_mono hj hji
   rw [H.1] at this
   cases this
 | succ fuel ih =>
  intro listed a w hfree hr hy hS H
  refine ⟨fun h => (by rw [h] at hr; cases hr), fun j hj => ?_⟩
  by_cases hji : j = i
  ·subst hji; exact hy.wpOp hi trivial (by rw [if_neg (by rw [hiB]; simp)]; exact ⟨hS, H⟩)
  ·have h1 := H.2 j (ready_mono hj hji)
   obtain ⟨hjun, oj, hoj, hall⟩ := mem_ready.1 hj
   have hnot : ∀ e ∈ oj.after, Region.binds md e = true → e.on ≠ i := fun e he hb heq => by
    have h1 := hall e he hb
    have h0 := (mem_ready.1 hr).1
    rw [heq] at h1
    rcases Nat.lt_or_ge i listed.size with h' | h'
    ·simp [h'] at h0 h1; rw [h0] at h1; cases h1
    ·simp [Array.getElem?_eq_none h'] at h1
   have h2 := wpOp_putIf hoj (hfree j oj hoj hji hjun hnot) (fun cs b => hsel i oi cs b hi) (fun cs b => hsel j oj cs b hoj) hQ hy h1
   have hfree' : ∀ k ok, ops[k]? = some ok → k ≠ i → (listed.setIfInBounds j true).getD k true = false →
     (∀ e ∈ ok.after, Region.binds md e = true → e.on ≠ i) → oi.apart ops ok = true := fun k ok hk hki hun hno => by
    refine hfree k ok hk hki ?_ hno
    by_cases hjk : j = k
    ·subst hjk; exact hjun
    ·rw [getD_set_ne true hjk] at hun; exact hun
   refine wpOp_mono (fun a' w' h3 => ?_) h2
   have h4 := h3.2
   by_cases hjB : B j = true
   ·rw [if_pos hjB] at h4 ⊢
    obtain ⟨S2, hS2, h5⟩ := h4
    refine ⟨S2, hS2, wpAnyH_first hi hsel hQ fuel (listed.setIfInBounds j true) a' w' hfree' (ready_mono hr (Ne.symm hji)) (h3.1.imp (fun ⟨q1, q2⟩ => ⟨q1, fun w _ => q2 w trivial⟩) id) hS2 ?_⟩
    rw [Array.setIfInBounds_comm _ _ hji]
    exact h5
   ·rw [if_neg hjB] at h4 ⊢
    refine ⟨h4.1, ih (listed.setIfInBounds j true) a' w' hfree' (ready_mono hr (Ne.symm hji)) h3.1 h4.1 ?_⟩
    rw [Array.setIfInBounds_comm _ _ hji]
    exact h4.2
end
structure WK (P : Program) (ops : Array Oper) (Q : Exit → Act → World → Prop) (S : World → Prop) (B : Nat → Bool) (fuel : Nat) (listed : Array Bool) (n : Nat) (f : Nat → Value) (w : World) : Prop where
 h : Z2E P .any ops Q S B fuel listed (fr n f) w
def Z6G (ops : Array Oper) (B : List Nat) (i : Nat) : Bool := B.all fun j => match ops[j]? with
 | some oj => oj.after.any fun e => Region.binds .any e && Nat.beq e.on i
 | none => true
theorem Z4K {ops : Array Oper} {B : List Nat} {i : Nat} (h : Z6G ops B i = true) : ∀ j oj, Z1f B j = true → ops[j]? = some oj → ∃ e ∈ oj.after, Region.binds .any e = true ∧ e.on = i := by
 intro j oj hj ho
 have := List.all_eq_true.1 h j ((Z4m B j).1 hj)
 rw [ho] at this
 simp only [Array.any_eq_true', Bool.and_eq_true] at this
 obtain ⟨e, he, h1, h2⟩ := this
 exact ⟨e, he, h1, Nat.eq_of_beq_eq_true h2⟩
section
variable {P : Program} {ops : Array Oper} {S : World → Prop} {B : List Nat} {Q : Exit → Act → World → Prop} {n : Nat} {f : Nat → Value} {w0 w w' : World} {o : Oper} {G : List Ck} {listed : Array Bool} {fuel : Nat}
theorem Z0M {id : Nat} {l : List Oper} (H : Sat w0 G w) (Gs : List Ck) (B : List Nat) (m : Nat) (hl : l.length = m) (hm : P.follows .mixedOrders = true) (hs : Sat w0 G w.drew → Sat w0 Gs w.drew) (k : ∀ w1, Sat w0 G w1 → Sat w0 Gs w1 → WK P l.toArray Q (Sat w0 Gs) (Z1f B) m (Array.replicate m false) n f w1) :
  WC P (Code.region id l.toArray true) Q n f w := by
 subst hl
 exact ⟨wp_region_any hm (Z31 (S := Sat w0 Gs) (B := Z1f B) _ _ _ _ (by simpa using (k w.drew H.drew (hs H.drew)).h))⟩
theorem Z19 {v : Value} (i : Nat) (hi : ops[i]? = some o) (hs : Region.noSelect ops = true) (hf : Region.free .any ops listed i = true) (hr : (Region.ready .any ops listed).contains i = true) (hQ : ∀ c a w, Q (.panic c) (a.put o.dst v) w → Q (.panic c) a w) (HS : S w)
  (hw : Z15 ops o n f true) (hiB : Z1f B i = false) (hB : Z6G ops B i = true) {d : Nat} (hd : o.dst = some d) (he : ∀ w, S w → (execOp (ev n f) o).run P w = .ok (.value v) w) (k : WK P ops Q S (Z1f B) fuel (listed.setIfInBounds i true) n (upd f d v) w) :
  WK P ops Q S (Z1f B) (fuel + 1) listed n f w :=
 ⟨Z3P hi (Region.noSelect_spec hs) hQ hiB (Z4K hB) fuel listed _ w (Region.free_spec hi hf) (by simpa using hr) (.inl ⟨hw.h, by rw [Z18]; exact he⟩) HS (by rw [hd, Z1X]; exact k.h)⟩
theorem ZS {v : Value} (i : Nat) (hi : ops[i]? = some o) (hs : Region.noSelect ops = true) (hf : Region.free .any ops listed i = true) (hr : (Region.ready .any ops listed).contains i = true) (hQ : ∀ c a w, Q (.panic c) (a.put o.dst v) w → Q (.panic c) a w) (HS : S w)
  (hw : Z15 ops o n f true) (hiB : Z1f B i = false) {d : Nat} (hd : o.dst = some d) (he : ∀ w, (execOp (ev n f) o).run P w = .ok (.value v) w) (k : WK P ops Q S (Z1f B) fuel (listed.setIfInBounds i true) n (upd f d v) w) :
  WK P ops Q S (Z1f B) (fuel + 1) listed n f w :=
 ⟨Z3k hi (Region.noSelect_spec hs) hQ hiB fuel listed _ w (Region.free_spec hi hf) (by simpa using hr) (.inl ⟨hw.h, by rw [Z18]; exact fun w _ => he w⟩) HS (by rw [hd, Z1X]; exact k.h)⟩
theorem Z2L (i : Nat) (hi : ops[i]? = some o) (hr : Region.ready .any ops listed = [i]) (hw : Z15 ops o n f true) (hiB : Z1f B i = false)
  (k : ∀ K : Act → World → Prop, (∀ g w', S w' → (WK P ops Q S (Z1f B) fuel (listed.setIfInBounds i true) n g w') → K (fr n g) w') → WO P o K Q n f w) : WK P ops Q S (Z1f B) (fuel + 1) listed n f w := by
 refine ⟨⟨fun h0 => absurd (hr ▸ h0) (by simp), fun j hj => ?_⟩⟩
 rw [hr] at hj
 obtain rfl := List.mem_singleton.1 hj
 refine wpOp_step hi fun K' hK => ?_
 rw [if_pos hw.h]
 exact (k K' fun g w' hS hk => hK _ _ (by rw [if_neg (by rw [hiB]; simp)]; exact ⟨hS, hk.h⟩)).h
theorem Z1Z (i : Nat) (S2 : World → Prop) (hi : ops[i]? = some o) (hr : Region.ready .any ops listed = [i]) (hw : Z15 ops o n f true) (hiB : Z1f B i = true)
  (k : ∀ K : Act → World → Prop, (∀ g w', S2 w' → (WH P ops Q S2 fuel (listed.setIfInBounds i true) n g w') → K (fr n g) w') → WO P o K Q n f w) : WK P ops Q S (Z1f B) (fuel + 1) listed n f w := by
 refine ⟨⟨fun h0 => absurd (hr ▸ h0) (by simp), fun j hj => ?_⟩⟩
 rw [hr] at hj
 obtain rfl := List.mem_singleton.1 hj
 refine wpOp_step hi fun K' hK => ?_
 rw [if_pos hw.h]
 exact (k K' fun g w' hS hk => hK _ _ (by rw [if_pos hiB]; exact ⟨S2, hS, hk.h⟩)).h
end
end Go.Proofs.YtgigjkjdmalmaaaGreat
