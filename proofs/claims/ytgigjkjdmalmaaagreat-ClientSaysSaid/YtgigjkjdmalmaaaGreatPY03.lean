/- WHAT IS PROVED: contracts and plain laws of Hash, Short, Break, Iter. Conditions: stated with each. -/
import Derived.Stop.BytesEq
import Derived.Maps.RangeRun
import Derived.Test.YtgigjkjdmalmaaaGreatPY02
set_option maxHeartbeats 4000000
set_option maxRecDepth 100000
namespace Go.Proofs.YtgigjkjdmalmaaaGreat
open Go.RowKit
structure Z1e where
 l : List UInt8
 len : l.length = 32
 deriving DecidableEq
def hc (h : Z1e) : List Value := (List.range 32).map fun i => Z1W (h.l.getD i 0)
theorem Z3X (h : Z1e) : hc h = h.l.map Z1W := by
 unfold hc
 refine List.ext_getElem (by simp [h.len]) fun i h1 h2 => ?_
 simp only [List.length_map] at h2
 simp [List.getD, List.getElem?_eq_getElem h2]
@[simp] theorem Z50 (h : Z1e) : (hc h).length = 32 := by simp [hc]
def Z8t (h : Z1e) : Value := .agg ⟨hc h⟩
def Zx : Z1e := ⟨List.replicate 32 0, by simp⟩
theorem Z2p (w : World) (d : Nat) (a b : Z1e) : (Op.equalIn (d + 2) 40 (Z8t a) (Z8t b)).run Tryz.prog w = .ok (decide (a = b)) w := by
 have := run_equalIn_bytes (P := Tryz.prog) w d 40 5 32 (by kernel_rfl) (by kernel_rfl) (fun w => by kernel_rfl) a.l b.l a.len b.len
 unfold Z8t
 rw [Z3X, Z3X]
 refine Eq.trans this ?_
 congr 1
 rw [Bool.eq_iff_iff]
 simp only [beq_iff_eq, decide_eq_true_eq]
 obtain ⟨a, ha⟩ := a
 obtain ⟨b, hb⟩ := b
 simp
theorem Zau {n : Nat} {f : Nat → Value} {w : World} {dst : Option Tmp} {ty : TypeId} {pos : String} {aft : Array Edge} {gd : Option (Nat × Bool)} {x y : Operand} {T : TypeId} (a b : Z1e) (hx : ev n f x = .agg ⟨hc a⟩) (hy : ev n f y = .agg ⟨hc b⟩) :
  (execOp (ev n f) ⟨dst, .binOp .eql 40 x y T, ty, pos, aft, gd⟩).run Tryz.prog w = .ok (.value (.bool (decide (a = b)))) w := by
 have h := Z2p w 9998 a b
 unfold Z8t at h
 simp only [execOp, hx, hy]
 simp only [Sem.run_bind, run_eqGuard_agg w _ _ _ _ _ _ (show Tryz.prog.eqGuardType Tryz.prog.depth 40 = false by kernel_rfl), Result.andThen_ok, run_eql_struct, h, Sem.run_pure]
theorem Z7W {n : Nat} {f : Nat → Value} {w : World} {dst : Option Tmp} {ty : TypeId} {pos : String} {aft : Array Edge} {gd : Option (Nat × Bool)} {x y : Operand} {T : TypeId} (a b : Z1e) (hx : ev n f x = .agg ⟨hc a⟩) (hy : ev n f y = .agg ⟨hc b⟩) :
  (execOp (ev n f) ⟨dst, .binOp .neq 40 x y T, ty, pos, aft, gd⟩).run Tryz.prog w = .ok (.value (.bool (!decide (a = b)))) w := by
 have h := Z2p w 9998 a b
 unfold Z8t at h
 simp only [execOp, hx, hy]
 simp only [Sem.run_bind, run_eqGuard_agg w _ _ _ _ _ _ (show Tryz.prog.eqGuardType Tryz.prog.depth 40 = false by kernel_rfl), Result.andThen_ok, run_neq_struct, h, Sem.run_pure]
def Z5q (P : Program) (w : World) (d : Nat) (X Y : Array Value) : List Field → List Bool → Prop
 | [], [] => True
 | f :: fs, r :: rs => (f.name ≠ "_" ∧ ∃ a b, (part f.type X f.offset).run P w = .ok a w ∧ (part f.type Y f.offset).run P w = .ok b w ∧ (Op.equalIn d f.type a b).run P w = .ok r w) ∧ Z5q P w d X Y fs rs
 | _, _ => False
theorem Z3E {P : Program} {w : World} {d : Nat} {X Y : Array Value} : ∀ (fs : List Field) (rs : List Bool), Z5q P w d X Y fs rs → (Op.eqFields d X Y fs).run P w = .ok (rs.all id) w
 | [], [], _ => by simp [Op.eqFields]
 | f :: fs, r :: rs, h => by
  obtain ⟨⟨hn, a, b, ha, hb, hr⟩, h2⟩ := h
  have ih := Z3E fs rs h2
  simp only [Op.eqFields, hn, ne_eq, not_false_eq_true, if_true, Sem.run_bind, ha, hb, hr, Result.andThen_ok]
  cases r
  ·simp
  ·simp [ih]
 | [], _ :: _, h => h.elim
 | _ :: _, [], h => h.elim
theorem Z1Z {P : Program} {w : World} {d : Nat} {X Y : Array Value} {t : TypeId} (fs : List Field) (rs : List Bool) (ht : P.underlying t = some (.struct ⟨fs⟩)) (hp : P.stoodInHeld t = false) (h : Z5q P w d X Y fs rs) :
  (Op.equalIn (d + 1) t (.agg X) (.agg Y)).run P w = .ok (rs.all id) w := by
 have hf : P.fieldsOf t = ⟨fs⟩ := by simp [Program.fieldsOf, ht]
 rw [run_equalIn_struct w d t X Y (by rw [hf]; exact ht) hp, hf]
 exact Z3E fs rs h
variable {P : Program} {ops : Array Oper} {Q : Exit → Act → World → Prop} {n : Nat} {f : Nat → Value} {w0 w w' : World} {o : Oper} {rest : List Oper} {G : List Ck} {C : World → Prop} {A : Act → Prop}
theorem wv (d : Nat) (v : Value) (k : WL P ops Q rest n (upd f d v) w) (hg : o.guard = none := by exact rfl) (hd : o.dst = some d := by exact rfl) (hr : (execOp (ev n f) o).run P w = .ok (.value v) w := by kernel_rfl) : WL P ops Q (o :: rest) n f w := Z6 (Z5 hg) hd hr k
theorem wy (j e : Nat) (b : Bool) (d : Nat) (v : Value) (k : WL P ops Q rest n (upd f d v) w) (hg : o.guard = some (j, b) := by exact rfl) (hj : (ops[j]?).bind (·.dst) = some e := by kernel_rfl) (he : Nat.blt e n = true := by exact rfl) (hv : f e = .bool b := by kernel_rfl) (hd : o.dst = some d := by exact rfl) (hr : (execOp (ev n f) o).run P w = .ok (.value v) w := by kernel_rfl) : WL P ops Q (o :: rest) n f w := Z6 (Z0k j e b hg hj he hv) hd hr k
theorem wn {d : Nat} (j e : Nat) (b : Bool) (k : WL P ops Q rest n (upd f d undef) w) (hg : o.guard = some (j, b) := by exact rfl) (hj : (ops[j]?).bind (·.dst) = some e := by kernel_rfl) (he : Nat.blt e n = true := by exact rfl) (hv : f e = .bool (!b) := by kernel_rfl) (hd : o.dst = some d := by exact rfl) : WL P ops Q (o :: rest) n f w := Z15 (Z0Q j e b hg hj he hv) hd k
theorem qv {Q : Act → Prop} (d : Nat) (v : Value) (k : WQ P ops C Q rest n (upd f d v)) (hg : o.guard = none := by exact rfl) (hd : o.dst = some d := by exact rfl) (hr : ∀ w, C w → (execOp (ev n f) o).run P w = .ok (.value v) w := by exact fun _ _ => by kernel_rfl) : WQ P ops C Q (o :: rest) n f := Z1B (Z5 hg) hd hr k
theorem qy {Q : Act → Prop} (j e : Nat) (b : Bool) (d : Nat) (v : Value) (k : WQ P ops C Q rest n (upd f d v)) (hg : o.guard = some (j, b) := by exact rfl) (hj : (ops[j]?).bind (·.dst) = some e := by kernel_rfl) (he : Nat.blt e n = true := by exact rfl) (hv : f e = .bool b := by kernel_rfl) (hd : o.dst = some d := by exact rfl) (hr : ∀ w, C w → (execOp (ev n f) o).run P w = .ok (.value v) w := by exact fun _ _ => by kernel_rfl) : WQ P ops C Q (o :: rest) n f := Z1B (Z0k j e b hg hj he hv) hd hr k
theorem qn {Q : Act → Prop} {d : Nat} (j e : Nat) (b : Bool) (k : WQ P ops C Q rest n (upd f d undef)) (hg : o.guard = some (j, b) := by exact rfl) (hj : (ops[j]?).bind (·.dst) = some e := by kernel_rfl) (he : Nat.blt e n = true := by exact rfl) (hv : f e = .bool (!b) := by kernel_rfl) (hd : o.dst = some d := by exact rfl) : WQ P ops C Q (o :: rest) n f := Z2v (Z0Q j e b hg hj he hv) hd k
theorem hv0 {S : World → Prop} {listed : Array Bool} {fuel : Nat} {Q : Exit → Act → World → Prop} (i : Nat) (HS : S w) (d : Nat) (v : Value) (k : WH P ops Q S fuel (listed.setIfInBounds i true) n (upd f d v) w) (hi : ops[i]? = some o := by exact rfl) (hs : Region.noSelect ops = true := by kernel_rfl) (hf : Region.free .any ops listed i = true := by kernel_rfl) (hr : (Region.ready .any ops listed).contains i = true := by kernel_rfl) (hQ : ∀ c a w, Q (.panic c) (a.put o.dst v) w → Q (.panic c) a w := by exact fun _ _ _ h => h)
  (hg : o.guard = none := by exact rfl) (hd : o.dst = some d := by exact rfl) (he : ∀ w, S w → (execOp (ev n f) o).run P w = .ok (.value v) w := by exact fun _ _ => by kernel_rfl) :
  WH P ops Q S (fuel + 1) listed n f w := Z0s i hi hs hf hr hQ HS (Z5 hg) hd he k
abbrev pt (b o : Nat) : Value := .pointer (some ⟨b, o, none⟩)
section
variable {P : Program} {ops : Array Oper} {Q : Exit → Act → World → Prop} {md : Region.Mode} {S : World → Prop} {B : Nat → Bool}
def Z4E (P : Program) (md : Region.Mode) (ops : Array Oper) (Q : Exit → Act → World → Prop) (S : World → Prop) (B : Nat → Bool) : Nat → Array Bool → Act → World → Prop
 | 0, listed, a, w => Region.ready md ops listed = [] ∧ Q .normal a w
 | fuel + 1, listed, a, w =>
  (Region.ready md ops listed = [] → Q .normal a w) ∧
  ∀ i ∈ Region.ready md ops listed, wpOp P ops Q i (fun a' w' => if B i = true then ∃ S2 : World → Prop, S2 w' ∧ wpAnyH P md ops Q S2 fuel (listed.setIfInBounds i true) a' w' else S w' ∧ Z4E P md ops Q S B fuel (listed.setIfInBounds i true) a' w') a w
theorem Z5o : ∀ (fuel : Nat) (listed : Array Bool) (a : Act) (w : World), Z4E P md ops Q S B fuel listed a w → wpAny P md ops Q fuel listed a w
 | 0, _, _, _, h => h
 | fuel + 1, _, _, _, h => ⟨h.1, fun i hi => wpOp_mono (fun a' w' h' => by
   split at h'
   ·obtain ⟨S2, _, h2⟩ := h'; exact wpAny_of_held fuel _ a' w' h2
   ·exact Z5o fuel _ a' w' h'.2) (h.2 i hi)⟩
theorem Z79 {i : Nat} {oi : Oper} {v : Value} (hi : ops[i]? = some oi) (hsel : ∀ (j : Nat) (o : Oper) cs b, ops[j]? = some o → o.op ≠ .select cs b)
  (hQ : ∀ c a w, Q (.panic c) (a.put oi.dst v) w → Q (.panic c) a w) (hiB : B i = false) (hB : ∀ j oj, B j = true → ops[j]? = some oj → ∃ e ∈ oj.after, Region.binds md e = true ∧ e.on = i) :
  ∀ (fuel : Nat) (listed : Array Bool) (a : Act) (w : World),
   (∀ j oj, ops[j]? = some oj → j ≠ i → listed.getD j true = false → (∀ e ∈ oj.after, Region.binds md e = true → e.on ≠ i) → oi.apart ops oj = true) →
   i ∈ Region.ready md ops listed → YieldsIf P ops S oi v a → S w →
   Z4E P md ops Q S B fuel (listed.setIfInBounds i true) (a.put oi.dst v) w → Z4E P md ops Q S B (fuel + 1) listed a w := by
 intro fuel
 induction fuel with
 | zero =>
  intro listed a w _ hr hy hS H
  refine ⟨fun h => (by rw [h] at hr; cases hr), fun j hj => ?_⟩
  by_cases hji : j = i
  ·subst hji; exact hy.wpOp hi hS (by rw [if_neg (by rw [hiB]; simp)]; exact ⟨hS, H⟩)
  ·have := ready_mono hj hji
   rw [H.1] at this
   cases this
 | succ fuel ih =>
  intro listed a w hfree hr hy hS H
  refine ⟨fun h => (by rw [h] at hr; cases hr), fun j hj => ?_⟩
  by_cases hji : j = i
  ·subst hji; exact hy.wpOp hi hS (by rw [if_neg (by rw [hiB]; simp)]; exact ⟨hS, H⟩)
  ·have h1 := H.2 j (ready_mono hj hji)
   obtain ⟨hjun, oj, hoj, hall⟩ := mem_ready.1 hj
   have hnot : ∀ e ∈ oj.after, Region.binds md e = true → e.on ≠ i := fun e he hb heq => by
    have h1 := hall e he hb
    have h0 := (mem_ready.1 hr).1
    rw [heq] at h1
    rcases Nat.lt_or_ge i listed.size with h' | h'
    ·simp [h'] at h0 h1; rw [h0] at h1; cases h1
    ·simp [Array.getElem?_eq_none h'] at h1
   have hjB : ¬ B j = true := fun hjb => by
    obtain ⟨e, he, hb, hon⟩ := hB j oj hjb hoj
    exact hnot e he hb hon
   have h2 := wpOp_putIf hoj (hfree j oj hoj hji hjun hnot) (fun cs b => hsel i oi cs b hi) (fun cs b => hsel j oj cs b hoj) hQ hy h1
   have hfree' : ∀ k ok, ops[k]? = some ok → k ≠ i → (listed.setIfInBounds j true).getD k true = false →
     (∀ e ∈ ok.after, Region.binds md e = true → e.on ≠ i) → oi.apart ops ok = true := fun k ok hk hki hun hno => by
    refine hfree k ok hk hki ?_ hno
    by_cases hjk : j = k
    ·subst hjk; exact hjun
    ·rw [getD_set_ne true hjk] at hun; exact hun
   refine wpOp_mono (fun a' w' h3 => ?_) h2
   have h4 := h3.2
   rw [if_neg hjB] at h4 ⊢
   refine ⟨h4.1, ih (listed.setIfInBounds j true) a' w' hfree' (ready_mono hr (Ne.symm hji)) h3.1 h4.1 ?_⟩
   rw [Array.setIfInBounds_comm _ _ hji]
   exact h4.2
theorem Z6e {i : Nat} {oi : Oper} {v : Value} (hi : ops[i]? = some oi) (hsel : ∀ (j : Nat) (o : Oper) cs b, ops[j]? = some o → o.op ≠ .select cs b)
  (hQ : ∀ c a w, Q (.panic c) (a.put oi.dst v) w → Q (.panic c) a w) (hiB : B i = false) :
  ∀ (fuel : Nat) (listed : Array Bool) (a : Act) (w : World),
   (∀ j oj, ops[j]? = some oj → j ≠ i → listed.getD j true = false → (∀ e ∈ oj.after, Region.binds md e = true → e.on ≠ i) → oi.apart ops oj = true) →
   i ∈ Region.ready md ops listed → YieldsIf P ops (fun _ => True) oi v a → S w →
   Z4E P md ops Q S B fuel (listed.setIfInBounds i true) (a.put oi.dst v) w → Z4E P md ops Q S B (fuel + 1) listed a w := by
 intro fuel
 induction fuel with
 | zero =>
  intro listed a w _ hr hy hS H
  refine ⟨fun h => (by rw [h] at hr; cases hr), fun j hj => ?_⟩
  by_cases hji : j = i
  ·subst hji; exact hy.wpOp hi trivial (by rw [if_neg (by rw [hiB]; simp)]; exact ⟨hS, H⟩)
  ·have := ready_mono hj hji
   rw [H.1] at this
   cases this
 | succ fuel ih =>
  intro listed a w hfree hr hy hS H
  refine ⟨fun h => (by rw [h] at hr; cases hr), fun j hj => ?_⟩
  by_cases hji : j = i
  ·subst hji; exact hy.wpOp hi trivial (by rw [if_neg (by rw [hiB]; simp)]; exact ⟨hS, H⟩)
  ·have h1 := H.2 j (ready_mono hj hji)
   obtain ⟨hjun, oj, hoj, hall⟩ := mem_ready.1 hj
   have hnot : ∀ e ∈ oj.after, Region.binds md e = true → e.on ≠ i := fun e he hb heq => by
    have h1 := hall e he hb
    have h0 := (mem_ready.1 hr).1
    rw [heq] at h1
    rcases Nat.lt_or_ge i listed.size with h' | h'
    ·simp [h'] at h0 h1; rw [h0] at h1; cases h1
    ·simp [Array.getElem?_eq_none h'] at h1
   have h2 := wpOp_putIf hoj (hfree j oj hoj hji hjun hnot) (fun cs b => hsel i oi cs b hi) (fun cs b => hsel j oj cs b hoj) hQ hy h1
   have hfree' : ∀ k ok, ops[k]? = some ok → k ≠ i → (listed.setIfInBounds j true).getD k true = false →
     (∀ e ∈ ok.after, Region.binds md e = true → e.on ≠ i) → oi.apart ops ok = true := fun k ok hk hki hun hno => by
    refine hfree k ok hk hki ?_ hno
    by_cases hjk : j = k
    ·subst hjk; exact hjun
    ·rw [getD_set_ne true hjk] at hun; exact hun
   refine wpOp_mono (fun a' w' h3 => ?_) h2
   have h4 := h3.2
   by_cases hjB : B j = true
   ·rw [if_pos hjB] at h4 ⊢
    obtain ⟨S2, hS2, h5⟩ := h4
    refine ⟨S2, hS2, wpAnyH_first hi hsel hQ fuel (listed.setIfInBounds j true) a' w' hfree' (ready_mono hr (Ne.symm hji)) (h3.1.imp (fun ⟨q1, q2⟩ => ⟨q1, fun w _ => q2 w trivial⟩) id) hS2 ?_⟩
    rw [Array.setIfInBounds_comm _ _ hji]
    exact h5
   ·rw [if_neg hjB] at h4 ⊢
    refine ⟨h4.1, ih (listed.setIfInBounds j true) a' w' hfree' (ready_mono hr (Ne.symm hji)) h3.1 h4.1 ?_⟩
    rw [Array.setIfInBounds_comm _ _ hji]
    exact h4.2
end
structure WK (P : Program) (ops : Array Oper) (Q : Exit → Act → World → Prop) (S : World → Prop) (B : Nat → Bool) (fuel : Nat) (listed : Array Bool) (n : Nat) (f : Nat → Value) (w : World) : Prop where
 h : Z4E P .any ops Q S B fuel listed (fr n f) w
def Zcj (ops : Array Oper) (B : List Nat) (i : Nat) : Bool := B.all fun j => match ops[j]? with
 | some oj => oj.after.any fun e => Region.binds .any e && Nat.beq e.on i
 | none => true
theorem Z8N {ops : Array Oper} {B : List Nat} {i : Nat} (h : Zcj ops B i = true) : ∀ j oj, Z20 B j = true → ops[j]? = some oj → ∃ e ∈ oj.after, Region.binds .any e = true ∧ e.on = i := by
 intro j oj hj ho
 have := List.all_eq_true.1 h j ((Z87 B j).1 hj)
 rw [ho] at this
 simp only [Array.any_eq_true', Bool.and_eq_true] at this
 obtain ⟨e, he, h1, h2⟩ := this
 exact ⟨e, he, h1, Nat.eq_of_beq_eq_true h2⟩
section
variable {P : Program} {ops : Array Oper} {S : World → Prop} {B : List Nat} {Q : Exit → Act → World → Prop} {n : Nat} {f : Nat → Value} {w0 w w' : World} {o : Oper} {G : List Ck} {listed : Array Bool} {fuel : Nat}
theorem Z1o {id : Nat} {l : List Oper} (H : Sat w0 G w) (Gs : List Ck) (B : List Nat) (m : Nat) (hl : l.length = m) (hm : P.follows .mixedOrders = true) (hs : Sat w0 G w.drew → Sat w0 Gs w.drew) (k : ∀ w1, Sat w0 G w1 → Sat w0 Gs w1 → WK P l.toArray Q (Sat w0 Gs) (Z20 B) m (Array.replicate m false) n f w1) :
  WC P (Code.region id l.toArray true) Q n f w := by
 subst hl
 exact ⟨wp_region_any hm (Z5o (S := Sat w0 Gs) (B := Z20 B) _ _ _ _ (by simpa using (k w.drew H.drew (hs H.drew)).h))⟩
theorem ZaI {v : Value} (i : Nat) (hi : ops[i]? = some o) (hs : Region.noSelect ops = true) (hf : Region.free .any ops listed i = true) (hr : (Region.ready .any ops listed).contains i = true) (hQ : ∀ c a w, Q (.panic c) (a.put o.dst v) w → Q (.panic c) a w) (HS : S w)
  (hw : Z1w ops o n f true) (hiB : Z20 B i = false) (hB : Zcj ops B i = true) {d : Nat} (hd : o.dst = some d) (he : ∀ w, S w → (execOp (ev n f) o).run P w = .ok (.value v) w) (k : WK P ops Q S (Z20 B) fuel (listed.setIfInBounds i true) n (upd f d v) w) :
  WK P ops Q S (Z20 B) (fuel + 1) listed n f w :=
 ⟨Z79 hi (Region.noSelect_spec hs) hQ hiB (Z8N hB) fuel listed _ w (Region.free_spec hi hf) (by simpa using hr) (.inl ⟨hw.h, by rw [Z1M]; exact he⟩) HS (by rw [hd, Z2o]; exact k.h)⟩
theorem Z0Y {v : Value} (i : Nat) (hi : ops[i]? = some o) (hs : Region.noSelect ops = true) (hf : Region.free .any ops listed i = true) (hr : (Region.ready .any ops listed).contains i = true) (hQ : ∀ c a w, Q (.panic c) (a.put o.dst v) w → Q (.panic c) a w) (HS : S w)
  (hw : Z1w ops o n f true) (hiB : Z20 B i = false) {d : Nat} (hd : o.dst = some d) (he : ∀ w, (execOp (ev n f) o).run P w = .ok (.value v) w) (k : WK P ops Q S (Z20 B) fuel (listed.setIfInBounds i true) n (upd f d v) w) :
  WK P ops Q S (Z20 B) (fuel + 1) listed n f w :=
 ⟨Z6e hi (Region.noSelect_spec hs) hQ hiB fuel listed _ w (Region.free_spec hi hf) (by simpa using hr) (.inl ⟨hw.h, by rw [Z1M]; exact fun w _ => he w⟩) HS (by rw [hd, Z2o]; exact k.h)⟩
theorem k_do (i : Nat) (hi : ops[i]? = some o) (hr : Region.ready .any ops listed = [i]) (hw : Z1w ops o n f true) (hiB : Z20 B i = false)
  (k : ∀ K : Act → World → Prop, (∀ g w', S w' → (WK P ops Q S (Z20 B) fuel (listed.setIfInBounds i true) n g w') → K (fr n g) w') → WO P o K Q n f w) : WK P ops Q S (Z20 B) (fuel + 1) listed n f w := by
 refine ⟨⟨fun h0 => absurd (hr ▸ h0) (by simp), fun j hj => ?_⟩⟩
 rw [hr] at hj
 obtain rfl := List.mem_singleton.1 hj
 refine wpOp_step hi fun K' hK => ?_
 rw [if_pos hw.h]
 exact (k K' fun g w' hS hk => hK _ _ (by rw [if_neg (by rw [hiB]; simp)]; exact ⟨hS, hk.h⟩)).h
theorem Z3u (i : Nat) (S2 : World → Prop) (hi : ops[i]? = some o) (hr : Region.ready .any ops listed = [i]) (hw : Z1w ops o n f true) (hiB : Z20 B i = true)
  (k : ∀ K : Act → World → Prop, (∀ g w', S2 w' → (WH P ops Q S2 fuel (listed.setIfInBounds i true) n g w') → K (fr n g) w') → WO P o K Q n f w) : WK P ops Q S (Z20 B) (fuel + 1) listed n f w := by
 refine ⟨⟨fun h0 => absurd (hr ▸ h0) (by simp), fun j hj => ?_⟩⟩
 rw [hr] at hj
 obtain rfl := List.mem_singleton.1 hj
 refine wpOp_step hi fun K' hK => ?_
 rw [if_pos hw.h]
 exact (k K' fun g w' hS hk => hK _ _ (by rw [if_pos hiB]; exact ⟨S2, hS, hk.h⟩)).h
end
end Go.Proofs.YtgigjkjdmalmaaaGreat
namespace Go.Proofs.YtgigjkjdmalmaaaGreat
open Go.RowKit
open Go.ChangeMaps (setBlock)
theorem Z69 {w : World} {r : Nat} {o' o : Obj} (h : w.heap[r]? = some o') : (setBlock w r o).heap[r]? = some o := by
 have := Z0J h
 simp [setBlock, this]
theorem Z4Q {w : World} {r k : Nat} {o : Obj} (h : r ≠ k) : (setBlock w r o).heap[k]? = w.heap[k]? := by
 simp [setBlock, h]
section
variable {κ ν : Type} {encK : κ → Value} {encV : ν → Value}
def IterAt (w : World) (r b : Nat) (encK : κ → Value) (encV : ν → Value) (l seen : List (κ × ν)) : Prop :=
 r ≠ b ∧ ∃ (es : Array MapEntry) (clock c0 : Nat) (ps sp rp : List (MapEntry × (κ × ν))), w.heap[b]? = some (.map es clock) ∧ w.heap[r]? = some (.mapIter (some b) clock (sp.map (·.1.born)).toArray c0) ∧ clock ≤ c0 ∧
  ps.map (·.1) = es.toList ∧ ps.map (·.2) = l ∧ (∀ p ∈ ps, p.1.key = encK p.2.1 ∧ p.1.val = encV p.2.2) ∧ (l.map (·.1)).Nodup ∧
  (es.toList.map (·.born)).Pairwise (· < ·) ∧ (∀ e ∈ es.toList, e.born < clock) ∧ ps.Perm (sp ++ rp) ∧ sp.map (·.2) = seen
def IterAtE (w : World) (r b : Nat) (encK : κ → Value) (encV : ν → Value) (l seen : List (κ × ν)) : Prop :=
 r ≠ b ∧ ∃ (es : Array MapEntry) (clock : Nat) (ps sp rp : List (MapEntry × (κ × ν))), w.heap[b]? = some (.map es clock) ∧ w.heap[r]? = some (.mapIter (some b) clock (sp.map (·.1.born)).toArray clock) ∧
  ps.map (·.1) = es.toList ∧ ps.map (·.2) = l ∧ (∀ p ∈ ps, p.1.key = encK p.2.1 ∧ p.1.val = encV p.2.2) ∧ (l.map (·.1)).Nodup ∧
  (es.toList.map (·.born)).Pairwise (· < ·) ∧ (∀ e ∈ es.toList, e.born < clock) ∧ ps.Perm (sp ++ rp) ∧ sp.map (·.2) = seen
theorem IterAtE.it {w : World} {r b : Nat} {l seen : List (κ × ν)} (h : IterAtE w r b encK encV l seen) : IterAt w r b encK encV l seen := by
 obtain ⟨hne, es, clock, ps, sp, rp, h1, h2, rest⟩ := h
 exact ⟨hne, es, clock, clock, ps, sp, rp, h1, h2, Nat.le_refl _, rest⟩
theorem IterAt.perm {w : World} {r b : Nat} {l seen : List (κ × ν)} (h : IterAt w r b encK encV l seen) : ∃ rest, l.Perm (seen ++ rest) := by
 obtain ⟨_, es, clock, c0, ps, sp, rp, _, _, _, _, h2, _, _, _, _, hp, rfl⟩ := h
 exact ⟨rp.map (·.2), by rw [← h2, ← List.map_append]; exact hp.map _⟩
theorem MapAt.pairs {w : World} {b : Nat} {l : List (κ × ν)} (h : MapAt w b encK encV l) : ∃ (es : Array MapEntry) (clock : Nat) (ps : List (MapEntry × (κ × ν))), w.heap[b]? = some (.map es clock) ∧ ps.map (·.1) = es.toList ∧ ps.map (·.2) = l ∧ (∀ p ∈ ps, p.1.key = encK p.2.1 ∧ p.1.val = encV p.2.2) ∧ (l.map (·.1)).Nodup ∧
  (es.toList.map (·.born)).Pairwise (· < ·) ∧ (∀ e ∈ es.toList, e.born < clock) := by
 obtain ⟨es, clock, hb, he, hn, hp, hc⟩ := h
 have hl : es.toList.length = l.length := by have := congrArg List.length he; simpa using this
 refine ⟨es, clock, es.toList.zip l, hb, List.map_fst_zip (by omega), List.map_snd_zip (by omega), ?_, hn, hp, hc⟩
 intro p hp
 obtain ⟨i, hi, rfl⟩ := List.mem_iff_getElem.1 hp
 simp only [List.length_zip] at hi
 have := congrArg (fun m => m[i]?) he
 simp only [List.getElem?_map, List.getElem?_eq_getElem (show i < es.toList.length by omega), List.getElem?_eq_getElem (show i < l.length by omega), Option.map_some, Option.some.injEq, Prod.mk.injEq] at this
 simpa using this
theorem IterAt.map {w : World} {r b : Nat} {l seen : List (κ × ν)} (h : IterAt w r b encK encV l seen) : MapAt w b encK encV l := by
 obtain ⟨_, es, clock, c0, ps, sp, rp, h1, _, _, h3, h4, h5, h6, h7, h8, _⟩ := h
 refine ⟨es, clock, h1, ?_, h6, h7, h8⟩
 rw [← h3, ← h4, List.map_map, List.map_map]
 refine List.map_congr_left fun p hp => ?_
 obtain ⟨ha, hb⟩ := h5 p hp
 simp [ha, hb]
section
variable {P : Program} {n : Nat} {f : Nat → Value} {w0 w w' : World} {G : List Ck} {dst : Option Tmp} {ty : TypeId} {pos : String} {aft : Array Edge} {gd : Option (Nat × Bool)} {K : Act → World → Prop} {Q : Exit → Act → World → Prop} {b r : Nat} {l seen : List (κ × ν)}
end
def IterR (W w : World) (r b : Nat) (encK : κ → Value) (encV : ν → Value) (l seen : List (κ × ν)) : Prop :=
 r ≠ b ∧ ∃ (es : Array MapEntry) (clock : Nat) (ps sp rp : List (MapEntry × (κ × ν))), W.heap[b]? = some (.map es clock) ∧ w.heap[r]? = some (.mapIter (some b) clock (sp.map (·.1.born)).toArray clock) ∧
  ps.map (·.1) = es.toList ∧ ps.map (·.2) = l ∧ (∀ p ∈ ps, p.1.key = encK p.2.1 ∧ p.1.val = encV p.2.2) ∧ (l.map (·.1)).Nodup ∧
  (es.toList.map (·.born)).Pairwise (· < ·) ∧ (∀ e ∈ es.toList, e.born < clock) ∧ ps.Perm (sp ++ rp) ∧ sp.map (·.2) = seen
def Z8u (W : World) (r b : Nat) (encK : κ → Value) (encV : ν → Value) (l seen : List (κ × ν)) : Ck where
 fp k := k = r
 ok w := IterR W w r b encK encV l seen
 stay h hb := by
  obtain ⟨hne, es, clock, ps, sp, rp, h1, h2, rest⟩ := h
  exact ⟨hne, es, clock, ps, sp, rp, h1, (hb r rfl).trans h2, rest⟩
 lt h k hk := by
  obtain ⟨hne, es, clock, ps, sp, rp, h1, h2, rest⟩ := h
  exact hk ▸ Z0J h2
theorem Sat.ro {w0 w : World} {G : List Ck} (H : Sat w0 G w) {W : World} {D : Nat → Prop} (i : Nat) (hi : G[i]? = some (Z7 W D)) {b : Nat} (hb : b < W.heap.size) (hD : ¬ D b) : w.heap[b]? = W.heap[b]? := H.at i hi b hb hD
theorem Sat.roMap {w0 w : World} {G : List Ck} (H : Sat w0 G w) {W : World} {D : Nat → Prop} (i : Nat) (hi : G[i]? = some (Z7 W D)) {b : Nat} {l : List (κ × ν)} (hm : MapAt W b encK encV l) (hD : ¬ D b) : MapAt w b encK encV l := hm.stay (H.ro i hi hm.lt hD)
theorem Sat.roCells {w0 w : World} {G : List Ck} (H : Sat w0 G w) {W : World} {D : Nat → Prop} (i : Nat) (hi : G[i]? = some (Z7 W D)) {b : Nat} {o : Obj} (hm : W.heap[b]? = some o) (hD : ¬ D b) : w.heap[b]? = some o := (H.ro i hi (Z0J hm) hD).trans hm
theorem Sat.roCell {w0 w : World} {G : List Ck} (H : Sat w0 G w) {W : World} {D : Nat → Prop} (i : Nat) (hi : G[i]? = some (Z7 W D)) {b o : Nat} {T : TypeId} {cs : List Value} {v : Value} (hm : W.heap[b]? = some (.cells ⟨cs⟩ T (0, 0))) (hD : ¬ D b) (hv : cs[o]? = some v) : w.cell? ⟨b, o, none⟩ = some v := by
 rw [Z0C (H.roCells i hi hm hD) o]; simpa using hv
section
variable {P : Program} {n : Nat} {f : Nat → Value} {w0 w w' W : World} {D : Nat → Prop} {G : List Ck} {dst : Option Tmp} {ty : TypeId} {pos : String} {aft : Array Edge} {gd : Option (Nat × Bool)} {K : Act → World → Prop} {Q : Exit → Act → World → Prop} {b r : Nat} {l seen : List (κ × ν)}
theorem Z7T {T kt et : TypeId} {x : Operand} {d : Nat} (hd : dst = some d) (H : Sat w0 G w) (j : Nat) (hj : G[j]? = some (Z7 W D)) (hm : MapAt W b encK encV l) (hD : ¬ D b) (hT : P.underlying T = some (.map kt et)) (hx : ev n f x = .map (some b))
  (k : ∀ r w', Sat w0 (G ++ [Z8u W r b encK encV l []]) w' → K (fr n (upd f d (.pointer (some ⟨r, 0, none⟩)))) w') : WO P ⟨dst, .range T x, ty, pos, aft, gd⟩ K Q n f w := by
 obtain ⟨es, clock, ps, hW, h1, h2, h3, h4, h5, h6⟩ := hm.pairs
 have hb := H.roCells j hj hW hD
 have hr : (execOp (ev n f) ⟨dst, .range T x, ty, pos, aft, gd⟩).run P w = .ok (.value (.pointer (some ⟨w.heap.size, 0, none⟩))) (w.alloc (.mapIter (some b) clock #[] clock)) := by
  simp only [execOp, hx]
  simp [run_range_map w T kt et b es clock hT hb, Result.andThen]
 refine Z30 hd hr (k _ _ ?_)
 have hlt := Z0J hb
 exact H.add ⟨rfl, rfl, rfl, by simp⟩ (fun k hk => Below.heap_alloc w _ k hk) ⟨by omega, es, clock, ps, [], ps, hW, Z13 w _, h1, h2, h3, h4, h5, h6, by simp, rfl⟩ (fun k hk => Nat.le_of_eq hk.symm)
theorem Z95 {x : Operand} {d : Nat} (hd : dst = some d) (H : Sat w0 G w) (i : Nat) (hi : G[i]? = some (Z8u W r b encK encV l seen)) (j : Nat) (hj : G[j]? = some (Z7 W D)) (hD : ¬ D b) (hx : ev n f x = .pointer (some ⟨r, 0, none⟩))
  (k0 : l.Perm seen → K (fr n (upd f d (.tuple #[.bool false]))) w)
  (k1 : ∀ (y : κ × ν) (rest : List (κ × ν)) w', l.Perm ((seen ++ [y]) ++ rest) → Sat w0 (G.set i (Z8u W r b encK encV l (seen ++ [y]))) w' → K (fr n (upd f d (.tuple #[.bool true, encK y.1, encV y.2]))) w') : WO P ⟨dst, .next x false, ty, pos, aft, gd⟩ K Q n f w := by
 obtain ⟨hne, es, clock, ps, sp, rp, hW, h2, h3, h4, h5, h6, h7, h8, hp, rfl⟩ := H.at i hi
 have h1 := H.roCells j hj hW hD
 have hbn : (es.toList.map (·.born)).Nodup := List.Pairwise.imp (fun h => Nat.ne_of_lt h) h7
 have hbn2 : ((sp ++ rp).map (·.1.born)).Nodup := by
  have : (ps.map (·.1.born)).Nodup := by
   have e : ps.map (·.1.born) = es.toList.map (·.born) := by rw [← h3, List.map_map]; rfl
   rw [e]; exact hbn
  exact (hp.map _).nodup_iff.1 this
 rcases run_next_at (P := P) w ty r b clock clock (sp.map (·.1.born)).toArray es clock h2 h1 h8 (Nat.le_refl _) with ⟨h0, hr⟩ | ⟨e, he, w1, hw1, hr⟩
 ·have hrp : rp = [] := by
   rcases rp with _ | ⟨p, rp⟩
   ·rfl
   ·exfalso
    have hpm : p ∈ ps := hp.symm.subset (by simp)
    have hem : p.1 ∈ es.toList := by rw [← h3]; exact List.mem_map_of_mem hpm
    have hns : p.1.born ∉ sp.map (·.1.born) := by
     rw [List.map_append, List.nodup_append] at hbn2
     intro hx
     exact hbn2.2.2 _ hx p.1.born (by simp) rfl
    have : p.1 ∈ (leftOf es (sp.map (·.1.born)).toArray).toList := by
     simp only [leftOf, Array.toList_filter, List.mem_filter]
     refine ⟨hem, ?_⟩
     simpa using fun a c hac => fun e => hns (List.mem_map.2 ⟨(a, c), hac, e⟩)
    have h0' : (leftOf es (sp.map (·.1.born)).toArray).toList = [] := by simpa using h0
    rw [h0'] at this; cases this
  subst hrp
  have hr' : (execOp (ev n f) ⟨dst, .next x false, ty, pos, aft, gd⟩).run P w = .ok (.value (.tuple #[.bool false])) w := by
   simp only [execOp, hx]
   simp [hr, Result.andThen]
  refine Z30 hd hr' (k0 ?_)
  rw [← h4]
  simpa using hp.map (·.2)
 ·have hr' : (execOp (ev n f) ⟨dst, .next x false, ty, pos, aft, gd⟩).run P w = .ok (.value (.tuple #[.bool true, e.key, e.val])) (setBlock w1 r (.mapIter (some b) clock ((sp.map (·.1.born)).toArray.push e.born) clock)) := by
   simp only [execOp, hx]
   simp [hr, Result.andThen]
  simp only [leftOf, Array.toList_filter, List.mem_filter] at he
  obtain ⟨hem, hns⟩ := he
  rw [← h3] at hem
  obtain ⟨p, hpm, rfl⟩ := List.mem_map.1 hem
  have hpr : p ∈ rp := by
   rcases List.mem_append.1 (hp.subset hpm) with h | h
   ·exfalso
    simp only [List.contains_toArray, Bool.not_eq_true', List.contains_eq_mem, decide_eq_false_iff_not] at hns
    exact hns (List.mem_map.2 ⟨p, h, rfl⟩)
   ·exact h
  obtain ⟨s, t, rfl⟩ := List.append_of_mem hpr
  have hp2 : ps.Perm ((sp ++ [p]) ++ (s ++ t)) := by
   refine hp.trans ?_
   rw [List.append_assoc]
   exact List.Perm.append_left _ (List.perm_middle)
  obtain ⟨ek, evv⟩ := h5 p hpm
  rw [ek, evv] at hr'
  have hw1h : w1.heap = w.heap := by rcases hw1 with rfl | rfl <;> rfl
  have hr1 : w1.heap[r]? = some (.mapIter (some b) clock (sp.map (·.1.born)).toArray clock) := by rw [hw1h]; exact h2
  refine Z30 hd hr' (k1 p.2 ((s ++ t).map (·.2)) _ ?_ ?_)
  ·rw [← h4]
   simpa using hp2.map (·.2)
  ·refine H.set i hi ?_ ?_ ?_ (fun k hk => .inl hk)
   ·rcases hw1 with rfl | rfl <;> exact ⟨rfl, rfl, rfl, by simp [setBlock]⟩
   ·intro k _ hk
    rw [Z4Q (fun e => hk e.symm), hw1h]
   ·refine ⟨hne, es, clock, ps, sp ++ [p], s ++ t, hW, ?_, h3, h4, h5, h6, h7, h8, hp2, by simp⟩
    rw [Z69 hr1]
    simp
theorem Zat {x : Operand} {y : κ × ν} (h : IterR W w r b encK encV l (seen ++ [y])) (hWw : w.heap[b]? = W.heap[b]?) (hx : ev n f x = .pointer (some ⟨r, 0, none⟩)) :
  (execOp (ev n f) ⟨dst, .entry x, ty, pos, aft, gd⟩).run P w = .ok (.value (.tuple #[encK y.1, encV y.2])) w := by
 obtain ⟨hne, es, clock, ps, sp, rp, hW, h2, h3, h4, h5, h6, h7, h8, hp, hs⟩ := h
 have h1 := hWw.trans hW
 have hbn : (es.toList.map (·.born)).Nodup := List.Pairwise.imp (fun h => Nat.ne_of_lt h) h7
 obtain ⟨sp', p, rfl⟩ : ∃ sp' p, sp = sp' ++ [p] := by
  rcases List.eq_nil_or_concat sp with rfl | ⟨a, c, rfl⟩
  ·simp at hs
  ·exact ⟨a, c, by simp⟩
 simp only [List.map_append, List.map_cons, List.map_nil] at hs
 have hpy : p.2 = y := by have := List.append_inj_right' hs rfl; simpa using this
 have hpm : p ∈ ps := hp.symm.subset (by simp)
 have hem : p.1 ∈ es.toList := by rw [← h3]; exact List.mem_map_of_mem hpm
 obtain ⟨ek, evv⟩ := h5 p hpm
 have h2' : w.heap[r]? = some (.mapIter (some b) clock ((sp'.map (·.1.born)).toArray.push p.1.born) clock) := by
  rw [h2]; simp
 have := run_entry_at (P := P) w r b clock _ es clock p.1 h2' h1 hem hbn
 rw [ek, evv, hpy] at this
 simp only [execOp, hx]
 simp [this, Result.andThen]
theorem Sat.entryR (H : Sat w0 G w) {x : Operand} {y : κ × ν} (i : Nat) (hi : G[i]? = some (Z8u W r b encK encV l (seen ++ [y]))) (j : Nat) (hj : G[j]? = some (Z7 W D)) (hD : ¬ D b) (hx : ev n f x = .pointer (some ⟨r, 0, none⟩)) :
  (execOp (ev n f) ⟨dst, .entry x, ty, pos, aft, gd⟩).run P w = .ok (.value (.tuple #[encK y.1, encV y.2])) w := by
 have h := H.at i hi
 obtain ⟨hne, es, clock, ps, sp, rp, hW, _⟩ := id h
 exact Zat h (H.ro j hj (Z0J hW) hD) hx
end
end
end Go.Proofs.YtgigjkjdmalmaaaGreat
