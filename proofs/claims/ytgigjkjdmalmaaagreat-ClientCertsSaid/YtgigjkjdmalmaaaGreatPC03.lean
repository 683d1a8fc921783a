/- WHAT IS PROVED: contracts and plain laws of Hash, Short, Break, Iter, Entry, Sep. Conditions: stated with each. -/
import Derived.Stop.BytesEq
import Derived.Maps.RangeRun
import Derived.Test.YtgigjkjdmalmaaaGreatPC02
set_option maxHeartbeats 4000000
set_option maxRecDepth 100000
namespace Go.Proofs.YtgigjkjdmalmaaaGreat
open Go.RowKit
structure Z1H where
 l : List UInt8
 len : l.length = 32
 deriving DecidableEq
def hc (h : Z1H) : List Value := (List.range 32).map fun i => Z27 (h.l.getD i 0)
theorem Z4u (h : Z1H) : hc h = h.l.map Z27 := by
 unfold hc
 refine List.ext_getElem (by simp [h.len]) fun i h1 h2 => ?_
 simp only [List.length_map] at h2
 simp [List.getD, List.getElem?_eq_getElem h2]
@[simp] theorem Z4v (h : Z1H) : (hc h).length = 32 := by simp [hc]
def Z6l (h : Z1H) : Value := .agg ⟨hc h⟩
def Zb : Z1H := ⟨List.replicate 32 0, by simp⟩
theorem Z2P (w : World) (d : Nat) (a b : Z1H) : (Op.equalIn (d + 2) 40 (Z6l a) (Z6l b)).run Tryz.prog w = .ok (decide (a = b)) w := by
 have := run_equalIn_bytes (P := Tryz.prog) w d 40 5 32 (by kernel_rfl) (by kernel_rfl) (fun w => by kernel_rfl) a.l b.l a.len b.len
 unfold Z6l
 rw [Z4u, Z4u]
 refine Eq.trans this ?_
 congr 1
 rw [Bool.eq_iff_iff]
 simp only [beq_iff_eq, decide_eq_true_eq]
 obtain ⟨a, ha⟩ := a
 obtain ⟨b, hb⟩ := b
 simp
theorem Z75 {n : Nat} {f : Nat → Value} {w : World} {dst : Option Tmp} {ty : TypeId} {pos : String} {aft : Array Edge} {gd : Option (Nat × Bool)} {x y : Operand} {T : TypeId} (a b : Z1H) (hx : ev n f x = .agg ⟨hc a⟩) (hy : ev n f y = .agg ⟨hc b⟩) :
  (execOp (ev n f) ⟨dst, .binOp .eql 40 x y T, ty, pos, aft, gd⟩).run Tryz.prog w = .ok (.value (.bool (decide (a = b)))) w := by
 have h := Z2P w 9998 a b
 unfold Z6l at h
 simp only [execOp, hx, hy]
 simp only [Sem.run_bind, run_eqGuard_agg w _ _ _ _ _ _ (show Tryz.prog.eqGuardType Tryz.prog.depth 40 = false by kernel_rfl), Result.andThen_ok, run_eql_struct, h, Sem.run_pure]
theorem Z77 {n : Nat} {f : Nat → Value} {w : World} {dst : Option Tmp} {ty : TypeId} {pos : String} {aft : Array Edge} {gd : Option (Nat × Bool)} {x y : Operand} {T : TypeId} (a b : Z1H) (hx : ev n f x = .agg ⟨hc a⟩) (hy : ev n f y = .agg ⟨hc b⟩) :
  (execOp (ev n f) ⟨dst, .binOp .neq 40 x y T, ty, pos, aft, gd⟩).run Tryz.prog w = .ok (.value (.bool (!decide (a = b)))) w := by
 have h := Z2P w 9998 a b
 unfold Z6l at h
 simp only [execOp, hx, hy]
 simp only [Sem.run_bind, run_eqGuard_agg w _ _ _ _ _ _ (show Tryz.prog.eqGuardType Tryz.prog.depth 40 = false by kernel_rfl), Result.andThen_ok, run_neq_struct, h, Sem.run_pure]
variable {P : Program} {ops : Array Oper} {Q : Exit → Act → World → Prop} {n : Nat} {f : Nat → Value} {w0 w w' : World} {o : Oper} {rest : List Oper} {G : List Ck} {C : World → Prop} {A : Act → Prop}
theorem wv (d : Nat) (v : Value) (k : WL P ops Q rest n (upd f d v) w) (hg : o.guard = none := by exact rfl) (hd : o.dst = some d := by exact rfl) (hr : (execOp (ev n f) o).run P w = .ok (.value v) w := by kernel_rfl) : WL P ops Q (o :: rest) n f w := Z5 (Z2 hg) hd hr k
theorem wy (j e : Nat) (b : Bool) (d : Nat) (v : Value) (k : WL P ops Q rest n (upd f d v) w) (hg : o.guard = some (j, b) := by exact rfl) (hj : (ops[j]?).bind (·.dst) = some e := by kernel_rfl) (he : Nat.blt e n = true := by exact rfl) (hv : f e = .bool b := by kernel_rfl) (hd : o.dst = some d := by exact rfl) (hr : (execOp (ev n f) o).run P w = .ok (.value v) w := by kernel_rfl) : WL P ops Q (o :: rest) n f w := Z5 (Zw j e b hg hj he hv) hd hr k
theorem wn {d : Nat} (j e : Nat) (b : Bool) (k : WL P ops Q rest n (upd f d undef) w) (hg : o.guard = some (j, b) := by exact rfl) (hj : (ops[j]?).bind (·.dst) = some e := by kernel_rfl) (he : Nat.blt e n = true := by exact rfl) (hv : f e = .bool (!b) := by kernel_rfl) (hd : o.dst = some d := by exact rfl) : WL P ops Q (o :: rest) n f w := ZI (Zx j e b hg hj he hv) hd k
theorem qv {Q : Act → Prop} (d : Nat) (v : Value) (k : WQ P ops C Q rest n (upd f d v)) (hg : o.guard = none := by exact rfl) (hd : o.dst = some d := by exact rfl) (hr : ∀ w, C w → (execOp (ev n f) o).run P w = .ok (.value v) w := by exact fun _ _ => by kernel_rfl) : WQ P ops C Q (o :: rest) n f := Z0C (Z2 hg) hd hr k
theorem qy {Q : Act → Prop} (j e : Nat) (b : Bool) (d : Nat) (v : Value) (k : WQ P ops C Q rest n (upd f d v)) (hg : o.guard = some (j, b) := by exact rfl) (hj : (ops[j]?).bind (·.dst) = some e := by kernel_rfl) (he : Nat.blt e n = true := by exact rfl) (hv : f e = .bool b := by kernel_rfl) (hd : o.dst = some d := by exact rfl) (hr : ∀ w, C w → (execOp (ev n f) o).run P w = .ok (.value v) w := by exact fun _ _ => by kernel_rfl) : WQ P ops C Q (o :: rest) n f := Z0C (Zw j e b hg hj he hv) hd hr k
theorem qn {Q : Act → Prop} {d : Nat} (j e : Nat) (b : Bool) (k : WQ P ops C Q rest n (upd f d undef)) (hg : o.guard = some (j, b) := by exact rfl) (hj : (ops[j]?).bind (·.dst) = some e := by kernel_rfl) (he : Nat.blt e n = true := by exact rfl) (hv : f e = .bool (!b) := by kernel_rfl) (hd : o.dst = some d := by exact rfl) : WQ P ops C Q (o :: rest) n f := q_pass (Zx j e b hg hj he hv) hd k
theorem hv0 {S : World → Prop} {listed : Array Bool} {fuel : Nat} {Q : Exit → Act → World → Prop} (i : Nat) (HS : S w) (d : Nat) (v : Value) (k : WH P ops Q S fuel (listed.setIfInBounds i true) n (upd f d v) w) (hi : ops[i]? = some o := by exact rfl) (hs : Region.noSelect ops = true := by kernel_rfl) (hf : Region.free .any ops listed i = true := by kernel_rfl) (hr : (Region.ready .any ops listed).contains i = true := by kernel_rfl) (hQ : ∀ c a w, Q (.panic c) (a.put o.dst v) w → Q (.panic c) a w := by exact fun _ _ _ h => h)
  (hg : o.guard = none := by exact rfl) (hd : o.dst = some d := by exact rfl) (he : ∀ w, S w → (execOp (ev n f) o).run P w = .ok (.value v) w := by exact fun _ _ => by kernel_rfl) :
  WH P ops Q S (fuel + 1) listed n f w := Zp i hi hs hf hr hQ HS (Z2 hg) hd he k
abbrev pt (b o : Nat) : Value := .pointer (some ⟨b, o, none⟩)
section
variable {P : Program} {ops : Array Oper} {Q : Exit → Act → World → Prop} {md : Region.Mode} {S : World → Prop} {B : Nat → Bool}
def Z3p (P : Program) (md : Region.Mode) (ops : Array Oper) (Q : Exit → Act → World → Prop) (S : World → Prop) (B : Nat → Bool) : Nat → Array Bool → Act → World → Prop
 | 0, listed, a, w => Region.ready md ops listed = [] ∧ Q .normal a w
 | fuel + 1, listed, a, w =>
  (Region.ready md ops listed = [] → Q .normal a w) ∧
  ∀ i ∈ Region.ready md ops listed, wpOp P ops Q i (fun a' w' => if B i = true then ∃ S2 : World → Prop, S2 w' ∧ wpAnyH P md ops Q S2 fuel (listed.setIfInBounds i true) a' w' else S w' ∧ Z3p P md ops Q S B fuel (listed.setIfInBounds i true) a' w') a w
theorem Z3U : ∀ (fuel : Nat) (listed : Array Bool) (a : Act) (w : World), Z3p P md ops Q S B fuel listed a w → wpAny P md ops Q fuel listed a w
 | 0, _, _, _, h => h
 | fuel + 1, _, _, _, h => ⟨h.1, fun i hi => wpOp_mono (fun a' w' h' => by
   split at h'
   ·obtain ⟨S2, _, h2⟩ := h'; exact wpAny_of_held fuel _ a' w' h2
   ·exact Z3U fuel _ a' w' h'.2) (h.2 i hi)⟩
theorem Z4O {i : Nat} {oi : Oper} {v : Value} (hi : ops[i]? = some oi) (hsel : ∀ (j : Nat) (o : Oper) cs b, ops[j]? = some o → o.op ≠ .select cs b)
  (hQ : ∀ c a w, Q (.panic c) (a.put oi.dst v) w → Q (.panic c) a w) (hiB : B i = false) (hB : ∀ j oj, B j = true → ops[j]? = some oj → ∃ e ∈ oj.after, Region.binds md e = true ∧ e.on = i) :
  ∀ (fuel : Nat) (listed : Array Bool) (a : Act) (w : World),
   (∀ j oj, ops[j]? = some oj → j ≠ i → listed.getD j true = false → (∀ e ∈ oj.after, Region.binds md e = true → e.on ≠ i) → oi.apart ops oj = true) →
   i ∈ Region.ready md ops listed → YieldsIf P ops S oi v a → S w →
   Z3p P md ops Q S B fuel (listed.setIfInBounds i true) (a.put oi.dst v) w → Z3p P md ops Q S B (fuel + 1) listed a w := by
 intro fuel
 induction fuel with
 | zero =>
  intro listed a w _ hr hy hS H
  refine ⟨fun h => (by rw [h] at hr; cases hr), fun j hj => ?_⟩
  by_cases hji : j = i
  ·subst hji; exact hy.wpOp hi hS (by rw [if_neg (by rw [hiB]; simp)]; exact ⟨hS, H⟩)
  ·have := ready_mono hj hji
   rw [H.1] at this
   cases this
 | succ fuel ih =>
  intro listed a w hfree hr hy hS H
  refine ⟨fun h => (by rw [h] at hr; cases hr), fun j hj => ?_⟩
  by_cases hji : j = i
  ·subst hji; exact hy.wpOp hi hS (by rw [if_neg (by rw [hiB]; simp)]; exact ⟨hS, H⟩)
  ·have h1 := H.2 j (ready_mono hj hji)
   obtain ⟨hjun, oj, hoj, hall⟩ := mem_ready.1 hj
   have hnot : ∀ e ∈ oj.after, Region.binds md e = true → e.on ≠ i := fun e he hb heq => by
    have h1 := hall e he hb
    have h0 := (mem_ready.1 hr).1
    rw [heq] at h1
    rcases Nat.lt_or_ge i listed.size with h' | h'
    ·simp [h'] at h0 h1; rw [h0] at h1; cases h1
    ·simp [Array.getElem?_eq_none h'] at h1
   have hjB : ¬ B j = true := fun hjb => by
    obtain ⟨e, he, hb, hon⟩ := hB j oj hjb hoj
    exact hnot e he hb hon
   have h2 := wpOp_putIf hoj (hfree j oj hoj hji hjun hnot) (fun cs b => hsel i oi cs b hi) (fun cs b => hsel j oj cs b hoj) hQ hy h1
   have hfree' : ∀ k ok, ops[k]? = some ok → k ≠ i → (listed.setIfInBounds j true).getD k true = false →
     (∀ e ∈ ok.after, Region.binds md e = true → e.on ≠ i) → oi.apart ops ok = true := fun k ok hk hki hun hno => by
    refine hfree k ok hk hki ?_ hno
    by_cases hjk : j = k
    ·subst hjk; exact hjun
    ·rw [getD_set_ne true hjk] at hun; exact hun
   refine wpOp_mono (fun a' w' h3 => ?_) h2
   have h4 := h3.2
   rw [if_neg hjB] at h4 ⊢
   refine ⟨h4.1, ih (listed.setIfInBounds j true) a' w' hfree' (ready_mono hr (Ne.symm hji)) h3.1 h4.1 ?_⟩
   rw [Array.setIfInBounds_comm _ _ hji]
   exact h4.2
theorem Z4d {i : Nat} {oi : Oper} {v : Value} (hi : ops[i]? = some oi) (hsel : ∀ (j : Nat) (o : Oper) cs b, ops[j]? = some o → o.op ≠ .select cs b)
  (hQ : ∀ c a w, Q (.panic c) (a.put oi.dst v) w → Q (.panic c) a w) (hiB : B i = false) :
  ∀ (fuel : Nat) (listed : Array Bool) (a : Act) (w : World),
   (∀ j oj, ops[j]? = some oj → j ≠ i → listed.getD j true = false → (∀ e ∈ oj.after, Region.binds md e = true → e.on ≠ i) → oi.apart ops oj = true) →
   i ∈ Region.ready md ops listed → YieldsIf P ops (fun _ => True) oi v a → S w →
   Z3p P md ops Q S B fuel (listed.setIfInBounds i true) (a.put oi.dst v) w → Z3p P md ops Q S B (fuel + 1) listed a w := by
 intro fuel
 induction fuel with
 | zero =>
  intro listed a w _ hr hy hS H
  refine ⟨fun h => (by rw [h] at hr; cases hr), fun j hj => ?_⟩
  by_cases hji : j = i
  ·subst hji; exact hy.wpOp hi trivial (by rw [if_neg (by rw [hiB]; simp)]; exact ⟨hS, H⟩)
  ·have := ready_mono hj hji
   rw [H.1] at this
   cases this
 | succ fuel ih =>
  intro listed a w hfree hr hy hS H
  refine ⟨fun h => (by rw [h] at hr; cases hr), fun j hj => ?_⟩
  by_cases hji : j = i
  ·subst hji; exact hy.wpOp hi trivial (by rw [if_neg (by rw [hiB]; simp)]; exact ⟨hS, H⟩)
  ·have h1 := H.2 j (ready_mono hj hji)
   obtain ⟨hjun, oj, hoj, hall⟩ := mem_ready.1 hj
   have hnot : ∀ e ∈ oj.after, Region.binds md e = true → e.on ≠ i := fun e he hb heq => by
    have h1 := hall e he hb
    have h0 := (mem_ready.1 hr).1
    rw [heq] at h1
    rcases Nat.lt_or_ge i listed.size with h' | h'
    ·simp [h'] at h0 h1; rw [h0] at h1; cases h1
    ·simp [Array.getElem?_eq_none h'] at h1
   have h2 := wpOp_putIf hoj (hfree j oj hoj hji hjun hnot) (fun cs b => hsel i oi cs b hi) (fun cs b => hsel j oj cs b hoj) hQ hy h1
   have hfree' : ∀ k ok, ops[k]? = some ok → k ≠ i → (listed.setIfInBounds j true).getD k true = false →
     (∀ e ∈ ok.after, Region.binds md e = true → e.on ≠ i) → oi.apart ops ok = true := fun k ok hk hki hun hno => by
    refine hfree k ok hk hki ?_ hno
    by_cases hjk : j = k
    ·subst hjk; exact hjun
    ·rw [getD_set_ne true hjk] at hun; exact hun
   refine wpOp_mono (fun a' w' h3 => ?_) h2
   have h4 := h3.2
   by_cases hjB : B j = true
   ·rw [if_pos hjB] at h4 ⊢
    obtain ⟨S2, hS2, h5⟩ := h4
    refine ⟨S2, hS2, wpAnyH_first hi hsel hQ fuel (listed.setIfInBounds j true) a' w' hfree' (ready_mono hr (Ne.symm hji)) (h3.1.imp (fun ⟨q1, q2⟩ => ⟨q1, fun w _ => q2 w trivial⟩) id) hS2 ?_⟩
    rw [Array.setIfInBounds_comm _ _ hji]
    exact h5
   ·rw [if_neg hjB] at h4 ⊢
    refine ⟨h4.1, ih (listed.setIfInBounds j true) a' w' hfree' (ready_mono hr (Ne.symm hji)) h3.1 h4.1 ?_⟩
    rw [Array.setIfInBounds_comm _ _ hji]
    exact h4.2
end
structure WK (P : Program) (ops : Array Oper) (Q : Exit → Act → World → Prop) (S : World → Prop) (B : Nat → Bool) (fuel : Nat) (listed : Array Bool) (n : Nat) (f : Nat → Value) (w : World) : Prop where
 h : Z3p P .any ops Q S B fuel listed (fr n f) w
def Z85 (ops : Array Oper) (B : List Nat) (i : Nat) : Bool := B.all fun j => match ops[j]? with
 | some oj => oj.after.any fun e => Region.binds .any e && Nat.beq e.on i
 | none => true
theorem Z5V {ops : Array Oper} {B : List Nat} {i : Nat} (h : Z85 ops B i = true) : ∀ j oj, Z1w B j = true → ops[j]? = some oj → ∃ e ∈ oj.after, Region.binds .any e = true ∧ e.on = i := by
 intro j oj hj ho
 have := List.all_eq_true.1 h j ((Z5n B j).1 hj)
 rw [ho] at this
 simp only [Array.any_eq_true', Bool.and_eq_true] at this
 obtain ⟨e, he, h1, h2⟩ := this
 exact ⟨e, he, h1, Nat.eq_of_beq_eq_true h2⟩
section
variable {P : Program} {ops : Array Oper} {S : World → Prop} {B : List Nat} {Q : Exit → Act → World → Prop} {n : Nat} {f : Nat → Value} {w0 w w' : World} {o : Oper} {G : List Ck} {listed : Array Bool} {fuel : Nat}
theorem Z12 {id : Nat} {l : List Oper} (H : Sat w0 G w) (Gs : List Ck) (B : List Nat) (m : Nat) (hl : l.length = m) (hm : P.follows .mixedOrders = true) (hs : Sat w0 G w.drew → Sat w0 Gs w.drew) (k : ∀ w1, Sat w0 G w1 → Sat w0 Gs w1 → WK P l.toArray Q (Sat w0 Gs) (Z1w B) m (Array.replicate m false) n f w1) :
  WC P (Code.region id l.toArray true) Q n f w := by
 subst hl
 exact ⟨wp_region_any hm (Z3U (S := Sat w0 Gs) (B := Z1w B) _ _ _ _ (by simpa using (k w.drew H.drew (hs H.drew)).h))⟩
theorem Z1q {v : Value} (i : Nat) (hi : ops[i]? = some o) (hs : Region.noSelect ops = true) (hf : Region.free .any ops listed i = true) (hr : (Region.ready .any ops listed).contains i = true) (hQ : ∀ c a w, Q (.panic c) (a.put o.dst v) w → Q (.panic c) a w) (HS : S w)
  (hw : Z1l ops o n f true) (hiB : Z1w B i = false) (hB : Z85 ops B i = true) {d : Nat} (hd : o.dst = some d) (he : ∀ w, S w → (execOp (ev n f) o).run P w = .ok (.value v) w) (k : WK P ops Q S (Z1w B) fuel (listed.setIfInBounds i true) n (upd f d v) w) :
  WK P ops Q S (Z1w B) (fuel + 1) listed n f w :=
 ⟨Z4O hi (Region.noSelect_spec hs) hQ hiB (Z5V hB) fuel listed _ w (Region.free_spec hi hf) (by simpa using hr) (.inl ⟨hw.h, by rw [Z1p]; exact he⟩) HS (by rw [hd, Z1O]; exact k.h)⟩
theorem ZZ {v : Value} (i : Nat) (hi : ops[i]? = some o) (hs : Region.noSelect ops = true) (hf : Region.free .any ops listed i = true) (hr : (Region.ready .any ops listed).contains i = true) (hQ : ∀ c a w, Q (.panic c) (a.put o.dst v) w → Q (.panic c) a w) (HS : S w)
  (hw : Z1l ops o n f true) (hiB : Z1w B i = false) {d : Nat} (hd : o.dst = some d) (he : ∀ w, (execOp (ev n f) o).run P w = .ok (.value v) w) (k : WK P ops Q S (Z1w B) fuel (listed.setIfInBounds i true) n (upd f d v) w) :
  WK P ops Q S (Z1w B) (fuel + 1) listed n f w :=
 ⟨Z4d hi (Region.noSelect_spec hs) hQ hiB fuel listed _ w (Region.free_spec hi hf) (by simpa using hr) (.inl ⟨hw.h, by rw [Z1p]; exact fun w _ => he w⟩) HS (by rw [hd, Z1O]; exact k.h)⟩
theorem Z3u (i : Nat) (hi : ops[i]? = some o) (hr : Region.ready .any ops listed = [i]) (hw : Z1l ops o n f true) (hiB : Z1w B i = false)
  (k : ∀ K : Act → World → Prop, (∀ g w', S w' → (WK P ops Q S (Z1w B) fuel (listed.setIfInBounds i true) n g w') → K (fr n g) w') → WO P o K Q n f w) : WK P ops Q S (Z1w B) (fuel + 1) listed n f w := by
 refine ⟨⟨fun h0 => absurd (hr ▸ h0) (by simp), fun j hj => ?_⟩⟩
 rw [hr] at hj
 obtain rfl := List.mem_singleton.1 hj
 refine wpOp_step hi fun K' hK => ?_
 rw [if_pos hw.h]
 exact (k K' fun g w' hS hk => hK _ _ (by rw [if_neg (by rw [hiB]; simp)]; exact ⟨hS, hk.h⟩)).h
theorem Z29 (i : Nat) (S2 : World → Prop) (hi : ops[i]? = some o) (hr : Region.ready .any ops listed = [i]) (hw : Z1l ops o n f true) (hiB : Z1w B i = true)
  (k : ∀ K : Act → World → Prop, (∀ g w', S2 w' → (WH P ops Q S2 fuel (listed.setIfInBounds i true) n g w') → K (fr n g) w') → WO P o K Q n f w) : WK P ops Q S (Z1w B) (fuel + 1) listed n f w := by
 refine ⟨⟨fun h0 => absurd (hr ▸ h0) (by simp), fun j hj => ?_⟩⟩
 rw [hr] at hj
 obtain rfl := List.mem_singleton.1 hj
 refine wpOp_step hi fun K' hK => ?_
 rw [if_pos hw.h]
 exact (k K' fun g w' hS hk => hK _ _ (by rw [if_pos hiB]; exact ⟨S2, hS, hk.h⟩)).h
end
end Go.Proofs.YtgigjkjdmalmaaaGreat
namespace Go.Proofs.YtgigjkjdmalmaaaGreat
open Go.RowKit
open Go.ChangeMaps (setBlock)
section
variable {κ ν : Type} {encK : κ → Value} {encV : ν → Value}
def IterAt (w : World) (r b : Nat) (encK : κ → Value) (encV : ν → Value) (l seen : List (κ × ν)) : Prop :=
 r ≠ b ∧ ∃ (es : Array MapEntry) (clock c0 : Nat) (ps sp rp : List (MapEntry × (κ × ν))), w.heap[b]? = some (.map es clock) ∧ w.heap[r]? = some (.mapIter (some b) clock (sp.map (·.1.born)).toArray c0) ∧ clock ≤ c0 ∧
  ps.map (·.1) = es.toList ∧ ps.map (·.2) = l ∧ (∀ p ∈ ps, p.1.key = encK p.2.1 ∧ p.1.val = encV p.2.2) ∧ (l.map (·.1)).Nodup ∧
  (es.toList.map (·.born)).Pairwise (· < ·) ∧ (∀ e ∈ es.toList, e.born < clock) ∧ ps.Perm (sp ++ rp) ∧ sp.map (·.2) = seen
def IterAtE (w : World) (r b : Nat) (encK : κ → Value) (encV : ν → Value) (l seen : List (κ × ν)) : Prop :=
 r ≠ b ∧ ∃ (es : Array MapEntry) (clock : Nat) (ps sp rp : List (MapEntry × (κ × ν))), w.heap[b]? = some (.map es clock) ∧ w.heap[r]? = some (.mapIter (some b) clock (sp.map (·.1.born)).toArray clock) ∧
  ps.map (·.1) = es.toList ∧ ps.map (·.2) = l ∧ (∀ p ∈ ps, p.1.key = encK p.2.1 ∧ p.1.val = encV p.2.2) ∧ (l.map (·.1)).Nodup ∧
  (es.toList.map (·.born)).Pairwise (· < ·) ∧ (∀ e ∈ es.toList, e.born < clock) ∧ ps.Perm (sp ++ rp) ∧ sp.map (·.2) = seen
theorem IterAtE.it {w : World} {r b : Nat} {l seen : List (κ × ν)} (h : IterAtE w r b encK encV l seen) : IterAt w r b encK encV l seen := by
 obtain ⟨hne, es, clock, ps, sp, rp, h1, h2, rest⟩ := h
 exact ⟨hne, es, clock, clock, ps, sp, rp, h1, h2, Nat.le_refl _, rest⟩
theorem IterAt.perm {w : World} {r b : Nat} {l seen : List (κ × ν)} (h : IterAt w r b encK encV l seen) : ∃ rest, l.Perm (seen ++ rest) := by
 obtain ⟨_, es, clock, c0, ps, sp, rp, _, _, _, _, h2, _, _, _, _, hp, rfl⟩ := h
 exact ⟨rp.map (·.2), by rw [← h2, ← List.map_append]; exact hp.map _⟩
theorem IterAt.map {w : World} {r b : Nat} {l seen : List (κ × ν)} (h : IterAt w r b encK encV l seen) : MapAt w b encK encV l := by
 obtain ⟨_, es, clock, c0, ps, sp, rp, h1, _, _, h3, h4, h5, h6, h7, h8, _⟩ := h
 refine ⟨es, clock, h1, ?_, h6, h7, h8⟩
 rw [← h3, ← h4, List.map_map, List.map_map]
 refine List.map_congr_left fun p hp => ?_
 obtain ⟨ha, hb⟩ := h5 p hp
 simp [ha, hb]
section
variable {P : Program} {n : Nat} {f : Nat → Value} {w0 w w' : World} {G : List Ck} {dst : Option Tmp} {ty : TypeId} {pos : String} {aft : Array Edge} {gd : Option (Nat × Bool)} {K : Act → World → Prop} {Q : Exit → Act → World → Prop} {b r : Nat} {l seen : List (κ × ν)}
end
theorem Sat.ro {w0 w : World} {G : List Ck} (H : Sat w0 G w) {W : World} {D : Nat → Prop} (i : Nat) (hi : G[i]? = some (Za W D)) {b : Nat} (hb : b < W.heap.size) (hD : ¬ D b) : w.heap[b]? = W.heap[b]? := H.at i hi b hb hD
theorem Sat.roMap {w0 w : World} {G : List Ck} (H : Sat w0 G w) {W : World} {D : Nat → Prop} (i : Nat) (hi : G[i]? = some (Za W D)) {b : Nat} {l : List (κ × ν)} (hm : MapAt W b encK encV l) (hD : ¬ D b) : MapAt w b encK encV l := hm.stay (H.ro i hi hm.lt hD)
theorem Sat.roCells {w0 w : World} {G : List Ck} (H : Sat w0 G w) {W : World} {D : Nat → Prop} (i : Nat) (hi : G[i]? = some (Za W D)) {b : Nat} {o : Obj} (hm : W.heap[b]? = some o) (hD : ¬ D b) : w.heap[b]? = some o := (H.ro i hi (Z1B hm) hD).trans hm
theorem Sat.roCell {w0 w : World} {G : List Ck} (H : Sat w0 G w) {W : World} {D : Nat → Prop} (i : Nat) (hi : G[i]? = some (Za W D)) {b o : Nat} {T : TypeId} {cs : List Value} {v : Value} (hm : W.heap[b]? = some (.cells ⟨cs⟩ T (0, 0))) (hD : ¬ D b) (hv : cs[o]? = some v) : w.cell? ⟨b, o, none⟩ = some v := by
 rw [Z0H (H.roCells i hi hm hD) o]; simpa using hv
section
variable {P : Program} {n : Nat} {f : Nat → Value} {w0 w w' W : World} {D : Nat → Prop} {G : List Ck} {dst : Option Tmp} {ty : TypeId} {pos : String} {aft : Array Edge} {gd : Option (Nat × Bool)} {K : Act → World → Prop} {Q : Exit → Act → World → Prop} {b r : Nat} {l seen : List (κ × ν)}
end
end
end Go.Proofs.YtgigjkjdmalmaaaGreat
namespace Go.Proofs.YtgigjkjdmalmaaaGreat
open Go.RowKit
section
variable {κ ν : Type} [DecidableEq κ] {encK : κ → Value} {encV : ν → Value}
def EntryAt (w : World) (b : Nat) (encK : κ → Value) (encV : ν → Value) (l : List (κ × ν)) (a : κ) (x : ν) (st : Int) : Prop :=
 ∃ (es : Array MapEntry) (clock i : Nat), w.heap[b]? = some (.map es clock) ∧ es.toList.map (fun e => (e.key, e.val)) = (Z2q l a x).map (fun y => (encK y.1, encV y.2)) ∧ ((Z2q l a x).map (·.1)).Nodup ∧
  (es.toList.map (·.born)).Pairwise (· < ·) ∧ (∀ e ∈ es.toList, e.born < clock) ∧ ((Z2q l a x).map (·.1))[i]? = some a ∧ (es[i]?).map (fun e => (e.born : Int)) = some st
omit [DecidableEq κ] in
omit [DecidableEq κ] in
theorem EntryAt.map [DecidableEq κ] {w : World} {b : Nat} {l : List (κ × ν)} {a : κ} {x : ν} {st : Int} (h : EntryAt w b encK encV l a x st) : MapAt w b encK encV (Z2q l a x) := by
 obtain ⟨es, clock, i, h1, h2, h3, h4, h5, _⟩ := h
 exact ⟨es, clock, h1, h2, h3, h4, h5⟩
section
variable {P : Program} {n : Nat} {f : Nat → Value} {w0 w w' : World} {G : List Ck} {dst : Option Tmp} {ty : TypeId} {pos : String} {aft : Array Edge} {gd : Option (Nat × Bool)} {K' : Act → World → Prop} {Q : Exit → Act → World → Prop} {b : Nat} {l : List (κ × ν)} {kt et T : TypeId}
end
end
def ZP (L : List Ck) : Ck where
 fp b := ∃ A ∈ L, A.fp b
 ok w := (∀ A ∈ L, A.ok w) ∧ L.Pairwise (fun (A B : Ck) => ∀ b : Nat, A.fp b → ¬ B.fp b)
 stay h hb := ⟨fun A hA => A.stay (h.1 A hA) fun b hfp => hb b ⟨A, hA, hfp⟩, h.2⟩
 lt h b hb := by obtain ⟨A, hA, hfp⟩ := hb; exact A.lt (h.1 A hA) b hfp
section
variable {w0 w w' : World} {G L : List Ck} {A : Ck}
theorem Sat.start (L : List Ck) (h : (ZP L).ok w) : Sat w (L ++ [Za w (ZP L).fp]) w := by
 refine ⟨Ext.refl w, ?_, ?_⟩
 ·intro B hB
  rcases List.mem_append.1 hB with hB | hB
  ·exact h.1 B hB
  ·obtain rfl := List.mem_singleton.1 hB; exact fun b _ _ => rfl
 ·refine List.pairwise_append.2 ⟨h.2, by simp, ?_⟩
  intro B hB C hC b h1 h2
  obtain rfl := List.mem_singleton.1 hC
  exact h2.2 ⟨B, hB, h1⟩
theorem Sat.fin (H : Sat w0 G w) (is : List Nat) (hn : is.Pairwise (fun a b => Nat.beq a b = false)) (hL : (is.filterMap fun i => G[i]?) = L) : (ZP L).ok w := by
 have h := H.pick is hn
 rw [hL] at h
 exact ⟨h.all, h.dis⟩
theorem Sat.fresh {W : World} {D : Nat → Prop} (H : Sat w0 G w) (i : Nat) (hi : G[i]? = some (Za W D)) (hD : ∀ b, ¬ D b) (j : Nat) (hj : G[j]? = some A) (hne : Nat.beq j i = false) : ∀ b, A.fp b → W.heap.size ≤ b := fun b hb => by
 have := H.apart j i hj hi hne b hb
 rcases Nat.lt_or_ge b W.heap.size with h | h
 ·exact absurd ⟨h, hD b⟩ this
 ·exact h
theorem Sat.freshS {W : World} {D : Nat → Prop} (H : Sat w0 G w) (i : Nat) (hi : G[i]? = some (Za W D)) (hD : ∀ b, ¬ D b) (js : List Nat) (hj : (js.filterMap fun j => G[j]?) = L) (hne : js.all (fun j => !Nat.beq j i) = true) : ∀ b, (ZP L).fp b → W.heap.size ≤ b := fun b hb => by
 obtain ⟨A, hA, hfp⟩ := hb
 rw [← hj] at hA
 obtain ⟨j, hjm, hjA⟩ := List.mem_filterMap.1 hA
 have := List.all_eq_true.1 hne j hjm
 exact H.fresh i hi hD j hjA (by simpa using this) b hfp
theorem Sat.open (H : Sat w0 G w) (i : Nat) (hi : G[i]? = some (ZP L)) : Sat w0 (G.take i ++ L ++ G.drop (i + 1)) w := by
 have hok := H.at i hi
 have hd := List.pairwise_iff_getElem.1 H.dis
 obtain ⟨hil, hie⟩ := List.getElem?_eq_some_iff.1 hi
 have hG : G = G.take i ++ ZP L :: G.drop (i + 1) := by
  have := List.take_append_drop i G
  rw [List.drop_eq_getElem_cons hil, hie] at this
  exact this.symm
 have hdis := H.dis
 rw [hG] at hdis
 obtain ⟨p1, p2, p3⟩ := List.pairwise_append.1 hdis
 rw [List.pairwise_cons] at p2
 refine ⟨H.ext, ?_, ?_⟩
 ·intro B hB
  rw [List.append_assoc] at hB
  rcases List.mem_append.1 hB with hB | hB
  ·exact H.all B (List.mem_of_mem_take hB)
  ·rcases List.mem_append.1 hB with hB | hB
   ·exact hok.1 B hB
   ·exact H.all B (List.mem_of_mem_drop hB)
 ·rw [List.append_assoc]
  refine List.pairwise_append.2 ⟨p1, List.pairwise_append.2 ⟨hok.2, p2.2, ?_⟩, ?_⟩
  ·intro B hB C hC b h1 h2
   exact p2.1 C hC b ⟨B, hB, h1⟩ h2
  ·intro B hB C hC b h1 h2
   rcases List.mem_append.1 hC with hC | hC
   ·exact p3 B hB (ZP L) (by simp) b h1 ⟨C, hC, h2⟩
   ·exact p3 B hB C (by simp [hC]) b h1 h2
end
section
variable {P : Program} {Q : Exit → Act → World → Prop} {n : Nat} {f : Nat → Value} {w w' : World}
def Meet (n : Nat) (ws : List Nat) (F : Nat → Value) (M : (Nat → Value) → World → Prop) (Q : Exit → Act → World → Prop) : Exit → Act → World → Prop := Exit.then (fun a w => ∃ g, a = fr n (ovr ws g F) ∧ M (ovr ws g F) w) Q
theorem Z0K {x y : Code} (ws : List Nat) (M : (Nat → Value) → World → Prop) (h1 : WC P x (Meet n ws f M Q) n f w) (h2 : ∀ g w, M (ovr ws g f) w → WC P y Q n (ovr ws g f) w) : WC P (Code.seq x y) Q n f w :=
 ⟨wp_seq (Code.wp_mono (fun e a w q => by
  cases e with
  | normal => obtain ⟨g, rfl, hm⟩ := q; exact (h2 g w hm).h
  | _ => exact q) h1.h)⟩
theorem Z02 {ws : List Nat} {F : Nat → Value} {M : (Nat → Value) → World → Prop} (hs : Z60 ws f F) (h : M f w) : Meet n ws F M Q .normal (fr n f) w := ⟨f, by rw [Z2p hs], by rwa [Z2p hs]⟩
end
section
variable {P : Program} {n : Nat} {f : Nat → Value} {w w' : World} {dst : Option Tmp} {ty : TypeId} {pos : String} {aft : Array Edge} {gd : Option (Nat × Bool)}
theorem Z6b {κ ν : Type} {encK : κ → Value} {encV : ν → Value} {l : List (κ × ν)} {b : Nat} {T kt et : TypeId} {x : Operand} (hT : P.underlying T = some (.map kt et)) (h : MapAt w b encK encV l) (hx : ev n f x = .map (some b)) :
  (execOp (ev n f) ⟨dst, .call { callee := .builtin .len, args := #[x], argTypes := #[T] }, ty, pos, aft, gd⟩).run P w = .ok (.value (.int .i64 (l.length : Int))) w := by
 have := h.len (P := P) hT ty
 simp [execOp, resolve, invoke, builtin, hx, this, Result.andThen]
theorem Z78 {o : Oper} {k : IntKind} {a b : Int} (hr : (execOp (ev n f) o).run P w = (Op.intDiv .rem k a b >>= fun v => pure (Next.value v)).run P w) (h1 : 0 ≤ a) (h2 : 0 < b) : (execOp (ev n f) o).run P w = .ok (.value (.int k (a % b))) w := by
 rw [hr]
 have : ¬ b = 0 := by omega
 simp [Op.intDiv, this, Int.tmod_eq_emod_of_nonneg h1]
theorem e_tmod {o : Oper} {k : IntKind} {a b : Int} (hr : (execOp (ev n f) o).run P w = (Op.intDiv .rem k a b >>= fun v => pure (Next.value v)).run P w) (h : b ≠ 0) : (execOp (ev n f) o).run P w = .ok (.value (.int k (a.tmod b))) w := by
 rw [hr]
 simp [Op.intDiv, h]
theorem e_quo {o : Oper} {k : IntKind} {a b : Int} (hr : (execOp (ev n f) o).run P w = (Op.intDiv .quo k a b >>= fun v => pure (Next.value v)).run P w) (h1 : 0 ≤ a) (h2 : 0 < b) (hw : k.wrap (a / b) = a / b) : (execOp (ev n f) o).run P w = .ok (.value (.int k (a / b))) w := by
 rw [hr]
 have : ¬ b = 0 := by omega
 simp [Op.intDiv, this, Int.tdiv_eq_ediv_of_nonneg h1, hw]
end
theorem Z5v (v n : Int) (h : 1 ≤ n) : -n < v.tmod n ∧ v.tmod n < n := by
 have h1 : v.tmod n < n := Int.tmod_lt_of_pos v (by omega)
 have h2 : (-v).tmod n < n := Int.tmod_lt_of_pos (-v) (by omega)
 rw [Int.neg_tmod] at h2
 omega
theorem Z4L (v n : Int) (h : 1 ≤ n) : v % n = (if v.tmod n < 0 then v.tmod n + n else v.tmod n) := by
 have h1 := Z5v v n h
 have h2 : v % n = (v.tmod n) % n := by
  have h3 := Int.mul_tdiv_add_tmod v n
  have h4 : (n * v.tdiv n + v.tmod n) % n = (v.tmod n) % n := by rw [Int.add_comm]; exact Int.add_mul_emod_self_left _ _ _
  rwa [h3] at h4
 rw [h2]
 split
 ·rw [← Int.add_emod_right]
  exact Int.emod_eq_of_lt (by omega) (by omega)
 ·exact Int.emod_eq_of_lt (by omega) (by omega)
end Go.Proofs.YtgigjkjdmalmaaaGreat
