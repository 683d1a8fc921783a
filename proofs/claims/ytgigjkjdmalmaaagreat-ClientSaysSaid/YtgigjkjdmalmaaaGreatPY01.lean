/- WHAT IS PROVED: contracts and plain laws of Vx. Conditions: stated with each. -/
import Derived.Deep.RegionHeld
import Derived.Test.YtgigjkjdmalmaaaGreatPY00
set_option maxHeartbeats 4000000
set_option maxRecDepth 100000
namespace Go.Proofs.YtgigjkjdmalmaaaGreat
open Go.RowKit
def upd (f : Nat → Value) (d : Nat) (v : Value) : Nat → Value := fun t => bif Nat.beq t d then v else f t
def Z20 : List Nat → Nat → Bool
 | [], _ => false
 | x :: xs, t => bif Nat.beq t x then true else Z20 xs t
def ovr (ws : List Nat) (g F : Nat → Value) : Nat → Value := fun t => bif Z20 ws t then g t else F t
def fr (n : Nat) (f : Nat → Value) : Act := ⟨Array.ofFn (n := n) fun i => f i, []⟩
def ev (n : Nat) (f : Nat → Value) : Operand → Value
 | .tmp t => bif Nat.blt t n then f t else undef
 | .const v => v
 | .global g => .pointer (some ⟨g, 0, none⟩)
 | .func g => .func (.func g) #[] #[]
theorem blt_eq (t n : Nat) : Nat.blt t n = decide (t < n) := by
 cases hb : Nat.blt t n
 ·have : ¬ t < n := fun h => by rw [show Nat.blt t n = true by rw [Nat.blt_eq]; exact h] at hb; cases hb
  simp [this]
 ·rw [Nat.blt_eq] at hb; simp [hb]
theorem Z9k (n : Nat) (f : Nat → Value) (t : Nat) : (fr n f).tmps.getD t undef = bif Nat.blt t n then f t else undef := by
 rw [blt_eq]
 by_cases h : t < n <;> simp [fr, Array.getD, h]
theorem Z1M (n : Nat) (f : Nat → Value) : (fr n f).eval = ev n f := by
 funext x
 cases x
 ·exact Z9k n f _
 all_goals rfl
theorem Z4D (f : Nat → Value) (d t : Nat) (v : Value) : upd f d v t = if t = d then v else f t := by
 unfold upd
 by_cases h : t = d
 ·subst h; simp
 ·have : Nat.beq t d = false := by
   cases hb : Nat.beq t d
   ·rfl
   ·exact absurd (Nat.eq_of_beq_eq_true hb) h
  simp [this, h]
theorem Z2o (n : Nat) (f : Nat → Value) (d : Nat) (v : Value) : (fr n f).put (some d) v = fr n (upd f d v) := by
 simp only [fr, Act.put, Act.mk.injEq, and_true]
 refine Array.ext (by simp) fun i h1 h2 => ?_
 simp only [Array.size_setIfInBounds, Array.size_ofFn] at h1
 rw [Array.getElem_setIfInBounds (by simpa using h1)]
 simp only [Array.getElem_ofFn, Z4D]
 by_cases h : d = i
 ·simp [h]
 ·simp [h, Ne.symm h]
theorem Zc0 (n : Nat) (f : Nat → Value) (v : Value) : (fr n f).put none v = fr n f := rfl
theorem Z8O {f : Nat → Value} {d : Nat} {v : Value} (h : f d = v) : upd f d v = f := by
 funext t
 rw [Z4D]
 split
 ·rename_i e; rw [e, h]
 ·rfl
def Z5g : List Value → Nat → Value
 | [], _ => undef
 | v :: _, 0 => v
 | _ :: l, t + 1 => Z5g l t
theorem Z7x (l : List Value) (t : Nat) : Z5g l t = l.getD t undef := by
 induction l generalizing t with
 | nil => simp [Z5g]
 | cons v l ih => cases t <;> simp [Z5g, ih]
theorem ZaB (l : List Value) (n : Nat) (h : l.length ≤ n) : ({ tmps := l.toArray ++ Array.replicate (n - l.toArray.size) undef, defers := [] } : Act) = fr n (Z5g l) := by
 simp only [fr, Act.mk.injEq, and_true]
 refine Array.ext (by simp; omega) fun i h1 h2 => ?_
 simp only [Array.getElem_ofFn, Z7x]
 rw [Array.getElem_append]
 split
 ·rename_i h3
  have h3' : i < l.length := by simpa using h3
  simp [List.getD, List.getElem?_eq_getElem h3']
 ·rename_i h3
  have h3' : l.length ≤ i := by simpa using h3
  simp [List.getD, List.getElem?_eq_none h3']
structure WC (P : Program) (c : Code) (Q : Exit → Act → World → Prop) (n : Nat) (f : Nat → Value) (w : World) : Prop where
 h : c.wp P Q (fr n f) w
structure WL (P : Program) (ops : Array Oper) (Q : Exit → Act → World → Prop) (l : List Oper) (n : Nat) (f : Nat → Value) (w : World) : Prop where
 h : wpList P ops Q l (fr n f) w
structure WO (P : Program) (o : Oper) (K : Act → World → Prop) (Q : Exit → Act → World → Prop) (n : Nat) (f : Nat → Value) (w : World) : Prop where
 h : o.wp P (fr n f) w K Q
structure WQ (P : Program) (ops : Array Oper) (C : World → Prop) (Q : Act → Prop) (l : List Oper) (n : Nat) (f : Nat → Value) : Prop where
 h : wpQuiet P ops C Q l (fr n f)
structure WH (P : Program) (ops : Array Oper) (Q : Exit → Act → World → Prop) (S : World → Prop) (fuel : Nat) (listed : Array Bool) (n : Nat) (f : Nat → Value) (w : World) : Prop where
 h : wpAnyH P .any ops Q S fuel listed (fr n f) w
theorem Zg {P : Program} {F : FuncId} {fn : Func} {c : Code} {l : List Value} {w : World} {R : Ending → World → Prop} (hf : P.funcs[F]? = some fn) (hb : fn.body = some c) (n : Nat) (hn : fn.ntmps = n) (hl : l.length ≤ n)
  (h : WC P c (bodyPost P fn R) n (Z5g l) w) : Calls P F l.toArray w R := by
 refine calls_of_wp hf hb ?_
 rw [hn, ZaB l n hl]
 exact h.h
section
variable {P : Program} {Q : Exit → Act → World → Prop} {n : Nat} {f : Nat → Value} {w w' : World}
theorem Zo {c : Code} (d : Nat) (v : Value) (h : f d = v) (k : WC P c Q n (upd f d v) w) : WC P c Q n f w := by rwa [Z8O h] at k
theorem Zb {y : Code} {Q' : Exit → Act → World → Prop} (h : WC P y Q' n f w) : Exit.then (y.wp P Q') Q .normal (fr n f) w := h.h
theorem Zf {x y : Code} (h : WC P x (Exit.then (y.wp P Q) Q) n f w) : WC P (Code.seq x y) Q n f w := ⟨wp_seq h.h⟩
theorem ZA {id : Nat} {c : Code} (h : WC P c (Exit.inBlock id Q) n f w) : WC P (Code.block id c) Q n f w := ⟨wp_block h.h⟩
theorem Z5m {id : Nat} (h : Q (.exit id) (fr n f) w) : WC P (Code.exit id) Q n f w := ⟨wp_exit h⟩
theorem Zz (h : Q .ret (fr n f) w) : WC P Code.ret Q n f w := ⟨wp_ret h⟩
theorem ZF (h : Q .normal (fr n f) w) : WC P Code.skip Q n f w := ⟨wp_skip h⟩
theorem Zt {id : Nat} {l : List Oper} (h : WL P l.toArray Q l n f w) : WC P (Code.region id l.toArray false) Q n f w := ⟨wp_region_lit h.h⟩
theorem Zu {ops : Array Oper} (h : Q .normal (fr n f) w) : WL P ops Q [] n f w := ⟨wpList_nil h⟩
theorem Z26 {next : Act → World → Prop} {a : Act} {id : Nat} (h : Q (.exit id) a w) : Exit.then next Q (.exit id) a w := h
theorem ZY {next : Act → World → Prop} {a : Act} (h : Q .ret a w) : Exit.then next Q .ret a w := h
theorem Zw {a : Act} {id : Nat} (h : Q .normal a w) : Exit.inBlock id Q .normal a w := h
theorem Z27 {a : Act} {id : Nat} (h : Q .ret a w) : Exit.inBlock id Q .ret a w := h
theorem Z3p {a : Act} {id : Nat} (h : Q .normal a w) : Exit.inBlock id Q (.exit id) a w := by simpa [Exit.inBlock] using h
theorem Z0R {c : Operand} {x y : Code} (hc : ev n f c = .bool true) (h : WC P x Q n f w) : WC P (Code.cond c x y) Q n f w := ⟨wp_cond_true (by rw [Z1M]; exact hc) h.h⟩
theorem Z0y {c : Operand} {x y : Code} (hc : ev n f c = .bool false) (h : WC P y Q n f w) : WC P (Code.cond c x y) Q n f w := ⟨wp_cond_false (by rw [Z1M]; exact hc) h.h⟩
def Z8S (ws : List Nat) (f F : Nat → Value) : Prop := ∀ t, Z20 ws t = false → f t = F t
theorem Z3k {ws : List Nat} {g F : Nat → Value} : Z8S ws (ovr ws g F) F := fun t h => by simp [ovr, h]
theorem Z1N {ws : List Nat} {F : Nat → Value} : Z8S ws F F := fun _ _ => rfl
theorem Za {ws : List Nat} {f F : Nat → Value} {d : Nat} {v : Value} (hd : Z20 ws d = true) (h : Z8S ws f F) : Z8S ws (upd f d v) F := fun t ht => by
 rw [Z4D]
 split
 ·rename_i e; subst e; rw [hd] at ht; cases ht
 ·exact h t ht
theorem Z87 (ws : List Nat) (t : Nat) : Z20 ws t = true ↔ t ∈ ws := by
 induction ws with
 | nil => simp [Z20]
 | cons x xs ih =>
  by_cases e : t = x
  ·subst e; simp [Z20]
  ·have : Nat.beq t x = false := by
    cases hb : Nat.beq t x
    ·rfl
    ·exact absurd (Nat.eq_of_beq_eq_true hb) e
   simp [Z20, this, ih, e]
theorem Z4u {ws ws' : List Nat} {f F g : Nat → Value} (hs : ws'.all (Z20 ws) = true) (h : Z8S ws f F) : Z8S ws (ovr ws' g f) F := fun t ht => by
 unfold ovr
 cases hm : Z20 ws' t
 ·exact h t ht
 ·have := List.all_eq_true.1 hs t ((Z87 ws' t).1 hm)
  rw [this] at ht; cases ht
theorem Z3h {ws : List Nat} {f F : Nat → Value} (h : Z8S ws f F) : ovr ws f F = f := by
 funext t
 unfold ovr
 cases hm : Z20 ws t
 ·exact (h t hm).symm
 ·rfl
theorem least {p : Nat → Prop} : ∀ m, p m → ∃ k, p k ∧ ∀ j, p j → k ≤ j := by
 intro m
 induction m using Nat.strongRecOn with
 | _ m ih =>
  intro h
  by_cases hx : ∃ j, j < m ∧ p j
  ·obtain ⟨j, hj, hp⟩ := hx; exact ih j hj hp
  ·exact ⟨m, h, fun j hj => by
    rcases Nat.lt_or_ge j m with h1 | h1
    ·exact absurd ⟨j, h1, hj⟩ hx
    ·exact h1⟩
open Classical in
noncomputable def Z5X (p : Nat → Prop) : Nat := if h : ∃ k, p k ∧ ∀ j, p j → k ≤ j then Classical.choose h else 0
theorem Z3O {p : Nat → Prop} (m : Nat) (h : p m) : p (Z5X p) ∧ Z5X p ≤ m := by
 have hx := least m h
 unfold Z5X
 rw [dif_pos hx]
 have := Classical.choose_spec hx
 exact ⟨this.1, this.2 m h⟩
def Back (n : Nat) (ws : List Nat) (F : Nat → Value) (R : (Nat → Value) → World → Nat → Prop) (m : Nat) (Q : Exit → Act → World → Prop) : Exit → Act → World → Prop := Exit.then (fun a' w' => ∃ g' m', a' = fr n (ovr ws g' F) ∧ R (ovr ws g' F) w' m' ∧ m' < m) Q
theorem Z2g {ws : List Nat} {F : Nat → Value} {R : (Nat → Value) → World → Nat → Prop} {m : Nat} {a : Act} {id : Nat} (h : Q (.exit id) a w) : Back n ws F R m Q (.exit id) a w := h
theorem Zao {ws : List Nat} {F : Nat → Value} {R : (Nat → Value) → World → Nat → Prop} {m : Nat} {a : Act} (h : Q .ret a w) : Back n ws F R m Q .ret a w := h
theorem ZW {c : Code} (ws : List Nat) (R : (Nat → Value) → World → Nat → Prop) (m0 : Nat) (h0 : R f w m0)
  (round : ∀ g w m, R (ovr ws g f) w m → WC P c (Back n ws f R m Q) n (ovr ws g f) w) : WC P (Code.loop c) Q n f w := by
 have hs : ovr ws f f = f := Z3h Z1N
 let p : Act → World → Nat → Prop := fun a w m => ∃ g, a = fr n (ovr ws g f) ∧ R (ovr ws g f) w m
 refine ⟨wp_loop (fun a w => ∃ m, p a w m) (fun a w => Z5X (p a w)) ⟨m0, f, by rw [hs], by rwa [hs]⟩ ?_⟩
 rintro a w ⟨m, hm⟩
 obtain ⟨⟨g, ha, hR⟩, _⟩ := Z3O m hm
 rw [ha] at *
 refine Code.wp_mono ?_ (round g w _ hR).h
 intro e a' w' q
 cases e with
 | normal =>
  obtain ⟨g', m', ha', hR', hlt⟩ := q
  have h2 : p a' w' m' := ⟨g', ha', hR'⟩
  exact ⟨⟨m', h2⟩, Nat.lt_of_le_of_lt (Z3O m' h2).2 hlt⟩
 | _ => exact q
theorem ZE {ws : List Nat} {F : Nat → Value} {R : (Nat → Value) → World → Nat → Prop} {m : Nat} (hs : Z8S ws f F) (m' : Nat) (hR : R f w m') (hlt : m' < m) :
  Back n ws F R m Q .normal (fr n f) w := ⟨f, m', by rw [Z3h hs], by rwa [Z3h hs], hlt⟩
end
end Go.Proofs.YtgigjkjdmalmaaaGreat
