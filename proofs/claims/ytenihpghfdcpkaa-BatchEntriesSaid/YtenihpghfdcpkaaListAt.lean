/- WHAT IS PROVED: lists in memory, wherever they lie: their parts, what an append of one makes. Conditions: stated with each. -/
import Derived.Test.YtenihpghfdcpkaaRowSt
import Derived.Test.YtenihpghfdcpkaaIns
namespace Go.Proofs.Ytenihpghfdcpkaa
open Go.RowKit
def ListAt {α : Type} (enc : α → List Value) (sz : Nat) (w : World) (v : Value) (xs : List α) : Prop := SliceOf (fun w a x => RunAt w a (enc x)) sz w v xs
section
variable {α : Type} {enc : α → List Value} {sz : Nat} {w w' W : World} {v : Value} {xs : List α}
theorem runAt_mono {a : Addr} {vs : List Value} (h : RunAt w a vs) (hc : ∀ p x, w.cell? p = some x → w'.cell? p = some x) : RunAt w' a vs := fun j u hj => hc _ _ (h j u hj)
theorem ListAt.mono (h : ListAt enc sz w v xs) (hc : ∀ p x, w.cell? p = some x → w'.cell? p = some x) : ListAt enc sz w' v xs := SliceOf.mono h fun _ _ hx => runAt_mono hx hc
theorem ListAt.now {G : List Ck} {w0 : World} (H : Sat w0 G w) (j : Nat) (hj : G[j]? = Option.some (restC W fun _ => False)) (hv : ListAt enc sz W v xs) : ListAt enc sz w v xs :=
  SliceOf.mono hv fun _ _ hx => runAt_mono hx fun _ _ h => H.cellR j hj h (fun h => h)
theorem ListAt.nil : ListAt enc sz w (.slice none 0 0) ([] : List α) := SliceOf.nil
/-- a row of the call's own -/
theorem ListAt.row {e n : Nat} (hs : ∀ x, (enc x).length = sz) (h0 : 0 < sz) (h : (rowC e sz v n (xs.flatMap enc)).ok w) : ListAt enc sz w v xs := by
  have hl : xs.length = n := by
    have := h.1
    rw [flat_len enc sz hs] at this
    exact Nat.eq_of_mul_eq_mul_right h0 this
  subst hl
  rcases h.2 with ⟨rfl, hn⟩ | ⟨g, cap, cur, rfl, hb, hgg, hc, hm, hcs, htake⟩
  · obtain rfl := List.eq_nil_of_length_eq_zero hn
    exact SliceOf.nil
  · by_cases hz : xs.length = 0
    · obtain rfl := List.eq_nil_of_length_eq_zero hz
      exact .inl ⟨_, cap, rfl, rfl, hm, by simp⟩
    · refine .inr ⟨by omega, g, 0, cap, rfl, ⟨hc, hm⟩, fun i hi j u hj => ?_⟩
      have hjl : j < sz := by rw [← hs xs[i]]; exact (List.getElem?_eq_some_iff.1 hj).1
      rw [Addr.add_lit]
      refine row_cell (k := xs.length) (c := cap) h rfl ?_
      rw [Nat.zero_add, flat_get enc sz hs xs i j xs[i] (List.getElem?_eq_getElem hi) hjl]
      exact hj
theorem ListAt.take {a : Option Addr} {n c k : Nat} (h : ListAt enc sz w (.slice a n c) xs) (hk : k ≤ n) : ListAt enc sz w (.slice a k c) (xs.take k) := by
  rcases h with ⟨a', c', e, rfl, hc, ha⟩ | ⟨h0, b, o, c', e, ⟨h1, h2⟩, h⟩
  · simp only [Value.slice.injEq] at e
    obtain ⟨rfl, rfl, rfl⟩ := e
    obtain rfl : k = 0 := by omega
    exact .inl ⟨_, _, rfl, by simp, hc, ha⟩
  · simp only [Value.slice.injEq] at e
    obtain ⟨rfl, rfl, rfl⟩ := e
    have hl : (xs.take k).length = k := by rw [List.length_take]; omega
    by_cases hz : k = 0
    · subst hz; exact .inl ⟨_, _, rfl, by simp, h2, by simp⟩
    · refine .inr ⟨by omega, b, o, _, by rw [hl], ⟨by omega, h2⟩, fun i hi => ?_⟩
      rw [List.getElem_take]
      exact h i (by rw [hl] at hi; omega)
theorem ListAt.drop {b o n c k : Nat} (h : ListAt enc sz w (.slice (some ⟨b, o, none⟩) n c) xs) (hk : k ≤ n) : ListAt enc sz w (.slice (some (if c = k then ⟨b, o, none⟩ else ⟨b, o + k * sz, none⟩)) (n - k) (c - k)) (xs.drop k) := by
  rcases h with ⟨a', c', e, rfl, hc, ha⟩ | ⟨h0, b', o', c', e, ⟨h1, h2⟩, h⟩
  · simp only [Value.slice.injEq] at e
    obtain ⟨rfl, rfl, rfl⟩ := e
    obtain rfl : k = 0 := by omega
    exact .inl ⟨_, _, rfl, by simp, by omega, by simp⟩
  · simp only [Value.slice.injEq, Option.some.injEq, Addr.mk.injEq] at e
    obtain ⟨⟨rfl, rfl, _⟩, rfl, rfl⟩ := e
    have hl : (xs.drop k).length = xs.length - k := List.length_drop
    by_cases hz : k = xs.length
    · subst hz; exact .inl ⟨_, c - xs.length, by rw [Nat.sub_self], by simp, by omega, fun h => by cases h⟩
    · refine .inr ⟨by omega, b, o + k * sz, c - k, by rw [hl, if_neg (by omega)], ⟨by rw [hl]; omega, by omega⟩, fun i hi => ?_⟩
      rw [List.getElem_drop]
      have := h (k + i) (by rw [hl] at hi; omega)
      rwa [show o + k * sz + i * sz = o + (k + i) * sz by rw [Nat.add_mul]; omega]
theorem ListAt.cap {a : Option Addr} {n c : Nat} (h : ListAt enc sz w (.slice a n c) xs) : n ≤ c := by
  rcases h with ⟨a', c', e, rfl, hc, ha⟩ | ⟨h0, b, o, c', e, ⟨h1, h2⟩, h⟩
  · simp only [Value.slice.injEq] at e
    obtain ⟨rfl, rfl, rfl⟩ := e
    omega
  · simp only [Value.slice.injEq] at e
    obtain ⟨rfl, rfl, rfl⟩ := e
    exact h1
theorem ListAt.len (h : ListAt enc sz w v xs) : ∃ a c, v = .slice a xs.length c := SliceOf.len h
/-- all its cells, one behind the other -/
theorem ListAt.cells (hs : ∀ x, (enc x).length = sz) (h0 : 0 < sz) (h : ListAt enc sz w v xs) (hp : 0 < xs.length) : ∃ b o c, v = .slice (some ⟨b, o, none⟩) xs.length c ∧ ∀ j u, (xs.flatMap enc)[j]? = some u → w.cell? ((⟨b, o, none⟩ : Addr).add j) = some u := by
  obtain ⟨b, o, c, e, _, h⟩ := SliceOf.some h hp
  refine ⟨b, o, c, e, fun j u hj => ?_⟩
  have hjl : j < xs.length * sz := by rw [← flat_len enc sz hs]; exact (List.getElem?_eq_some_iff.1 hj).1
  have hi : j / sz < xs.length := Nat.div_lt_of_lt_mul (by rwa [Nat.mul_comm])
  have hd : j = j / sz * sz + j % sz := by have := Nat.div_add_mod j sz; rw [Nat.mul_comm] at this; omega
  have := flat_get enc sz hs xs (j / sz) (j % sz) xs[j / sz] (List.getElem?_eq_getElem hi) (Nat.mod_lt _ h0)
  rw [← hd, hj] at this
  have hc := h (j / sz) hi (j % sz) u this.symm
  rw [Addr.add_lit] at hc ⊢
  rwa [hd, ← Nat.add_assoc]
end
section
variable {P : Program} {n : Nat} {f : Nat → Value} {w w' : World} {dst : Option Tmp} {ty : TypeId} {pos : String} {aft : Array Edge} {gd : Option (Nat × Bool)} {w0 : World} {G : List Ck} {K : Act → World → Prop} {Q : Exit → Act → World → Prop}
variable {α : Type} {enc : α → List Value}
theorem append_list {T e : TypeId} {size bytes : Nat} (hR : rowTy P T e size bytes = true) (hs : ∀ x, (enc x).length = size) (h1 : ∀ x, (enc x).all (·.oneCell') = true) {v u : Value} {k : Nat} {xs : List Value} {ys : List α} (hv : w.ownsRow 0 e size v k xs) (hu : ListAt enc size w u ys) (hb : (k + ys.length) * bytes ≤ 140737488355328) (h63 : k + ys.length ≤ 140737488355328) :
    ∃ v' w', (Builtin.append_ #[T, T] ty #[v, u]).run P w = .ok v' w' ∧ w'.ownsRow 0 e size v' (k + ys.length) (xs ++ ys.flatMap enc) ∧ w.grownBy w' v.ownBlock ∧ ∀ b, v'.ownBlock = some b → v.ownBlock = some b ∨ w.heap.size ≤ b := by
  obtain ⟨i, z, ht, hi, hz, hsz, hby, hzs, h0⟩ := rowTy_at hR
  have own := fun (a : Addr) (m c : Nat) (news : List Value) => append_own (P := P) (ty := ty) w 0 T e i z size bytes ht hi hz hsz hby hzs h0 v k xs hv a m c news
  by_cases hp : 0 < ys.length
  · obtain ⟨b, o, c, rfl, hc⟩ := hu.cells hs h0 hp
    exact own ⟨b, o, none⟩ ys.length c (ys.flatMap enc) (flat_len enc size hs ys) hc (fun x hx => List.all_eq_true.1 (flat_one enc h1 ys) x hx) (by unfold maxLen; omega) hb (Nat.zero_le _)
  · obtain rfl : ys = [] := List.eq_nil_of_length_eq_zero (by omega)
    rcases hu with ⟨a, c, rfl, _, hc, ha⟩ | ⟨h, _⟩
    · cases a with
      | none =>
        obtain rfl := ha rfl
        exact ⟨v, w, append_none w T ty e i ht hi hv, by simpa using hv, ⟨rfl, rfl, rfl, Nat.le_refl _, fun _ _ _ => rfl⟩, fun b h => .inl h⟩
      | some ad =>
        have := own ad 0 c [] (by simp) (by simp) (by simp) (by simp at h63; unfold maxLen; omega) (by simpa using hb) (Nat.zero_le _)
        simpa using this
    · simp at h
/-- append of a list to a row of the call's own -/
theorem d_appendL {T e : TypeId} {size bytes : Nat} {x y : Operand} {d : Nat} (hd : dst = some d) (H : Sat w0 G w) (hR : rowTy P T e size bytes = true) (hs : ∀ x, (enc x).length = size) (h1 : ∀ x, (enc x).all (·.oneCell') = true) (i : Nat) {v u : Value} {k : Nat} {xs : List Value} {ys : List α} (hi : G[i]? = some (rowC e size v k xs)) (hu : ListAt enc size w u ys)
    (hx : ev n f x = v) (hy : ev n f y = u) (hb : (k + ys.length) * bytes ≤ 140737488355328) (h63 : k + ys.length ≤ 140737488355328)
    (kk : ∀ v' w', Sat w0 (G.set i (rowC e size v' (k + ys.length) (xs ++ ys.flatMap enc))) w' → K (fr n (upd f d v')) w') : WO P ⟨dst, .call { callee := .builtin .append, args := #[x, y], argTypes := #[T, T] }, ty, pos, aft, gd⟩ K Q n f w := by
  obtain ⟨v', w', hr, ho, hg, hn⟩ := append_list (ty := ty) hR hs h1 (H.at i hi) hu hb h63
  exact d_val hd (e_append hx hy hr) (kk v' w' (H.set i hi (ext_grown hg) (fun b hb hne => hg.block b hb fun e => hne e.symm) ho hn))
/-- append of a list to none -/
theorem d_appendNilL {T e : TypeId} {size bytes : Nat} {x y : Operand} {d : Nat} (hd : dst = some d) (H : Sat w0 G w) (hR : rowTy P T e size bytes = true) (hs : ∀ x, (enc x).length = size) (h1 : ∀ x, (enc x).all (·.oneCell') = true) {u : Value} {ys : List α} (hu : ListAt enc size w u ys)
    (hx : ev n f x = .slice none 0 0) (hy : ev n f y = u) (hb : ys.length * bytes ≤ 140737488355328) (h63 : ys.length ≤ 140737488355328)
    (kk : ∀ v' w', Sat w0 (G ++ [rowC e size v' ys.length (ys.flatMap enc)]) w' → K (fr n (upd f d v')) w') : WO P ⟨dst, .call { callee := .builtin .append, args := #[x, y], argTypes := #[T, T] }, ty, pos, aft, gd⟩ K Q n f w := by
  obtain ⟨v', w', hr, ho, hg, hn⟩ := append_list (ty := ty) hR hs h1 (World.ownsRow_nil w 0 e size) hu (by simpa using hb) (by simpa using h63)
  simp only [Nat.zero_add, List.nil_append] at ho
  refine d_val hd (e_append hx hy hr) (kk v' w' (H.add (ext_grown hg) (fun b hb => hg.block b hb (by simp [Value.ownBlock])) ho fun b hb => ?_))
  rcases hn b hb with h | h
  · simp [Value.ownBlock] at h
  · exact h
/-- x[:hi], x[lo:] -/
theorem e_sliceHi {T E : TypeId} {x y : Operand} {a : Option Addr} {len cap : Nat} {k : IntKind} {z : Int} {q : Nat} (hT : P.underlying T = some (.slice E)) (hE : (P.info? E).isSome = true) (hx : ev n f x = .slice a len cap) (hy : ev n f y = .int k z) (h1 : z = (q : Int)) (h2 : q ≤ cap) :
    (execOp (ev n f) ⟨dst, .slice T x none (some y) none, ty, pos, aft, gd⟩).run P w = .ok (.value (.slice a q cap)) w := by
  obtain ⟨i, hi⟩ := Option.isSome_iff_exists.1 hE
  subst h1
  have := run_sliceHi (w := w) (a := a) (len := len) (cap := cap) (k := k) (z := (q : Int)) hT hi (by omega) (by omega)
  rw [Int.toNat_natCast] at this
  simp only [execOp, Instr.sliceAt, Option.map, hx, hy]
  simp [run_underlying hT, this, Result.andThen]
theorem e_sliceLo {T E : TypeId} {x y : Operand} {b o : Nat} {len cap sz : Nat} {k : IntKind} {z : Int} {q : Nat} (hT : P.underlying T = some (.slice E)) (hE : (P.info? E).map (·.size) = some sz) (hx : ev n f x = .slice (some ⟨b, o, none⟩) len cap) (hy : ev n f y = .int k z) (h1 : z = (q : Int)) (h2 : q ≤ len) :
    (execOp (ev n f) ⟨dst, .slice T x (some y) none none, ty, pos, aft, gd⟩).run P w = .ok (.value (.slice (some (if cap = q then ⟨b, o, none⟩ else ⟨b, o + q * sz, none⟩)) (len - q) (cap - q))) w := by
  cases hi : P.info? E with
  | none => rw [hi] at hE; cases hE
  | some i =>
    rw [hi] at hE
    simp only [Option.map_some, Option.some.injEq] at hE
    subst h1
    have := run_sliceLo (w := w) (b := b) (o := o) (len := len) (cap := cap) (k := k) (z := (q : Int)) hT hi (by omega) (by omega)
    rw [Int.toNat_natCast, hE] at this
    simp only [execOp, Instr.sliceAt, Option.map, hx, hy]
    simp [run_underlying hT, this, Result.andThen]
end
end Go.Proofs.Ytenihpghfdcpkaa
