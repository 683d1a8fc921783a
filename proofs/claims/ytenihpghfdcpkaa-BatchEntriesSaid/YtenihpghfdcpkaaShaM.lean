/- WHAT IS PROVED: arrays of whole numbers in memory that are turned in place; bytes of a list, read. Conditions: stated with each. -/
import Derived.Test.YtenihpghfdcpkaaTxtD
namespace Go.Proofs.Ytenihpghfdcpkaa
open Go.RowKit
/-- an array of n numbers at g -/
def rowW (k : IntKind) (g T n : Nat) (A : List Int) : Ck where
  fp b := b = g
  ok w := A.length = n ∧ w.heap[g]? = some (.cells ⟨A.map (Value.int k)⟩ T (0, 0))
  stay h hb := ⟨h.1, (hb g rfl).trans h.2⟩
  lt h _ hk := hk ▸ heap_lt h.2
section
variable {k : IntKind} {g T n : Nat} {A : List Int} {w w0 w' : World} {G : List Ck}
theorem rowW_len (h : (rowW k g T n A).ok w) : A.length = n := h.1
theorem rowW_cell (h : (rowW k g T n A).ok w) {i o : Nat} (hi : i < n) (ho : o = i) : w.cell? ⟨g, o, none⟩ = some (.int k (A.getD i 0)) := by
  subst ho
  rw [cell_of_heap h.2]
  simp [List.getD_eq_getElem?_getD, List.getElem?_eq_getElem (show o < A.length by rw [h.1]; exact hi)]
theorem rowW_run (h : (rowW k g T n A).ok w) : RunAt w ⟨g, 0, none⟩ (A.map (Value.int k)) := fun j v hj => by
  rw [Addr.add_lit, cell_of_heap h.2]; simpa using hj
theorem Sat.toW (H : Sat w0 G w) (i : Nat) (k : IntKind) (A : List Int) (hi : G[i]? = some (cellC g T (A.map (Value.int k)))) (hn : A.length = n) : Sat w0 (G.set i (rowW k g T n A)) w :=
  H.set i hi ⟨rfl, rfl, rfl, Nat.le_refl _⟩ (fun _ _ _ => rfl) ⟨hn, H.at i hi⟩ (fun _b hb => .inl hb)
theorem Sat.offW (H : Sat w0 G w) (i : Nat) (hi : G[i]? = some (rowW k g T n A)) : Sat w0 (G.set i (cellC g T (A.map (Value.int k)))) w :=
  H.set i hi ⟨rfl, rfl, rfl, Nat.le_refl _⟩ (fun _ _ _ => rfl) (H.at i hi).2 (fun _b hb => .inl hb)
end
section
variable {P : Program} {n : Nat} {f : Nat → Value} {w w0 : World} {dst : Option Tmp} {ty : TypeId} {pos : String} {aft : Array Edge} {gd : Option (Nat × Bool)} {K : Act → World → Prop} {Q : Exit → Act → World → Prop} {G : List Ck}
theorem d_storeW (k : IntKind) {T TA m : Nat} {A : List Int} {g i : Nat} {x y : Operand} {z : Int} {o : Nat} (hd : dst = none) (H : Sat w0 G w) (j : Nat) (hj : G[j]? = some (rowW k g TA m A)) (hx : ev n f x = .pointer (some ⟨g, o, none⟩)) (hy : ev n f y = .int k z) (hN : P.cellsOf T = 1) (ho : o = i) (hi : i < m)
    (kk : ∀ w', Sat w0 (G.set j (rowW k g TA m (A.set i z))) w' → K (fr n f) w') : WO P ⟨dst, .store T x y, ty, pos, aft, gd⟩ K Q n f w := by
  have h := H.at j hj
  subst ho
  have hil : o < A.length := by rw [h.1]; exact hi
  obtain ⟨w', hr, hb, he, hk⟩ := e_store (P := P) (dst := dst) (ty := ty) (pos := pos) (aft := aft) (gd := gd) (vs := [.int k z]) hx hy rfl hN (by simp) h.2 (by simp; omega) (fun v hv => by rw [List.mem_singleton.1 hv]; rfl)
  refine d_skip hd hr (kk w' (H.set j hj he (fun b _ hne => hk b hne) ⟨by simp [h.1], ?_⟩ (fun b hb => .inl hb)))
  have e : splice (A.map (Value.int k)) o [Value.int k z] = (A.set o z).map (Value.int k) := by
    rw [List.set_eq_take_append_cons_drop, if_pos hil]
    simp [splice]
  rw [← e]; exact hb
theorem d_storeWA (k : IntKind) {T TA m : Nat} {A B : List Int} {g : Nat} {x y : Operand} {u : Value} (hd : dst = none) (H : Sat w0 G w) (j : Nat) (hj : G[j]? = some (rowW k g TA m A)) (hx : ev n f x = .pointer (some ⟨g, 0, none⟩)) (hy : ev n f y = u) (hu : u.cells = ⟨B.map (Value.int k)⟩) (hN : P.cellsOf T = m) (hm : 0 < m) (hB : B.length = m)
    (kk : ∀ w', Sat w0 (G.set j (rowW k g TA m B)) w' → K (fr n f) w') : WO P ⟨dst, .store T x y, ty, pos, aft, gd⟩ K Q n f w := by
  have h := H.at j hj
  obtain ⟨w', hr, hb, he, hk⟩ := e_store (P := P) (dst := dst) (ty := ty) (pos := pos) (aft := aft) (gd := gd) (vs := B.map (Value.int k)) hx hy hu (by rw [hN]; simp [hB]) (by simp [hB]; omega) h.2 (by simp [hB, h.1]) (fun v hv => by obtain ⟨z, _, rfl⟩ := List.mem_map.1 hv; rfl)
  refine d_skip hd hr (kk w' (H.set j hj he (fun b _ hne => hk b hne) ⟨hB, ?_⟩ (fun b hb => .inl hb)))
  have e : splice (A.map (Value.int k)) 0 (B.map (Value.int k)) = B.map (Value.int k) := by simp [splice, hB, h.1]
  rw [← e]; exact hb
theorem e_loadWA {k : IntKind} {T TA m g : Nat} {A : List Int} {x : Operand} (hx : ev n f x = .pointer (some ⟨g, 0, none⟩)) (hT : aggTy P T = true) (hN : P.cellsOf T = m) (hm : 0 < m) (h : (rowW k g TA m A).ok w) :
    (execOp (ev n f) ⟨dst, .load T x, ty, pos, aft, gd⟩).run P w = .ok (.value (.agg ⟨A.map (Value.int k)⟩)) w :=
  e_loadRun hx hT (by rw [hN]; simp [h.1]) (by simp [h.1]; omega) (rowW_run h)
/-- a byte of a list -/
theorem list_shape {v : Value} {s : List UInt8} (h : ListAt encB 1 w v s) (h0 : 0 < s.length) : ∃ b o c, v = .slice (some ⟨b, o, none⟩) s.length c := by
  obtain ⟨b, o, c, e, _⟩ := SliceOf.some h h0
  exact ⟨b, o, c, e⟩
theorem list_cell {b o c i p m : Nat} {s : List UInt8} (h : ListAt encB 1 w (.slice (some ⟨b, o, none⟩) m c) s) (hi : i < s.length) (hp : p = o + i) : w.cell? ⟨b, p, none⟩ = some (.int .u8 ((s.getD i 0).toNat : Int)) := by
  obtain ⟨b', o', c', e, _, hr⟩ := SliceOf.some h (by omega)
  simp only [Value.slice.injEq, Option.some.injEq, Addr.mk.injEq] at e
  obtain ⟨⟨rfl, rfl, _⟩, _, _⟩ := e
  have := hr i hi 0 _ rfl
  rw [Addr.add_lit] at this
  rw [hp, show o + i = o + i * 1 + 0 by omega, this, List.getD_eq_getElem?_getD, List.getElem?_eq_getElem hi]; rfl
end
section
variable {α : Type} {enc : α → List Value} {sz : Nat} {w : World} {xs : List α}
theorem ListAt.dropG {a : Option Addr} {n c k : Nat} (h : ListAt enc sz w (.slice a n c) xs) (hk : k ≤ n) : ListAt enc sz w (.slice (if c = k then a else a.map (·.add (k * sz))) (n - k) (c - k)) (xs.drop k) := by
  rcases h with ⟨a', c', e, rfl, hc, ha⟩ | ⟨h0, b', o', c', e, ⟨h1, h2⟩, h⟩
  · simp only [Value.slice.injEq] at e
    obtain ⟨rfl, rfl, rfl⟩ := e
    obtain rfl : k = 0 := by omega
    refine .inl ⟨_, _, rfl, by simp, by omega, fun q => ?_⟩
    by_cases h0 : c = 0
    · omega
    · rw [if_neg h0] at q
      cases a with
      | none => have := ha rfl; omega
      | some ad => cases q
  · simp only [Value.slice.injEq] at e
    obtain ⟨rfl, rfl, rfl⟩ := e
    have hl : (xs.drop k).length = xs.length - k := List.length_drop
    by_cases hz : k = xs.length
    · subst hz
      refine .inl ⟨_, c - xs.length, by rw [Nat.sub_self], by simp, by omega, fun q => ?_⟩
      split at q
      · cases q
      · cases q
    · refine .inr ⟨by omega, b', o' + k * sz, c - k, ?_, ⟨by rw [hl]; omega, by omega⟩, fun i hi => ?_⟩
      · rw [hl, if_neg (by omega), Option.map_some, Addr.add_lit]
      · rw [List.getElem_drop]
        have := h (k + i) (by rw [hl] at hi; omega)
        rwa [show o' + k * sz + i * sz = o' + (k + i) * sz by rw [Nat.add_mul]; omega]
end
section
variable {P : Program} {n : Nat} {f : Nat → Value} {w : World} {dst : Option Tmp} {ty : TypeId} {pos : String} {aft : Array Edge} {gd : Option (Nat × Bool)}
theorem e_sliceLoG {T E : TypeId} {x y : Operand} {a : Option Addr} {len cap sz : Nat} {k : IntKind} {z : Int} {q : Nat} (hT : P.underlying T = some (.slice E)) (hE : (P.info? E).map (·.size) = some sz) (hx : ev n f x = .slice a len cap) (hy : ev n f y = .int k z) (h1 : z = (q : Int)) (h2 : q ≤ len) :
    (execOp (ev n f) ⟨dst, .slice T x (some y) none none, ty, pos, aft, gd⟩).run P w = .ok (.value (.slice (if cap = q then a else a.map (·.add (q * sz))) (len - q) (cap - q))) w := by
  cases hi : P.info? E with
  | none => rw [hi] at hE; cases hE
  | some inf =>
    rw [hi] at hE
    simp only [Option.map_some, Option.some.injEq] at hE
    subst h1 hE
    have : (Instr.slice T (.slice a len cap) (some (.int k (q : Int))) none none).run P w = .ok (.slice (if cap = q then a else a.map (·.add (q * inf.size))) (len - q) (cap - q)) w := by
      simp [Instr.slice, run_underlying hT, Instr.sliceBounds, Instr.sliceBound, asIntOf, h2, Result.andThen, sizeOf, typeInfo, hi]
    simp only [execOp, Instr.sliceAt, Option.map, hx, hy]
    simp [run_underlying hT, this, Result.andThen]
    cases a <;> rfl
end
end Go.Proofs.Ytenihpghfdcpkaa
