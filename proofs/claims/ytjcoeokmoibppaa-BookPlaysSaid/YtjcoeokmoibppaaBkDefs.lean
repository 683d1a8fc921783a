/- WHAT IS PROVED: books and bytes in memory as pieces; a copy of bytes, its whole block. Conditions: stated with each. -/
import Derived.Test.YtjcoeokmoibppaaRbDefs
import Derived.Test.YtjcoeokmoibppaaListAt
import Derived.Test.YtjcoeokmoibppaaSortMath
import Derived.Test.YtjcoeokmoibppaaRowSt
import Derived.Test.YtjcoeokmoibppaaMinMax
import Derived.Test.YtjcoeokmoibppaaBits
namespace Go.Proofs.Ytjcoeokmoibppaa
open Go.RowKit
def encY (x : Int) : List Value := [.int .u8 x]
theorem encY_len (x : Int) : (encY x).length = 1 := rfl
theorem encY_one (x : Int) : (encY x).all (·.oneCell') = true := rfl
def ltY (x y : Int) : Bool := decide (x < y)
theorem swY : SW ltY := ⟨fun x y h => by simp [ltY] at h ⊢; omega, fun x y z h1 h2 => by simp [ltY] at h1 h2 ⊢; omega⟩
/-- a list of numbers at g -/
def rowY (g n c : Nat) (A : List Int) : Ck := rowC 5 1 (.slice (some ⟨g, 0, none⟩) n c) n (A.flatMap encY)
theorem rowY_len {g n c : Nat} {A : List Int} {w : World} (h : (rowY g n c A).ok w) : A.length = n := by
  have := h.1
  rw [flat_len encY 1 encY_len] at this
  omega
theorem rowY_cell {g n c o j : Nat} {A : List Int} {w : World} {x : Int} (h : (rowY g n c A).ok w) (hx : A[j]? = some x) (ho : o = j) : w.cell? ⟨g, o, none⟩ = some (.int .u8 x) := by
  refine row_cell h rfl ?_
  have := flat_get encY 1 encY_len A j 0 x hx (by omega)
  rw [Nat.mul_one, Nat.add_zero] at this
  rw [ho]
  exact this
theorem d_storeY {P : Program} {n : Nat} {f : Nat → Value} {w : World} {ty : TypeId} {pos : String} {aft : Array Edge} {gd : Option (Nat × Bool)} {w0 : World} {G : List Ck} {K : Act → World → Prop} {Q : Exit → Act → World → Prop} {dst : Option Tmp} {T : TypeId} {x y : Operand} {g m c o j : Nat} {A : List Int} {u : Int}
    (hd : dst = none) (H : Sat w0 G w) (i : Nat) (hi : G[i]? = some (rowY g m c A)) (hx : ev n f x = .pointer (some ⟨g, o, none⟩)) (hy : ev n f y = .int .u8 u) (hT : P.cellsOf T = 1) (ho : o = j) (hj : j < A.length)
    (k : ∀ w', Sat w0 (G.set i (rowY g m c (A.set j u))) w' → K (fr n f) w') : WO P ⟨dst, .store T x y, ty, pos, aft, gd⟩ K Q n f w :=
  d_storeRow hd H i hi rfl hx hy (vs := [.int .u8 u]) rfl hT (Nat.succ_pos _) (by rw [flat_len encY 1 encY_len, ho]; show j + 1 ≤ _; omega) rfl (xs' := (A.set j u).flatMap encY) (by subst ho; have := flat_set encY 1 encY_len A o u hj; rw [Nat.mul_one] at this; exact this) k
/-- the program's book at b, mb -/
def bookC (b mb : Nat) (l : List Signed) : Ck where
  fp k := k = b ∨ k = mb
  ok w := BookAt w b mb l
  stay h hb := ⟨(hb b (.inl rfl)).trans h.1, h.2.1, h.2.2.stay (hb mb (.inr rfl))⟩
  lt h k hk := by have := h.lt; rcases hk with rfl | rfl <;> omega
def encB (c : UInt8) : List Value := [byteV c]
theorem encB_len (x : UInt8) : (encB x).length = 1 := rfl
theorem encB_one (x : UInt8) : (encB x).all (·.oneCell') = true := rfl
theorem list_bytes {w : World} {v : Value} {s : List UInt8} (h : ListAt encB 1 w v s) : BytesAt w v s := by
  rcases h with h | ⟨h0, b', o, c', e, hc, h⟩
  · exact .inl h
  · exact .inr ⟨h0, b', o, c', e, hc, fun i hi => by have := h i hi 0 (byteV s[i]) rfl; rw [Addr.add_lit] at this; exact this⟩
theorem bytes_list {w : World} {v : Value} {s : List UInt8} (h : BytesAt w v s) : ListAt encB 1 w v s := by
  rcases h with h | ⟨h0, b', o, c', e, hc, h⟩
  · exact .inl h
  · refine .inr ⟨h0, b', o, c', e, hc, fun i hi j u hj => ?_⟩
    match j, hj with
    | 0, hj =>
      simp only [encB, List.getElem?_cons_zero, Option.some.injEq] at hj
      subst hj
      rw [Addr.add_lit]; exact h i hi
    | _ + 1, hj => simp [encB] at hj
def natsOf (s : List UInt8) : List Int := s.map fun c => (c.toNat : Int)
theorem nats_enc (s : List UInt8) : (natsOf s).flatMap encY = s.flatMap encB := by
  induction s with
  | nil => rfl
  | cons x s ih => simp only [natsOf, List.map_cons, List.flatMap_cons] at ih ⊢; rw [ih]; rfl
theorem zeroCells_one (k : Nat) : (Builtin.zeroCells (Value.int .u8 0).cells k).toList = List.replicate k (Value.int .u8 0) := by
  show (Builtin.zeroCells #[Value.int .u8 0] k).toList = _
  refine List.eq_replicate_iff.2 ⟨by simp [Builtin.zeroCells], fun b hb => ?_⟩
  simp only [Builtin.zeroCells, Array.toList_map, List.mem_map] at hb
  obtain ⟨i, _, rfl⟩ := hb
  simp [Nat.mod_one]
theorem flat_rep (k : Nat) : (List.replicate k (0 : Int)).flatMap encY = List.replicate k (Value.int .u8 0) := by
  induction k with
  | zero => rfl
  | succ k ih => rw [List.replicate_succ, List.flatMap_cons, ih]; rfl
/-- what a copy of bytes is: none, or a block of its own that is known whole -/
def CopyOf (w0 : World) (s : List UInt8) (u : Value) (w : World) : Prop :=
  (s = [] ∧ u = .slice none 0 0) ∨ ∃ g c D, u = .slice (some ⟨g, 0, none⟩) s.length c ∧ 0 < s.length ∧ w0.heap.size ≤ g ∧ s.length ≤ c ∧ (rowY g c c D).ok w ∧ D.take s.length = natsOf s
theorem appendY {w : World} {ty : TypeId} {v : Value} {s : List UInt8} (hv : ListAt encB 1 w v s) (hl : s.length ≤ 1000000) :
    ∃ u w', (Builtin.append_ #[27, 27] ty #[.slice none 0 0, v]).run Try.prog w = .ok u w' ∧ Upd [] w w' ∧ CopyOf w s u w' := by
  have hR : rowTy Try.prog 27 5 1 1 = true := by kernel_rfl
  obtain ⟨i, z, ht, hi, hz, hsz, hby, hzs, h0⟩ := rowTy_at hR
  by_cases hp : 0 < s.length
  · obtain ⟨b2, o2, c2, rfl, hc2⟩ := hv.cells encB_len h0 hp
    have hfl := flat_len encB 1 encB_len s
    have hr := run_append_nil (P := Try.prog) w 27 ty 5 i z ht hi hz ⟨b2, o2, none⟩ s.length c2 (s.flatMap encB) (by rw [hfl, hsz]) hc2 hp (by omega) (by rw [hby]; omega)
    have hzz : z = .int .u8 0 := by
      have : (Try.prog.info? 5).bind (·.zero) = some (.int .u8 0) := by kernel_rfl
      rw [hi] at this
      simp only [Option.bind_some, hz, Option.some.injEq] at this
      exact this
    subst hzz
    obtain ⟨C, hC⟩ : ∃ C, grownCap w s.length 0 5 = C := ⟨_, rfl⟩
    have hge : s.length ≤ C := hC ▸ grownCap_ge w s.length 0 5
    have hcm : C ≤ maxLen := hC ▸ grownCap_le_maxLen w s.length 0 5 (by unfold maxLen; omega)
    rw [hC] at hr
    refine ⟨_, _, hr, ⟨rfl, rfl, rfl, by simp, fun k hk _ => heap_alloc_old w.drew _ hk⟩, .inr ⟨w.heap.size, C, natsOf s ++ List.replicate (C - s.length) 0, rfl, hp, Nat.le_refl _, hge, ?_, ?_⟩⟩
    · have hlen : (natsOf s ++ List.replicate (C - s.length) (0 : Int)).length = C := by simp [natsOf]; omega
      refine ⟨by rw [flat_len encY 1 encY_len, hlen], .inr ⟨w.heap.size, C, _, rfl, Nat.zero_le _, heap_alloc_new w.drew _, Nat.le_refl _, hcm, ?_, ?_⟩⟩
      · have hz1 := congrArg List.length (zeroCells_one (C - s.length))
        simp only [Array.length_toList, List.length_replicate] at hz1
        simp only [Array.size_append, List.size_toArray, hfl, hz1]
        omega
      · have hall : (s.flatMap encB ++ List.replicate (C - s.length) (Value.int .u8 0)).length = C := by simp [hfl]; omega
        rw [List.flatMap_append, nats_enc, flat_rep]
        simp only [Array.toList_append, zeroCells_one]
        rw [Nat.mul_one]
        exact List.take_of_length_le (by rw [hall]; exact Nat.le_refl _)
    · rw [List.take_append_of_le_length (by simp [natsOf]), List.take_of_length_le (by simp [natsOf])]
  · obtain rfl : s = [] := List.eq_nil_of_length_eq_zero (by omega)
    rcases hv with ⟨a, c, rfl, _, hc, ha⟩ | ⟨h, _⟩
    · refine ⟨.slice none 0 0, w, ?_, Upd.refl _ _, .inl ⟨rfl, rfl⟩⟩
      cases a with
      | none =>
        have hf := run_firstCells_none (P := Try.prog) w i.size 0 0 c
        simp [Builtin.append_, run_underlying ht, Builtin.lenOf, sizeOf, typeInfo, hi, Result.andThen, hf]
      | some ad =>
        have hf := run_firstCells_some (P := Try.prog) w i.size 0 ad 0 c [] (by simp) (by simp)
        simp [Builtin.append_, run_underlying ht, Builtin.lenOf, sizeOf, typeInfo, hi, Result.andThen, hf]
    · simp at h
section
variable {n : Nat} {f : Nat → Value} {w w' : World} {dst : Option Tmp} {ty : TypeId} {pos : String} {aft : Array Edge} {gd : Option (Nat × Bool)} {K : Act → World → Prop} {Q : Exit → Act → World → Prop}
theorem d_appendY {x y : Operand} {d : Nat} (hd : dst = some d) {v : Value} {s : List UInt8} (hv : ListAt encB 1 w v s) (hl : s.length ≤ 1000000) (hx : ev n f x = .slice none 0 0) (hy : ev n f y = v)
    (kk : ∀ u w', Upd [] w w' → CopyOf w s u w' → K (fr n (upd f d u)) w') : WO Try.prog ⟨dst, .call { callee := .builtin .append, args := #[x, y], argTypes := #[27, 27] }, ty, pos, aft, gd⟩ K Q n f w := by
  obtain ⟨u, w', hr, hu, hc⟩ := appendY (ty := ty) hv hl
  exact d_val hd (e_append hx hy hr) (kk u w' hu hc)
end
theorem CopyOf.row {w0 w : World} {s : List UInt8} {u : Value} (h : CopyOf w0 s u w) : (rowC 5 1 u s.length (s.flatMap encB)).ok w ∧ ∀ b, u.ownBlock = some b → w0.heap.size ≤ b := by
  rcases h with ⟨rfl, rfl⟩ | ⟨g, c, D, rfl, h0, hg, hc, hD, ht⟩
  · exact ⟨World.ownsRow_nil w 0 _ 1, fun b hb => by simp [Value.ownBlock] at hb⟩
  · refine ⟨⟨by rw [flat_len encB 1 encB_len], ?_⟩, fun b hb => by simp [Value.ownBlock] at hb; omega⟩
    rcases hD.2 with ⟨e, _⟩ | ⟨g', cap, cur, e, _, hgg, h1, h2, h3, h4⟩
    · cases e
    · simp only [Value.slice.injEq, Option.some.injEq, Addr.mk.injEq] at e
      obtain ⟨⟨rfl, _⟩, _, rfl⟩ := e
      refine .inr ⟨g, c, cur, rfl, Nat.zero_le _, hgg, hc, h2, h3, ?_⟩
      have : cur.toList.take (s.length * 1) = (cur.toList.take (c * 1)).take (s.length * 1) := by rw [List.take_take]; congr 1; omega
      rw [this, h4, ← nats_enc, ← ht, Nat.mul_one]
      have hf := fun (l : List Int) (k : Nat) => show (l.flatMap encY).take k = (l.take k).flatMap encY from by
        induction l generalizing k with
        | nil => simp
        | cons x l ih => cases k with
          | zero => rfl
          | succ k => simp only [List.flatMap_cons, List.take_succ_cons]; rw [← ih k]; rfl
      exact hf D s.length
/-- a copy of bytes that is known whole, as a piece -/
def copyC (w0 : World) (s : List UInt8) (u : Value) : Ck where
  fp k := u.ownBlock = some k
  ok w := CopyOf w0 s u w
  stay h hb := by
    rcases h with h | ⟨g, c, D, rfl, h0, hg, hc, hD, ht⟩
    · exact .inl h
    · exact .inr ⟨g, c, D, rfl, h0, hg, hc, (rowY g c c D).stay hD fun b hb' => hb b (by simpa [rowY, rowC, Value.ownBlock] using hb'), ht⟩
  lt h k hk := (h.row.1).lt k hk |>.2
end Go.Proofs.Ytjcoeokmoibppaa
