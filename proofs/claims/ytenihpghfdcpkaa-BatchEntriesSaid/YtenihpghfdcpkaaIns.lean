/- WHAT IS PROVED: how a walk reads the things of a list among its arguments. Conditions: stated with each. -/
import Derived.Test.YtenihpghfdcpkaaObj
namespace Go.Proofs.Ytenihpghfdcpkaa
open Go.RowKit
section
variable {α : Type} {w W : World} {v : Value} {b o q : Nat}
theorem cells_at {vs : List Value} (h : RunAt w ⟨b, o, none⟩ vs) (d : Nat) {u : Value} (hu : vs[d]? = some u) (hq : q = o + d) : w.cell? ⟨b, q, none⟩ = some u := by
  have := h d u hu
  rw [Addr.add_lit] at this
  rw [hq]; exact this
theorem cells_run {vs us : List Value} (h : RunAt w ⟨b, o, none⟩ vs) (d : Nat) (hu : (vs.drop d).take us.length = us) (hq : q = o + d) : RunAt w ⟨b, q, none⟩ us := by
  intro j u hj
  have hl : j < us.length := (List.getElem?_eq_some_iff.1 hj).1
  rw [Addr.add_lit]
  refine cells_at h (d + j) ?_ (by omega)
  rw [← hu, List.getElem?_take, if_pos hl, List.getElem?_drop] at hj
  exact hj
theorem Sat.runR {w0 : World} {G : List Ck} {D : Nat → Prop} (H : Sat w0 G w) (i : Nat) (hi : G[i]? = some (restC W D)) {vs : List Value} (h : RunAt W ⟨b, o, none⟩ vs) (hD : ¬ D b) : RunAt w ⟨b, o, none⟩ vs := fun j u hj => by
  have := h j u hj
  rw [Addr.add_lit] at this ⊢
  exact H.cellR i hi this hD
theorem IntsAt.atD {s : List Int} (h : IntsAt w v s) {i : Nat} (hi : i < s.length) : ∃ b o cap, v = .slice (Option.some ⟨b, o, none⟩) s.length cap ∧ RunAt w ⟨b, o + i * 1, none⟩ [.int .i64 (s.getD i 0)] := by
  obtain ⟨b, o, cap, e, _, h⟩ := h.some (by omega)
  refine ⟨b, o, cap, e, fun j u hj => ?_⟩
  match j, hj with
  | 0, hj =>
    simp only [List.getElem?_cons_zero, Option.some.injEq] at hj
    subst hj
    rw [Addr.add_lit]
    simpa using h i hi
theorem SliceOf.atD {L : α → List Value} {sz : Nat} {s : List α} (h : SliceOf (fun w a x => RunAt w a (L x)) sz w v s) (d : α) {i : Nat} (hi : i < s.length) : ∃ b o cap, v = .slice (Option.some ⟨b, o, none⟩) s.length cap ∧ RunAt w ⟨b, o + i * sz, none⟩ (L (s.getD i d)) := by
  obtain ⟨b, o, cap, e, _, h⟩ := SliceOf.some h (by omega)
  refine ⟨b, o, cap, e, ?_⟩
  have := h i hi
  rwa [show s.getD i d = s[i] by simp [List.getD, List.getElem?_eq_getElem hi]]
end
section
variable {P : Program} {n : Nat} {f : Nat → Value} {w : World} {dst : Option Tmp} {ty : TypeId} {pos : String} {aft : Array Edge} {gd : Option (Nat × Bool)}
theorem e_indexAddrW {T E : TypeId} {x y : Operand} {v : Value} {b o len cap sz : Nat} {k : IntKind} {z : Int} (hT : P.underlying T = some (.slice E)) (hs : P.cellsOf E = sz) (h0 : 0 < sz) (hx : ev n f x = v) (hv : v = .slice (some ⟨b, o, none⟩) len cap) (hy : ev n f y = .int k z) (h1 : 0 ≤ z) (h2 : z < len) :
    (execOp (ev n f) ⟨dst, .indexAddr T x y, ty, pos, aft, gd⟩).run P w = .ok (.value (.pointer (some ⟨b, o + z.toNat * sz, none⟩))) w :=
  e_indexAddr hT hs h0 (hx.trans hv) hy h1 h2
end
end Go.Proofs.Ytenihpghfdcpkaa
