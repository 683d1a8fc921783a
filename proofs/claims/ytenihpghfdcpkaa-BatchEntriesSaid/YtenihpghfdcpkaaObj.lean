/- WHAT IS PROVED: rules for calls that turn several pieces of memory and make new ones. Conditions: stated with each. -/
import Derived.Test.YtenihpghfdcpkaaLists
namespace Go.Proofs.Ytenihpghfdcpkaa
open Go.RowKit
section
variable {w0 w w' : World} {G G' L L' R : List Ck}
theorem Sat.cast (H : Sat w0 G w) (h : G = G') : Sat w0 G' w := h ▸ H
/-- a call that turned the pieces L into L' (new ones among them) -/
theorem Sat.turnL (H : Sat w0 G w) (is js : List Nat) (hn : (is ++ js).Pairwise (fun a b => Nat.beq a b = false)) (hi : (is.filterMap fun i => G[i]?) = L) (hj : (js.filterMap fun i => G[i]?) = R)
    (h : Sat w (L' ++ [restC w (sepC L).fp]) w') : Sat w0 (L' ++ R) w' := by
  have H1 : Sat w0 (L ++ R) w := by
    have := H.pick (is ++ js) hn
    rwa [List.filterMap_append, hi, hj] at this
  have hr : (restC w (sepC L).fp).ok w' := h.all _ (by simp)
  have hd1 := List.pairwise_append.1 H1.dis
  have hd2 := List.pairwise_append.1 h.dis
  have far : ∀ B ∈ R, ∀ b, B.fp b → b < w.heap.size ∧ ¬ (sepC L).fp b := by
    intro B hB b hb
    refine ⟨B.lt (H1.all B (List.mem_append_right _ hB)) b hb, ?_⟩
    rintro ⟨A, hA, hf⟩
    exact hd1.2.2 A hA B hB b hf hb
  refine ⟨H.ext.trans h.ext, ?_, List.pairwise_append.2 ⟨hd2.1, hd1.2.1, ?_⟩⟩
  · intro B hB
    rcases List.mem_append.1 hB with hB | hB
    · exact h.all B (List.mem_append_left _ hB)
    · refine B.stay (H1.all B (List.mem_append_right _ hB)) fun b hb => ?_
      have := far B hB b hb
      exact hr b this.1 this.2
  · intro A hA B hB b h1 h2
    exact hd2.2.2 A hA _ (List.mem_singleton.2 rfl) b h1 (far B hB b h2)
theorem Sat.ok (H : Sat w0 G w) (is : List Nat) (hn : is.Pairwise (fun a b => Nat.beq a b = false)) (hi : (is.filterMap fun i => G[i]?) = L) : (sepC L).ok w := H.fin is hn hi
/-- several pieces as one -/
theorem Sat.closeL (H : Sat w0 (L ++ R) w) : Sat w0 (sepC L :: R) w := by
  have hd := List.pairwise_append.1 H.dis
  refine ⟨H.ext, ?_, List.pairwise_cons.2 ⟨?_, hd.2.1⟩⟩
  · intro B hB
    rcases List.mem_cons.1 hB with rfl | hB
    · exact ⟨fun A hA => H.all A (List.mem_append_left _ hA), hd.1⟩
    · exact H.all B (List.mem_append_right _ hB)
  · rintro B hB b ⟨A, hA, hf⟩ h2
    exact hd.2.2 A hA B hB b hf h2
/-- the old memory seen from later on -/
theorem Sat.own (H : Sat w0 G w) (is : List Nat) (hn : is.Pairwise (fun a b => Nat.beq a b = false)) (hi : (is.filterMap fun i => G[i]?) = L) : Sat w (L ++ [restC w (sepC L).fp]) w := Sat.start L (H.fin is hn hi)
/-- one closed piece that a call turned into these -/
theorem Sat.turn1 {A : Ck} (H : Sat w0 G w) (i : Nat) (js : List Nat) (hn : (i :: js).Pairwise (fun a b => Nat.beq a b = false)) (hi : G[i]? = some A) (hj : (js.filterMap fun i => G[i]?) = R)
    (h : Sat w (L' ++ [restC w A.fp]) w') : Sat w0 (L' ++ R) w' := by
  refine Sat.turnL (L := [A]) H [i] js hn (by simp [hi]) hj ?_
  have e : restC w A.fp = restC w (sepC [A]).fp := by
    have : A.fp = (sepC [A]).fp := by
      funext b
      exact propext ⟨fun hb => ⟨A, by simp, hb⟩, fun ⟨B, hB, hb⟩ => by rw [List.mem_singleton] at hB; rw [hB] at hb; exact hb⟩
    rw [this]
  rw [← e]; exact h
theorem row_run {e size : Nat} {v : Value} {k : Nat} {xs : List Value} {g o c : Nat} (h : (rowC e size v k xs).ok w) (hv : v = .slice (some ⟨g, 0, none⟩) k c) {us : List Value} (hu : (xs.drop o).take us.length = us) : RunAt w ⟨g, o, none⟩ us := by
  intro q u hq
  have hql : q < us.length := (List.getElem?_eq_some_iff.1 hq).1
  rw [Addr.add_lit]
  refine row_cell h hv ?_
  rw [← hu, List.getElem?_take, if_pos hql, List.getElem?_drop] at hq
  exact hq
end
section
variable {P : Program} {Q : Exit → Act → World → Prop} {n : Nat} {f : Nat → Value} {w0 w w' : World} {G : List Ck} {dst : Option Tmp} {ty : TypeId} {pos : String} {aft : Array Edge} {gd : Option (Nat × Bool)} {K : Act → World → Prop}
theorem d_storeX {T : TypeId} {x y : Operand} (hd : dst = none) (H : Sat w0 G w) (i : Nat) {b q : Nat} {E : TypeId} {cs vs cs' : List Value} {u : Value}
    (hi : G[i]? = some (cellC b E cs)) (hx : ev n f x = .pointer (some ⟨b, q, none⟩)) (hy : ev n f y = u) (hu : u.cells = ⟨vs⟩) (hN : P.cellsOf T = vs.length) (h0 : 0 < vs.length) (ho : q + vs.length ≤ cs.length) (h1 : vs.all (·.oneCell') = true) (hs : splice cs q vs = cs')
    (k : ∀ w', Sat w0 (G.set i (cellC b E cs')) w' → K (fr n f) w') : WO P ⟨dst, .store T x y, ty, pos, aft, gd⟩ K Q n f w := d_store hd H i hi hx hy hu hN h0 ho h1 (by rw [hs]; exact k)
end
end Go.Proofs.Ytenihpghfdcpkaa
