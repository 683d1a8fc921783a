/- WHAT IS PROVED: a region that draws its order, whose operations only read in every world of a class and whose calls stay in the class, may be walked in the order of the text. Conditions: stated with each. -/
import Derived.Test.YtenihpghfdcpkaaMem
namespace Go.Proofs.Ytenihpghfdcpkaa
open Go.RowKit

/-- The class given by a condition, each world of it written out as a member: so that a fact on all of them is a rule without a premise. -/
structure Of (S : World → Prop) where
  w : World
  h : S w

theorem wp_region_of {P : Program} (S : World → Prop) {id : Nat} {Q : Exit → Act → World → Prop} {a : Act} {w : World} {l : List Oper} (hm : P.follows .mixedOrders = true) (hB : Region.lexB .any l.toArray = true)
    (hS : S w.drew) (h : Nonempty (Of S) → wpQuiet P l.toArray (fun w' => ∃ x : Of S, w' = x.w) (fun a' => ∀ x : Of S, Q .normal a' x.w) l a) : (Code.region id l.toArray true).wp P Q a w := by
  refine wp_region_quiet (C := fun w' => ∃ x : Of S, w' = x.w) hm hB ⟨⟨_, hS⟩, rfl⟩ ?_
  have e : (fun a' => ∀ w', (∃ x : Of S, w' = x.w) → Q .normal a' w') = (fun a' => ∀ x : Of S, Q .normal a' x.w) := by
    funext a'
    exact propext ⟨fun h x => h x.w ⟨x, rfl⟩, fun h w' ⟨x, hx⟩ => hx ▸ h x⟩
  simpa [e] using h ⟨⟨_, hS⟩⟩

/-- A callee's contract, met in a world of the class. -/
theorem Calls.of {P : Program} {S : World → Prop} {f : FuncId} {args : Array Value} {w : World} {v : Value} {R : Ending → World → Prop}
    (h : Calls P f args w R) (hR : ∀ e w', R e w' → e = .returned v ∧ S w') : Calls P f args w fun e w'' => e = .returned v ∧ ∃ x : Of S, w'' = x.w :=
  h.mono fun e w' hr => ⟨(hR e w' hr).1, ⟨⟨w', (hR e w' hr).2⟩, rfl⟩⟩

/-- An append whose run is known. -/
theorem wpList_append_run {P : Program} {w w' : World} {ops : Array Oper} {rest : List Oper} {o : Oper} {a : Act} {Q : Exit → Act → World → Prop} {v' : Value} (hgd : o.guard = none) (s x : Operand) (t : TypeId)
    (ho : o.op = .call { callee := .builtin .append, args := #[s, x], argTypes := #[t, t] }) {vs vx : Value} {ty : TypeId} (hr : (Builtin.append_ #[t, t] ty #[vs, vx]).run P w = .ok v' w') (hs : a.eval s = vs) (hx : a.eval x = vx) (hty : o.type = ty)
    (h : wpList P ops Q rest (a.put o.dst v') w') : wpList P ops Q (o :: rest) a w := by
  refine wpList_plain hgd fun K hK => ?_
  subst hs hx hty
  unfold Oper.wp execOp
  simp only [ho, resolve, invoke, builtin, Sem.run_bind, Sem.run_pure, Result.andThen_ok, List.map_toArray, List.map_cons, List.map_nil, hr]
  exact hK _ _ h

/-- .. as one step of a region that draws its order ('go_region_law'). -/
theorem step_append_run {P : Program} {ops : Array Oper} {o : Oper} {a : Act} {w w' : World} {K : Act → World → Prop} {Q : Exit → Act → World → Prop} {E : Prop} {v' : Value} (hg : o.guard = none) (s x : Operand) (t : TypeId)
    (ho : o.op = .call { callee := .builtin .append, args := #[s, x], argTypes := #[t, t] }) {vs vx : Value} {ty : TypeId} (hr : (Builtin.append_ #[t, t] ty #[vs, vx]).run P w = .ok v' w') (hs : a.eval s = vs) (hx : a.eval x = vx) (hty : o.type = ty)
    (hK : K (a.put o.dst v') w') : if Region.wanted o (yielded ops a.tmps) = true then Oper.wp P o a w K Q else E := by
  have hw : Region.wanted o (yielded ops a.tmps) = true := by simp [Region.wanted, hg]
  rw [if_pos hw]
  subst hs hx hty
  unfold Oper.wp execOp
  simp only [ho, resolve, invoke, builtin, Sem.run_bind, Sem.run_pure, Result.andThen_ok, List.map_toArray, List.map_cons, List.map_nil, hr]
  exact hK
end Go.Proofs.Ytenihpghfdcpkaa
