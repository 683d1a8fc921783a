/- WHAT IS PROVED: '==' and '!=' over structs and arrays of ints, Bools and hashes: the things are the same. Conditions: stated with each. -/
import Derived.Test.YtbpeofcoceaahaaHash
import Derived.ChangeKeysEq
namespace Go.Proofs.Ytbpeofcoceaahaa
open Go.RowKit
section
variable {P : Program} {t : TypeId} {X : Type} [DecidableEq X]
/-- a kind of things of which '==' says whether they are the same -/
structure Flat (P : Program) (t : TypeId) (enc : X → List Value) : Prop where
  eq : ∀ (w : World) (x y : X), (Op.equalIn 10000 t (.agg ⟨enc x⟩) (.agg ⟨enc y⟩)).run P w = .ok (decide (x = y)) w
  held : P.eqGuardType P.depth t = false
variable {enc : X → List Value}
theorem Flat.e_eq (F : Flat P t enc) {n : Nat} {f : Nat → Value} {w : World} {dst : Option Tmp} {ty : TypeId} {pos : String} {aft : Array Edge} {gd : Option (Nat × Bool)} {x y : Operand} {T : TypeId} (a b : X) (hx : ev n f x = .agg ⟨enc a⟩) (hy : ev n f y = .agg ⟨enc b⟩) :
    (execOp (ev n f) ⟨dst, .binOp .eql t x y T, ty, pos, aft, gd⟩).run P w = .ok (.value (.bool (decide (a = b)))) w := by
  have h : (Op.equalIn 10000 t (.agg ⟨enc a⟩) (.agg ⟨enc b⟩)).run P w = .ok (decide (a = b)) w := F.eq w a b
  simp only [execOp, hx, hy]
  simp only [Sem.run_bind, run_eqGuard_agg w _ _ _ _ _ _ F.held, Result.andThen_ok, run_eql_struct, h, Sem.run_pure]
theorem Flat.e_ne (F : Flat P t enc) {n : Nat} {f : Nat → Value} {w : World} {dst : Option Tmp} {ty : TypeId} {pos : String} {aft : Array Edge} {gd : Option (Nat × Bool)} {x y : Operand} {T : TypeId} (a b : X) (hx : ev n f x = .agg ⟨enc a⟩) (hy : ev n f y = .agg ⟨enc b⟩) :
    (execOp (ev n f) ⟨dst, .binOp .neq t x y T, ty, pos, aft, gd⟩).run P w = .ok (.value (.bool (!decide (a = b)))) w := by
  have h : (Op.equalIn 10000 t (.agg ⟨enc a⟩) (.agg ⟨enc b⟩)).run P w = .ok (decide (a = b)) w := F.eq w a b
  simp only [execOp, hx, hy]
  simp only [Sem.run_bind, run_eqGuard_agg w _ _ _ _ _ _ F.held, Result.andThen_ok, run_neq_struct, h, Sem.run_pure]
theorem Flat.keyTy (F : Flat P t enc) (hw : (match P.underlying t with | some (.array _ _) | some (.struct _) => true | _ => false) = true) (hc : ∀ (w : World) (em : Bool) (a : X), (Instr.checkKey em 10000 t (.agg ⟨enc a⟩)).run P w = .ok () w) (hs : ∀ a : X, Instr.sameBits 10000 (.agg ⟨enc a⟩) (.agg ⟨enc a⟩) = true) : KeyTy P t (fun a => .agg ⟨enc a⟩) :=
  KeyTy.deep hw hc (fun w a b => F.eq w a b) hs
end
/-- '==' on arrays, item by item -/
def ItemsEq (P : Program) (w : World) (d : Nat) (e : TypeId) (k : Nat) (X Y : Array Value) : List Nat → List Bool → Prop
  | [], [] => True
  | j :: js, r :: rs => (∃ a b, (part e X (j * k)).run P w = .ok a w ∧ (part e Y (j * k)).run P w = .ok b w ∧ (Op.equalIn d e a b).run P w = .ok r w) ∧ ItemsEq P w d e k X Y js rs
  | _, _ => False
theorem eqItems_all {P : Program} {w : World} {d : Nat} {e : TypeId} {k : Nat} {X Y : Array Value} : ∀ (js : List Nat) (rs : List Bool), ItemsEq P w d e k X Y js rs → (Op.eqItems d e k X Y js).run P w = .ok (rs.all id) w
  | [], [], _ => by simp [Op.eqItems]
  | j :: js, r :: rs, h => by
    obtain ⟨⟨a, b, ha, hb, hr⟩, h2⟩ := h
    have ih := eqItems_all js rs h2
    simp only [Op.eqItems, Sem.run_bind, ha, hb, hr, Result.andThen_ok]
    cases r
    · simp
    · simp [ih]
  | [], _ :: _, h => h.elim
  | _ :: _, [], h => h.elim
theorem array_equalIn {P : Program} {w : World} {t e : TypeId} {n : Nat} {i : TypeInfo} {X Y : Array Value} (hu : P.underlying t = some (.array n e)) (hi : P.info? e = some i) {r : Bool} (h : (Op.eqItems 9999 e (P.cellsOf e) X Y (List.range n)).run P w = .ok r w) :
    (Op.equalIn 10000 t (.agg X) (.agg Y)).run P w = .ok r w := (run_equalIn_array (w := w) 9999 X Y hu hi).trans h
end Go.Proofs.Ytbpeofcoceaahaa
