/- WHAT IS PROVED: contracts and plain laws of MapNil. Conditions: stated with each. -/
import Derived.Test.YtenihpghfdcpkaaGreatPA16
set_option maxHeartbeats 4000000
set_option maxRecDepth 100000
namespace Go.Proofs.YtenihpghfdcpkaaGreat
open Go.RowKit
def MapLike {κ ν : Type} (w : World) (mv : Value) (encK : κ → Value) (encV : ν → Value) (l : List (κ × ν)) : Prop := (∃ b, mv = .map (some b) ∧ MapAt w b encK encV l) ∨ (mv = .map none ∧ l = [])
theorem MapLike.now {κ ν : Type} {encK : κ → Value} {encV : ν → Value} {w w' : World} {mv : Value} {l : List (κ × ν)} {G : List Ck} (h : MapLike w mv encK encV l) (H : Sat w G w') (j : Nat) (hj : G[j]? = some (Z3 w fun _ => False)) : MapLike w' mv encK encV l := by
 rcases h with ⟨b, e, hm⟩ | h
 ·exact .inl ⟨b, e, H.roMap j hj hm (fun h => h)⟩
 ·exact .inr h
section
variable {κ ν : Type} [DecidableEq κ] {encK : κ → Value} {encV : ν → Value} {P : Program} {k kt et T : TypeId} {w w' : World} {mv : Value} {l : List (κ × ν)} {n : Nat} {f : Nat → Value} {dst : Option Tmp} {ty : TypeId} {pos : String} {aft : Array Edge} {gd : Option (Nat × Bool)} {G : List Ck}
theorem Zb5 (K : KeyTy P k encK) {t e : TypeId} (ht : P.underlying t = some (.map k e)) {z : Value} (hz : ∀ w, (zeroValue e).run P w = .ok z w) (a : κ) (w : World) : (Instr.lookup t (.map none) (encK a) false).run P w = .ok z w := by
 have hf := K.find w a [] [] rfl
 simp [Instr.lookup, run_underlying ht, Result.andThen, K.check, hf, hz]
theorem ZaD {x y : Operand} {z : Value} (K : KeyTy P kt encK) (hT : P.underlying T = some (.map kt et)) (hz : ∀ w, (zeroValue et).run P w = .ok z w) (hx : ev n f x = mv) (a : κ) (hy : ev n f y = encK a) (h : MapLike w mv encK encV l) {v : Value} (hv : ((Zp l a).map encV).getD z = v) :
  (execOp (ev n f) ⟨dst, .lookup T x y false, ty, pos, aft, gd⟩).run P w = .ok (.value v) w := by
 rcases h with ⟨b, e, hm⟩ | ⟨e, el⟩
 ·exact Z35 K hT hz (hx.trans e) a hy hm hv
 ·have := Zb5 K hT hz a w
  subst el
  have hv' : z = v := by simpa [Zp] using hv
  simp only [execOp, hx, hy, e]
  simp [this, Result.andThen, hv']
end
end Go.Proofs.YtenihpghfdcpkaaGreat
