/- WHAT IS PROVED: several pieces as one; where ways through a region meet; lengths, quotients and remainders. Conditions: stated with each. -/
import Derived.Test.YtenihpghfdcpkaaSat
import Derived.Test.YtenihpghfdcpkaaIter
import Derived.Test.YtenihpghfdcpkaaEntry
namespace Go.Proofs.Ytenihpghfdcpkaa
open Go.RowKit
/-- pieces that share no block, as one piece -/
def sepC (L : List Ck) : Ck where
  fp b := ∃ A ∈ L, A.fp b
  ok w := (∀ A ∈ L, A.ok w) ∧ L.Pairwise (fun (A B : Ck) => ∀ b : Nat, A.fp b → ¬ B.fp b)
  stay h hb := ⟨fun A hA => A.stay (h.1 A hA) fun b hfp => hb b ⟨A, hA, hfp⟩, h.2⟩
  lt h b hb := by obtain ⟨A, hA, hfp⟩ := hb; exact A.lt (h.1 A hA) b hfp
section
variable {w0 w w' : World} {G L : List Ck} {A : Ck}
/-- a function's beginning: its own pieces, and the rest -/
theorem Sat.start (L : List Ck) (h : (sepC L).ok w) : Sat w (L ++ [restC w (sepC L).fp]) w := by
  refine ⟨Ext.refl w, ?_, ?_⟩
  · intro B hB
    rcases List.mem_append.1 hB with hB | hB
    · exact h.1 B hB
    · obtain rfl := List.mem_singleton.1 hB; exact fun b _ _ => rfl
  · refine List.pairwise_append.2 ⟨h.2, by simp, ?_⟩
    intro B hB C hC b h1 h2
    obtain rfl := List.mem_singleton.1 hC
    exact h2.2 ⟨B, hB, h1⟩
/-- its end -/
theorem Sat.fin (H : Sat w0 G w) (is : List Nat) (hn : is.Pairwise (fun a b => Nat.beq a b = false)) (hL : (is.filterMap fun i => G[i]?) = L) : (sepC L).ok w := by
  have h := H.pick is hn
  rw [hL] at h
  exact ⟨h.all, h.dis⟩
theorem Sat.updS {D : Nat → Prop} (h : Sat w0 G w) (i : Nat) (hi : G[i]? = some (restC w0 D)) (E : List Nat) (hD : ∀ b, D b → b ∈ E) : Upd E w0 w := h.upd i hi E hD
/-- what is not among the old blocks is new -/
theorem Sat.fresh {W : World} {D : Nat → Prop} (H : Sat w0 G w) (i : Nat) (hi : G[i]? = some (restC W D)) (hD : ∀ b, ¬ D b) (j : Nat) (hj : G[j]? = some A) (hne : Nat.beq j i = false) : ∀ b, A.fp b → W.heap.size ≤ b := fun b hb => by
  have := H.apart j i hj hi hne b hb
  rcases Nat.lt_or_ge b W.heap.size with h | h
  · exact absurd ⟨h, hD b⟩ this
  · exact h
theorem Sat.freshS {W : World} {D : Nat → Prop} (H : Sat w0 G w) (i : Nat) (hi : G[i]? = some (restC W D)) (hD : ∀ b, ¬ D b) (js : List Nat) (hj : (js.filterMap fun j => G[j]?) = L) (hne : js.all (fun j => !Nat.beq j i) = true) : ∀ b, (sepC L).fp b → W.heap.size ≤ b := fun b hb => by
  obtain ⟨A, hA, hfp⟩ := hb
  rw [← hj] at hA
  obtain ⟨j, hjm, hjA⟩ := List.mem_filterMap.1 hA
  have := List.all_eq_true.1 hne j hjm
  exact H.fresh i hi hD j hjA (by simpa using this) b hfp
/-- one piece that is several, laid open -/
theorem Sat.open (H : Sat w0 G w) (i : Nat) (hi : G[i]? = some (sepC L)) : Sat w0 (G.take i ++ L ++ G.drop (i + 1)) w := by
  have hok := H.at i hi
  have hd := List.pairwise_iff_getElem.1 H.dis
  obtain ⟨hil, hie⟩ := List.getElem?_eq_some_iff.1 hi
  have hG : G = G.take i ++ sepC L :: G.drop (i + 1) := by
    have := List.take_append_drop i G
    rw [List.drop_eq_getElem_cons hil, hie] at this
    exact this.symm
  have hdis := H.dis
  rw [hG] at hdis
  obtain ⟨p1, p2, p3⟩ := List.pairwise_append.1 hdis
  rw [List.pairwise_cons] at p2
  refine ⟨H.ext, ?_, ?_⟩
  · intro B hB
    rw [List.append_assoc] at hB
    rcases List.mem_append.1 hB with hB | hB
    · exact H.all B (List.mem_of_mem_take hB)
    · rcases List.mem_append.1 hB with hB | hB
      · exact hok.1 B hB
      · exact H.all B (List.mem_of_mem_drop hB)
  · rw [List.append_assoc]
    refine List.pairwise_append.2 ⟨p1, List.pairwise_append.2 ⟨hok.2, p2.2, ?_⟩, ?_⟩
    · intro B hB C hC b h1 h2
      exact p2.1 C hC b ⟨B, hB, h1⟩ h2
    · intro B hB C hC b h1 h2
      rcases List.mem_append.1 hC with hC | hC
      · exact p3 B hB (sepC L) (by simp) b h1 ⟨C, hC, h2⟩
      · exact p3 B hB C (by simp [hC]) b h1 h2
end
section
variable {P : Program} {Q : Exit → Act → World → Prop} {n : Nat} {f : Nat → Value} {w w' : World}
/-- ways through a region, which writes the slots of ws alone, meet at its end -/
def Meet (n : Nat) (ws : List Nat) (F : Nat → Value) (M : (Nat → Value) → World → Prop) (Q : Exit → Act → World → Prop) : Exit → Act → World → Prop := Exit.then (fun a w => ∃ g, a = fr n (ovr ws g F) ∧ M (ovr ws g F) w) Q
theorem wp_meetR {x y : Code} (ws : List Nat) (M : (Nat → Value) → World → Prop) (h1 : WC P x (Meet n ws f M Q) n f w) (h2 : ∀ g w, M (ovr ws g f) w → WC P y Q n (ovr ws g f) w) : WC P (Code.seq x y) Q n f w :=
  ⟨wp_seq (Code.wp_mono (fun e a w q => by
    cases e with
    | normal => obtain ⟨g, rfl, hm⟩ := q; exact (h2 g w hm).h
    | _ => exact q) h1.h)⟩
theorem meetR_at {ws : List Nat} {F : Nat → Value} {M : (Nat → Value) → World → Prop} (hs : Same ws f F) (h : M f w) : Meet n ws F M Q .normal (fr n f) w := ⟨f, by rw [ovr_same hs], by rwa [ovr_same hs]⟩
theorem meet_exit {ws : List Nat} {F : Nat → Value} {M : (Nat → Value) → World → Prop} {a : Act} {id : Nat} (h : Q (.exit id) a w) : Meet n ws F M Q (.exit id) a w := h
theorem meet_ret {ws : List Nat} {F : Nat → Value} {M : (Nat → Value) → World → Prop} {a : Act} (h : Q .ret a w) : Meet n ws F M Q .ret a w := h
end
section
variable {P : Program} {n : Nat} {f : Nat → Value} {w w' : World} {dst : Option Tmp} {ty : TypeId} {pos : String} {aft : Array Edge} {gd : Option (Nat × Bool)}
theorem e_len {κ ν : Type} {encK : κ → Value} {encV : ν → Value} {l : List (κ × ν)} {b : Nat} {T kt et : TypeId} {x : Operand} (hT : P.underlying T = some (.map kt et)) (h : MapAt w b encK encV l) (hx : ev n f x = .map (some b)) :
    (execOp (ev n f) ⟨dst, .call { callee := .builtin .len, args := #[x], argTypes := #[T] }, ty, pos, aft, gd⟩).run P w = .ok (.value (.int .i64 (l.length : Int))) w := by
  have := h.len (P := P) hT ty
  simp [execOp, resolve, invoke, builtin, hx, this, Result.andThen]
theorem e_rem {o : Oper} {k : IntKind} {a b : Int} (hr : (execOp (ev n f) o).run P w = (Op.intDiv .rem k a b >>= fun v => pure (Next.value v)).run P w) (h1 : 0 ≤ a) (h2 : 0 < b) : (execOp (ev n f) o).run P w = .ok (.value (.int k (a % b))) w := by
  rw [hr]
  have : ¬ b = 0 := by omega
  simp [Op.intDiv, this, Int.tmod_eq_emod_of_nonneg h1]
theorem e_tmod {o : Oper} {k : IntKind} {a b : Int} (hr : (execOp (ev n f) o).run P w = (Op.intDiv .rem k a b >>= fun v => pure (Next.value v)).run P w) (h : b ≠ 0) : (execOp (ev n f) o).run P w = .ok (.value (.int k (a.tmod b))) w := by
  rw [hr]
  simp [Op.intDiv, h]
theorem e_quo {o : Oper} {k : IntKind} {a b : Int} (hr : (execOp (ev n f) o).run P w = (Op.intDiv .quo k a b >>= fun v => pure (Next.value v)).run P w) (h1 : 0 ≤ a) (h2 : 0 < b) (hw : k.wrap (a / b) = a / b) : (execOp (ev n f) o).run P w = .ok (.value (.int k (a / b))) w := by
  rw [hr]
  have : ¬ b = 0 := by omega
  simp [Op.intDiv, this, Int.tdiv_eq_ediv_of_nonneg h1, hw]
end
theorem tmod_lim (v n : Int) (h : 1 ≤ n) : -n < v.tmod n ∧ v.tmod n < n := by
  have h1 : v.tmod n < n := Int.tmod_lt_of_pos v (by omega)
  have h2 : (-v).tmod n < n := Int.tmod_lt_of_pos (-v) (by omega)
  rw [Int.neg_tmod] at h2
  omega
theorem tmod_emod (v n : Int) (h : 1 ≤ n) : v % n = (if v.tmod n < 0 then v.tmod n + n else v.tmod n) := by
  have h1 := tmod_lim v n h
  have h2 : v % n = (v.tmod n) % n := by
    have h3 := Int.mul_tdiv_add_tmod v n
    have h4 : (n * v.tdiv n + v.tmod n) % n = (v.tmod n) % n := by rw [Int.add_comm]; exact Int.add_mul_emod_self_left _ _ _
    rwa [h3] at h4
  rw [h2]
  split
  · rw [← Int.add_emod_right]
    exact Int.emod_eq_of_lt (by omega) (by omega)
  · exact Int.emod_eq_of_lt (by omega) (by omega)
end Go.Proofs.Ytenihpghfdcpkaa
