/- WHAT IS PROVED: contracts and plain laws of FullAp. Conditions: stated with each. -/
import Derived.ArgAppend
import Derived.Sort.Walk0
import Derived.Test.YtenihpghfdcpkaaGreatPA06
set_option maxHeartbeats 4000000
set_option maxRecDepth 100000
namespace Go.Proofs.YtenihpghfdcpkaaGreat
open Go.RowKit
section
variable {α : Type} {enc : α → List Value} {sz : Nat} {w : World} {xs : List α}
theorem Zfu {w : World} {e size n base : Nat} {v : Value} {xs : List Value} (h : w.ownsRow base e size v n xs) : (Zc e size v n xs).ok w ∧ ∀ b, v.ownBlock = some b → base ≤ b := by
 refine ⟨⟨h.1, ?_⟩, fun b hb => ?_⟩
 ·rcases h.2 with hn | ⟨g, cap, cur, hv, hb, rest⟩
  ·exact .inl hn
  ·exact .inr ⟨g, cap, cur, hv, Nat.zero_le _, rest⟩
 ·rcases h.2 with ⟨rfl, _⟩ | ⟨g, cap, cur, rfl, hg, _⟩
  ·simp [Value.ownBlock] at hb
  ·simp [Value.ownBlock] at hb; omega
theorem ListAt.take3 {a : Option Addr} {n c k : Nat} (h : ListAt enc sz w (.slice a n c) xs) (hk : k ≤ n) (_h0 : 0 < sz) (_hs : ∀ x, (enc x).length = sz) : ListAt enc sz w (.slice a k k) (xs.take k) := by
 have hc := ListAt.cap h
 rcases h with ⟨a', c', e, rfl, hc, ha⟩ | ⟨hp, b, o, c', e, ⟨h1, h2⟩, h⟩
 ·simp only [Value.slice.injEq] at e
  obtain ⟨rfl, rfl, rfl⟩ := e
  obtain rfl : k = 0 := by omega
  exact .inl ⟨_, _, rfl, by simp, by omega, fun _ => rfl⟩
 ·simp only [Value.slice.injEq] at e
  obtain ⟨rfl, rfl, rfl⟩ := e
  have hl : (xs.take k).length = k := by rw [List.length_take]; omega
  by_cases hz : k = 0
  ·subst hz; exact .inl ⟨_, _, rfl, by simp, by omega, fun _ => rfl⟩
  ·refine .inr ⟨by omega, b, o, _, by rw [hl], ⟨by omega, by omega⟩, fun i hi => ?_⟩
   rw [List.getElem_take]
   exact h i (by rw [hl] at hi; omega)
end
section
variable {P : Program} {n : Nat} {f : Nat → Value} {w w' : World} {dst : Option Tmp} {ty : TypeId} {pos : String} {aft : Array Edge} {gd : Option (Nat × Bool)} {w0 : World} {G : List Ck} {K : Act → World → Prop} {Q : Exit → Act → World → Prop}
theorem Ze8 {T E : TypeId} {x y z : Operand} {a : Option Addr} {len cap : Nat} {k k' : IntKind} {i j : Int} {q : Nat} (hT : P.underlying T = some (.slice E)) (hE : (P.info? E).isSome = true) (hx : ev n f x = .slice a len cap) (hy : ev n f y = .int k i) (hz : ev n f z = .int k' j) (h1 : i = (q : Int)) (h2 : j = (q : Int)) (h3 : q ≤ cap) :
  (execOp (ev n f) ⟨dst, .slice T x none (some y) (some z), ty, pos, aft, gd⟩).run P w = .ok (.value (.slice a q q)) w := by
 obtain ⟨inf, hi⟩ := Option.isSome_iff_exists.1 hE
 subst h1 h2
 have e0 : a.map (·.add (0 * inf.size)) = a := by cases a <;> simp [Addr.add]
 have : (Instr.slice T (.slice a len cap) none (some (.int k (q : Int))) (some (.int k' (q : Int)))).run P w = .ok (.slice a q q) w := by
  simp [Instr.slice, run_underlying hT, Instr.sliceBounds, Instr.sliceBound, asIntOf, h3, Result.andThen, sizeOf, typeInfo, hi]
  intro _
  cases a <;> simp [Addr.add]
 simp only [execOp, Instr.sliceAt, Option.map, hx, hy, hz]
 simp [run_underlying hT, this, Result.andThen]
theorem Z9D {α : Type} {enc : α → List Value} {T e : TypeId} {size bytes : Nat} (hR : Z62 P T e size bytes = true) (hs : ∀ x, (enc x).length = size) (h1 : ∀ x, (enc x).all (·.oneCell') = true) {a : Option Addr} {u : Value} {k : Nat} {xs ys : List α} (hv : ListAt enc size w (.slice a k k) xs) (hk : xs.length = k) (hu : ListAt enc size w u ys) (hp : 0 < ys.length) (hb : (k + ys.length) * bytes ≤ 140737488355328) (h63 : k + ys.length ≤ 140737488355328) :
  ∃ v' w', (Builtin.append_ #[T, T] ty #[.slice a k k, u]).run P w = .ok v' w' ∧ (Zc e size v' (k + ys.length) ((xs ++ ys).flatMap enc)).ok w' ∧ w.grownBy w' none ∧ ∀ b, v'.ownBlock = some b → w.heap.size ≤ b := by
 obtain ⟨i, z, ht, hi, hz, hsz, hby, hzs, h0⟩ := Z3C hR
 obtain ⟨b2, o2, c2, rfl, hc2⟩ := hu.cells hs h0 hp
 have grow := fun (ad : Addr) (olds : List Value) (hlo : olds.length = k * size) (holds : ∀ j u, olds[j]? = some u → w.cell? (ad.add j) = some u) =>
  run_append_arg_grows (P := P) w T ty e i z size bytes ht hi hz hsz hby hzs h0 ad k k olds hlo holds ⟨b2, o2, none⟩ ys.length c2 (ys.flatMap enc) (Z0A enc size hs ys) hc2 (by omega) (by unfold maxLen; omega) hb
 have fin : ∀ (ad : Addr), a = some ad → (∀ j u, (xs.flatMap enc)[j]? = some u → w.cell? (ad.add j) = some u) → _ := fun ad ha holds => grow ad (xs.flatMap enc) (by rw [Z0A enc size hs, hk]) holds
 have done : ∀ v' w', w'.ownsRow w.heap.size e size v' (k + ys.length) (xs.flatMap enc ++ ys.flatMap enc) → (Zc e size v' (k + ys.length) ((xs ++ ys).flatMap enc)).ok w' ∧ ∀ b, v'.ownBlock = some b → w.heap.size ≤ b := fun v' w' h => by
  rw [← List.flatMap_append] at h
  exact Zfu h
 cases a with
 | some ad =>
  by_cases hz0 : 0 < xs.length
  ·obtain ⟨b, o, c, he, hc⟩ := hv.cells hs h0 hz0
   simp only [Value.slice.injEq, Option.some.injEq] at he
   obtain ⟨rfl, _, _⟩ := he
   obtain ⟨v', w', hr, ho, hg⟩ := fin _ rfl hc
   exact ⟨v', w', hr, (done v' w' ho).1, hg, (done v' w' ho).2⟩
  ·obtain rfl : xs = [] := List.eq_nil_of_length_eq_zero (by omega)
   obtain ⟨v', w', hr, ho, hg⟩ := fin _ rfl (by simp)
   exact ⟨v', w', hr, (done v' w' ho).1, hg, (done v' w' ho).2⟩
 | none =>
  obtain rfl : xs = [] := by
   rcases hv with ⟨_, _, _, h, _⟩ | ⟨_, _, _, _, e, _⟩
   ·exact h
   ·simp at e
  have hk0 : k = 0 := by simpa using hk.symm
  subst hk0
  obtain ⟨v', w', hr, ho, hg, hn⟩ := Z5e (ty := ty) hR hs h1 (World.ownsRow_nil w 0 e size) (u := .slice (some ⟨b2, o2, none⟩) ys.length c2) hu (by simpa using hb) (by simpa using h63)
  simp only [Nat.zero_add, List.nil_append] at ho ⊢
  exact ⟨v', w', hr, ho, hg, fun b hb => (hn b hb).resolve_left (by simp [Value.ownBlock])⟩
theorem Z8A {α : Type} {enc : α → List Value} {T e : TypeId} {size bytes : Nat} {x y : Operand} {d : Nat} (hd : dst = some d) (H : Sat w0 G w) (hR : Z62 P T e size bytes = true) (hs : ∀ x, (enc x).length = size) (h1 : ∀ x, (enc x).all (·.oneCell') = true) {a : Option Addr} {u : Value} {k : Nat} {xs ys : List α} (hv : ListAt enc size w (.slice a k k) xs) (hk : xs.length = k) (hu : ListAt enc size w u ys) (hp : 0 < ys.length)
  (hx : ev n f x = .slice a k k) (hy : ev n f y = u) (hb : (k + ys.length) * bytes ≤ 140737488355328) (h63 : k + ys.length ≤ 140737488355328)
  (kk : ∀ v' w', Sat w0 (G ++ [Zc e size v' (xs ++ ys).length ((xs ++ ys).flatMap enc)]) w' → K (fr n (upd f d v')) w') : WO P ⟨dst, .call { callee := .builtin .append, args := #[x, y], argTypes := #[T, T] }, ty, pos, aft, gd⟩ K Q n f w := by
 obtain ⟨v', w', hr, ho, hg, hn⟩ := Z9D (ty := ty) hR hs h1 hv hk hu hp hb h63
 rw [show k + ys.length = (xs ++ ys).length by rw [List.length_append, hk]] at ho
 exact Z4D hd (Z5G hx hy hr) (kk v' w' (H.add (Z4t hg) (fun b hb => hg.block b hb (by simp)) ho hn))
end
end Go.Proofs.YtenihpghfdcpkaaGreat
