/- WHAT IS PROVED: contracts and plain laws of ListAt, BytesD, Bits, VarB, Reg, Frame, FrameHash, TxtD, EntD. Conditions: stated with each. -/
import Derived.Lib.BitFns
import Derived.Lib.ItoaNum
import Derived.ProofKit
import Derived.OpenShut
import Derived.JoinedCond
import Derived.Deep.Slices
import Derived.Laws.IdiomStrings
import Derived.Test.YtgigjkjdmalmaaaGreatPY00
import Derived.Test.YtgigjkjdmalmaaaGreatPY02
import Derived.Test.YtgigjkjdmalmaaaGreatPY03
import Derived.Test.YtgigjkjdmalmaaaGreatPY04
import Derived.Test.YtgigjkjdmalmaaaGreatPY05
set_option maxHeartbeats 4000000
set_option maxRecDepth 100000
namespace Go.Proofs.YtgigjkjdmalmaaaGreat
open Go.RowKit
def ListAt {α : Type} (enc : α → List Value) (sz : Nat) (w : World) (v : Value) (xs : List α) : Prop := SliceOf (fun w a x => Z1v w a (enc x)) sz w v xs
section
variable {α : Type} {enc : α → List Value} {sz : Nat} {w w' W : World} {v : Value} {xs : List α}
theorem Z5i {a : Addr} {vs : List Value} (h : Z1v w a vs) (hc : ∀ p x, w.cell? p = some x → w'.cell? p = some x) : Z1v w' a vs := fun j u hj => hc _ _ (h j u hj)
theorem ListAt.mono (h : ListAt enc sz w v xs) (hc : ∀ p x, w.cell? p = some x → w'.cell? p = some x) : ListAt enc sz w' v xs := SliceOf.mono h fun _ _ hx => Z5i hx hc
theorem ListAt.now {G : List Ck} {w0 : World} (H : Sat w0 G w) (j : Nat) (hj : G[j]? = Option.some (Z7 W fun _ => False)) (hv : ListAt enc sz W v xs) : ListAt enc sz w v xs :=
 SliceOf.mono hv fun _ _ hx => Z5i hx fun _ _ h => H.cellR j hj h (fun h => h)
theorem ListAt.nil : ListAt enc sz w (.slice none 0 0) ([] : List α) := SliceOf.nil
theorem ListAt.row {e n : Nat} (hs : ∀ x, (enc x).length = sz) (h0 : 0 < sz) (h : (Zc e sz v n (xs.flatMap enc)).ok w) : ListAt enc sz w v xs := by
 have hl : xs.length = n := by
  have := h.1
  rw [Z1p enc sz hs] at this
  exact Nat.eq_of_mul_eq_mul_right h0 this
 subst hl
 rcases h.2 with ⟨rfl, hn⟩ | ⟨g, cap, cur, rfl, hb, hgg, hc, hm, hcs, htake⟩
 ·obtain rfl := List.eq_nil_of_length_eq_zero hn
  exact SliceOf.nil
 ·by_cases hz : xs.length = 0
  ·obtain rfl := List.eq_nil_of_length_eq_zero hz
   exact .inl ⟨_, cap, rfl, rfl, hm, by simp⟩
  ·refine .inr ⟨by omega, g, 0, cap, rfl, ⟨hc, hm⟩, fun i hi j u hj => ?_⟩
   have hjl : j < sz := by rw [← hs xs[i]]; exact (List.getElem?_eq_some_iff.1 hj).1
   rw [Addr.add_lit]
   refine Z68 (k := xs.length) (c := cap) h rfl ?_
   rw [Nat.zero_add, Z2D enc sz hs xs i j xs[i] (List.getElem?_eq_getElem hi) hjl]
   exact hj
theorem ListAt.take {a : Option Addr} {n c k : Nat} (h : ListAt enc sz w (.slice a n c) xs) (hk : k ≤ n) : ListAt enc sz w (.slice a k c) (xs.take k) := by
 rcases h with ⟨a', c', e, rfl, hc, ha⟩ | ⟨h0, b, o, c', e, ⟨h1, h2⟩, h⟩
 ·simp only [Value.slice.injEq] at e
  obtain ⟨rfl, rfl, rfl⟩ := e
  obtain rfl : k = 0 := by omega
  exact .inl ⟨_, _, rfl, by simp, hc, ha⟩
 ·simp only [Value.slice.injEq] at e
  obtain ⟨rfl, rfl, rfl⟩ := e
  have hl : (xs.take k).length = k := by rw [List.length_take]; omega
  by_cases hz : k = 0
  ·subst hz; exact .inl ⟨_, _, rfl, by simp, h2, by simp⟩
  ·refine .inr ⟨by omega, b, o, _, by rw [hl], ⟨by omega, h2⟩, fun i hi => ?_⟩
   rw [List.getElem_take]
   exact h i (by rw [hl] at hi; omega)
theorem ListAt.drop {b o n c k : Nat} (h : ListAt enc sz w (.slice (some ⟨b, o, none⟩) n c) xs) (hk : k ≤ n) : ListAt enc sz w (.slice (some (if c = k then ⟨b, o, none⟩ else ⟨b, o + k * sz, none⟩)) (n - k) (c - k)) (xs.drop k) := by
 rcases h with ⟨a', c', e, rfl, hc, ha⟩ | ⟨h0, b', o', c', e, ⟨h1, h2⟩, h⟩
 ·simp only [Value.slice.injEq] at e
  obtain ⟨rfl, rfl, rfl⟩ := e
  obtain rfl : k = 0 := by omega
  exact .inl ⟨_, _, rfl, by simp, by omega, by simp⟩
 ·simp only [Value.slice.injEq, Option.some.injEq, Addr.mk.injEq] at e
  obtain ⟨⟨rfl, rfl, _⟩, rfl, rfl⟩ := e
  have hl : (xs.drop k).length = xs.length - k := List.length_drop
  by_cases hz : k = xs.length
  ·subst hz; exact .inl ⟨_, c - xs.length, by rw [Nat.sub_self], by simp, by omega, fun h => by cases h⟩
  ·refine .inr ⟨by omega, b, o + k * sz, c - k, by rw [hl, if_neg (by omega)], ⟨by rw [hl]; omega, by omega⟩, fun i hi => ?_⟩
   rw [List.getElem_drop]
   have := h (k + i) (by rw [hl] at hi; omega)
   rwa [show o + k * sz + i * sz = o + (k + i) * sz by rw [Nat.add_mul]; omega]
theorem ListAt.cap {a : Option Addr} {n c : Nat} (h : ListAt enc sz w (.slice a n c) xs) : n ≤ c := by
 rcases h with ⟨a', c', e, rfl, hc, ha⟩ | ⟨h0, b, o, c', e, ⟨h1, h2⟩, h⟩
 ·simp only [Value.slice.injEq] at e
  obtain ⟨rfl, rfl, rfl⟩ := e
  omega
 ·simp only [Value.slice.injEq] at e
  obtain ⟨rfl, rfl, rfl⟩ := e
  exact h1
theorem ListAt.len (h : ListAt enc sz w v xs) : ∃ a c, v = .slice a xs.length c := SliceOf.len h
theorem ListAt.cells (hs : ∀ x, (enc x).length = sz) (h0 : 0 < sz) (h : ListAt enc sz w v xs) (hp : 0 < xs.length) : ∃ b o c, v = .slice (some ⟨b, o, none⟩) xs.length c ∧ ∀ j u, (xs.flatMap enc)[j]? = some u → w.cell? ((⟨b, o, none⟩ : Addr).add j) = some u := by
 obtain ⟨b, o, c, e, _, h⟩ := SliceOf.some h hp
 refine ⟨b, o, c, e, fun j u hj => ?_⟩
 have hjl : j < xs.length * sz := by rw [← Z1p enc sz hs]; exact (List.getElem?_eq_some_iff.1 hj).1
 have hi : j / sz < xs.length := Nat.div_lt_of_lt_mul (by rwa [Nat.mul_comm])
 have hd : j = j / sz * sz + j % sz := by have := Nat.div_add_mod j sz; rw [Nat.mul_comm] at this; omega
 have := Z2D enc sz hs xs (j / sz) (j % sz) xs[j / sz] (List.getElem?_eq_getElem hi) (Nat.mod_lt _ h0)
 rw [← hd, hj] at this
 have hc := h (j / sz) hi (j % sz) u this.symm
 rw [Addr.add_lit] at hc ⊢
 rwa [hd, ← Nat.add_assoc]
end
section
variable {P : Program} {n : Nat} {f : Nat → Value} {w w' : World} {dst : Option Tmp} {ty : TypeId} {pos : String} {aft : Array Edge} {gd : Option (Nat × Bool)} {w0 : World} {G : List Ck} {K : Act → World → Prop} {Q : Exit → Act → World → Prop}
variable {α : Type} {enc : α → List Value}
theorem Z46 {T e : TypeId} {size bytes : Nat} (hR : Z4P P T e size bytes = true) (hs : ∀ x, (enc x).length = size) (h1 : ∀ x, (enc x).all (·.oneCell') = true) {v u : Value} {k : Nat} {xs : List Value} {ys : List α} (hv : w.ownsRow 0 e size v k xs) (hu : ListAt enc size w u ys) (hb : (k + ys.length) * bytes ≤ 140737488355328) (h63 : k + ys.length ≤ 140737488355328) :
  ∃ v' w', (Builtin.append_ #[T, T] ty #[v, u]).run P w = .ok v' w' ∧ w'.ownsRow 0 e size v' (k + ys.length) (xs ++ ys.flatMap enc) ∧ w.grownBy w' v.ownBlock ∧ ∀ b, v'.ownBlock = some b → v.ownBlock = some b ∨ w.heap.size ≤ b := by
 obtain ⟨i, z, ht, hi, hz, hsz, hby, hzs, h0⟩ := Z43 hR
 have own := fun (a : Addr) (m c : Nat) (news : List Value) => Z4S (P := P) (ty := ty) w 0 T e i z size bytes ht hi hz hsz hby hzs h0 v k xs hv a m c news
 by_cases hp : 0 < ys.length
 ·obtain ⟨b, o, c, rfl, hc⟩ := hu.cells hs h0 hp
  exact own ⟨b, o, none⟩ ys.length c (ys.flatMap enc) (Z1p enc size hs ys) hc (fun x hx => List.all_eq_true.1 (Z0e enc h1 ys) x hx) (by unfold maxLen; omega) hb (Nat.zero_le _)
 ·obtain rfl : ys = [] := List.eq_nil_of_length_eq_zero (by omega)
  rcases hu with ⟨a, c, rfl, _, hc, ha⟩ | ⟨h, _⟩
  ·cases a with
   | none =>
    obtain rfl := ha rfl
    exact ⟨v, w, Z47 w T ty e i ht hi hv, by simpa using hv, ⟨rfl, rfl, rfl, Nat.le_refl _, fun _ _ _ => rfl⟩, fun b h => .inl h⟩
   | some ad =>
    have := own ad 0 c [] (by simp) (by simp) (by simp) (by simp at h63; unfold maxLen; omega) (by simpa using hb) (Nat.zero_le _)
    simpa using this
  ·simp at h
theorem Z6B {T e : TypeId} {size bytes : Nat} {x y : Operand} {d : Nat} (hd : dst = some d) (H : Sat w0 G w) (hR : Z4P P T e size bytes = true) (hs : ∀ x, (enc x).length = size) (h1 : ∀ x, (enc x).all (·.oneCell') = true) (i : Nat) {v u : Value} {k : Nat} {xs : List Value} {ys : List α} (hi : G[i]? = some (Zc e size v k xs)) (hu : ListAt enc size w u ys)
  (hx : ev n f x = v) (hy : ev n f y = u) (hb : (k + ys.length) * bytes ≤ 140737488355328) (h63 : k + ys.length ≤ 140737488355328)
  (kk : ∀ v' w', Sat w0 (G.set i (Zc e size v' (k + ys.length) (xs ++ ys.flatMap enc))) w' → K (fr n (upd f d v')) w') : WO P ⟨dst, .call { callee := .builtin .append, args := #[x, y], argTypes := #[T, T] }, ty, pos, aft, gd⟩ K Q n f w := by
 obtain ⟨v', w', hr, ho, hg, hn⟩ := Z46 (ty := ty) hR hs h1 (H.at i hi) hu hb h63
 exact Z30 hd (Z42 hx hy hr) (kk v' w' (H.set i hi (Z33 hg) (fun b hb hne => hg.block b hb fun e => hne e.symm) ho hn))
theorem Z1f {T e : TypeId} {size bytes : Nat} {x y : Operand} {d : Nat} (hd : dst = some d) (H : Sat w0 G w) (hR : Z4P P T e size bytes = true) (hs : ∀ x, (enc x).length = size) (h1 : ∀ x, (enc x).all (·.oneCell') = true) {u : Value} {ys : List α} (hu : ListAt enc size w u ys)
  (hx : ev n f x = .slice none 0 0) (hy : ev n f y = u) (hb : ys.length * bytes ≤ 140737488355328) (h63 : ys.length ≤ 140737488355328)
  (kk : ∀ v' w', Sat w0 (G ++ [Zc e size v' ys.length (ys.flatMap enc)]) w' → K (fr n (upd f d v')) w') : WO P ⟨dst, .call { callee := .builtin .append, args := #[x, y], argTypes := #[T, T] }, ty, pos, aft, gd⟩ K Q n f w := by
 obtain ⟨v', w', hr, ho, hg, hn⟩ := Z46 (ty := ty) hR hs h1 (World.ownsRow_nil w 0 e size) hu (by simpa using hb) (by simpa using h63)
 simp only [Nat.zero_add, List.nil_append] at ho
 refine Z30 hd (Z42 hx hy hr) (kk v' w' (H.add (Z33 hg) (fun b hb => hg.block b hb (by simp [Value.ownBlock])) ho fun b hb => ?_))
 rcases hn b hb with h | h
 ·simp [Value.ownBlock] at h
 ·exact h
theorem Z2k {T E : TypeId} {x y : Operand} {a : Option Addr} {len cap : Nat} {k : IntKind} {z : Int} {q : Nat} (hT : P.underlying T = some (.slice E)) (hE : (P.info? E).isSome = true) (hx : ev n f x = .slice a len cap) (hy : ev n f y = .int k z) (h1 : z = (q : Int)) (h2 : q ≤ cap) :
  (execOp (ev n f) ⟨dst, .slice T x none (some y) none, ty, pos, aft, gd⟩).run P w = .ok (.value (.slice a q cap)) w := by
 obtain ⟨i, hi⟩ := Option.isSome_iff_exists.1 hE
 subst h1
 have := Z7D (w := w) (a := a) (len := len) (cap := cap) (k := k) (z := (q : Int)) hT hi (by omega) (by omega)
 rw [Int.toNat_natCast] at this
 simp only [execOp, Instr.sliceAt, Option.map, hx, hy]
 simp [run_underlying hT, this, Result.andThen]
end
def ZH (c : UInt8) : List Value := [Z1W c]
theorem Z0u (x : UInt8) : (ZH x).length = 1 := rfl
theorem Z1b (x : UInt8) : (ZH x).all (·.oneCell') = true := rfl
theorem Z1H {w : World} {v : Value} {s : List UInt8} (h : ListAt ZH 1 w v s) : BytesAt w v s := by
 rcases h with h | ⟨h0, b', o, c', e, hc, h⟩
 ·exact .inl h
 ·exact .inr ⟨h0, b', o, c', e, hc, fun i hi => by have := h i hi 0 (Z1W s[i]) rfl; rw [Addr.add_lit] at this; exact this⟩
theorem Z4U {w : World} {v : Value} {s : List UInt8} (h : BytesAt w v s) : ListAt ZH 1 w v s := by
 rcases h with h | ⟨h0, b', o, c', e, hc, h⟩
 ·exact .inl h
 ·refine .inr ⟨h0, b', o, c', e, hc, fun i hi j u hj => ?_⟩
  match j, hj with
  | 0, hj =>
   simp only [ZH, List.getElem?_cons_zero, Option.some.injEq] at hj
   subst hj
   rw [Addr.add_lit]; exact h i hi
  | _ + 1, hj => simp [ZH] at hj
def Z11 (k : IntKind) (a b : Int) : Int := k.wrap ((BitVec.ofInt k.bits a &&& BitVec.ofInt k.bits b).toNat : Int)
def bOr (k : IntKind) (a b : Int) : Int := k.wrap ((BitVec.ofInt k.bits a ||| BitVec.ofInt k.bits b).toNat : Int)
def Z05 (k : IntKind) (a b : Int) : Int := k.wrap ((BitVec.ofInt k.bits a ^^^ BitVec.ofInt k.bits b).toNat : Int)
def Z2f (k : IntKind) (a : Int) (m : Int) : Int := k.wrap (a * 2 ^ (min m.toNat k.bits))
theorem Z3o {z : Int} (h : 0 ≤ z ∧ z < 18446744073709551616) : IntKind.u64.wrap z = z := by
 simp [IntKind.wrap, IntKind.signed, IntKind.bits]; omega
theorem Zcl {z : Int} (h : 0 ≤ z ∧ z < 256) : IntKind.u8.wrap z = z := by
 simp [IntKind.wrap, IntKind.signed, IntKind.bits]; omega
section
variable {P : Program} {n : Nat} {f : Nat → Value} {w : World} {dst : Option Tmp} {ty : TypeId} {pos : String} {aft : Array Edge} {gd : Option (Nat × Bool)}
theorem Z8r {k yk : IntKind} {x y : Operand} {t T : TypeId} {a m D : Int} (hx : ev n f x = .int k a) (hy : ev n f y = .int yk m) (hm : 0 ≤ m) (hD : (2 : Int) ^ (min m.toNat k.bits) = D) (h0 : 0 ≤ D) :
  (execOp (ev n f) ⟨dst, .binOp .shr t x y T, ty, pos, aft, gd⟩).run P w = .ok (.value (.int k (a / D))) w := by
 have hm' : ¬ m < 0 := by omega
 simp only [execOp, hx, hy, binOp, Op.shift]
 simp [hm', eqGuard, hD, Int.fdiv_eq_ediv_of_nonneg _ h0]
theorem Z97 {k yk : IntKind} {x y : Operand} {t T : TypeId} {a m : Int} (hx : ev n f x = .int k a) (hy : ev n f y = .int yk m) (hm : 0 ≤ m) :
  (execOp (ev n f) ⟨dst, .binOp .shl t x y T, ty, pos, aft, gd⟩).run P w = .ok (.value (.int k (Z2f k a m))) w := by
 have hm' : ¬ m < 0 := by omega
 simp only [execOp, hx, hy, binOp, Op.shift, Z2f]
 simp [hm', eqGuard]
end
def Zad : Nat → Nat → List UInt8
 | 0, _ => []
 | f + 1, n => if n < 128 then [UInt8.ofNat n] else UInt8.ofNat (n % 128 + 128) :: Zad f (n / 128)
def Z1k (n : Nat) : List UInt8 := Zad 10 n
theorem Z8f (f n : Nat) : (Zad f n).length ≤ f := by
 induction f generalizing n with
 | zero => simp [Zad]
 | succ f ih => unfold Zad; split <;> simp; exact ih _
theorem Z5t {z : Int} (h : 0 ≤ z ∧ z < 256) : ([.int .u8 z] : List Value) = [UInt8.ofNat z.toNat].flatMap ZH := by
 have : (UInt8.ofNat z.toNat).toNat = z.toNat := by simp; omega
 simp only [List.flatMap_cons, List.flatMap_nil, List.append_nil, ZH, Z1W, this, Int.toNat_of_nonneg h.1]
theorem Z2X (z : Int) : IntKind.u8.wrap z = z % 256 := by
 simp [IntKind.wrap, IntKind.signed, IntKind.bits]
theorem Z9V {z : Int} (_h : 0 ≤ z) : bOr .u8 (z % 256) 128 = z % 128 + 128 := by
 have key : ∀ k : Fin 256, bOr .u8 ((k.val : Nat) : Int) 128 = (((k.val % 128 + 128 : Nat)) : Int) := by decide +kernel
 have hk : (z % 256).toNat < 256 := by omega
 have := key ⟨(z % 256).toNat, hk⟩
 simp only at this
 rw [Int.toNat_of_nonneg (by omega)] at this
 rw [this]; omega
structure Of (S : World → Prop) where
 w : World
 h : S w
theorem Calls.of {P : Program} {S : World → Prop} {f : FuncId} {args : Array Value} {w : World} {v : Value} {R : Ending → World → Prop}
  (h : Calls P f args w R) (hR : ∀ e w', R e w' → e = .returned v ∧ S w') : Calls P f args w fun e w'' => e = .returned v ∧ ∃ x : Of S, w'' = x.w :=
 h.mono fun e w' hr => ⟨(hR e w' hr).1, ⟨⟨w', (hR e w' hr).2⟩, rfl⟩⟩
end Go.Proofs.YtgigjkjdmalmaaaGreat
namespace Go.Proofs.YtgigjkjdmalmaaaGreat
open Go.ChangeShapes Go.WideShapes Go.ChangeAt Go.RowKit Go.Deep
section
variable {H : Type} {enc : TypeId × Value → H} {P : Program} {W : World}
theorem Z2Q {α : Type} {p : Nat → α → Prop} : ∀ (n : Nat), (∀ i, i < n → ∃ x, p i x) → ∃ xs : List α, xs.length = n ∧ ∀ i (h : i < xs.length), p i xs[i]
 | 0, _ => ⟨[], rfl, fun i h => by simp at h⟩
 | k + 1, each => by
  obtain ⟨xs, h1, h2⟩ := Z2Q k (fun i hi => each i (by omega))
  obtain ⟨x, hx⟩ := each k (by omega)
  refine ⟨xs ++ [x], by simp [h1], fun i hi => ?_⟩
  by_cases hik : i < xs.length
  ·rw [List.getElem_append_left hik]; exact h2 i hik
  ·have : i = k := by simp at hi; omega
   subst this
   rw [List.getElem_append_right (by omega)]
   simpa using hx
theorem Z0x {α : Type} {R : World → Addr → α → Prop} {t e : TypeId} {sz : Nat} (ht : P.underlying t = some (.slice e)) (hc : P.cellsOf e = sz) (hpos : 0 < sz) {v : Value} {d : DataW H} {ps : List MemPlace} (hv : ∃ a len cap, v = .slice a len cap)
  (h : DataW.Trod enc P W 0 (fun _ => true) true t v d ps)
  (hel : ∀ (cs : List Value) (n : Nat) (y : DataW H × List MemPlace) (b off : Nat), cs.length = sz → (∀ j (hj : j < cs.length), W.cell? ⟨b, off + j, none⟩ = some cs[j]) → DataW.trod enc P W 0 (fun _ => true) true n e cs = some y → ∃ x, R W ⟨b, off, none⟩ x) :
  ∃ xs, SliceOf R sz W v xs := by
 obtain ⟨a, len, cap, rfl⟩ := hv
 obtain ⟨fuel, h⟩ := h
 rcases open_slice ht h with ⟨h0, _⟩ | ⟨ad, len', cap', m, n, D, Pl, h0, _, hl, hm, hmm, _, hx⟩
 ·simp only [Value.cells, List.cons.injEq, Value.slice.injEq, and_true] at h0
  obtain ⟨rfl, rfl, rfl⟩ := h0
  exact ⟨[], SliceOf.nil⟩
 ·simp only [Value.cells, List.cons.injEq, Value.slice.injEq, and_true] at h0
  obtain ⟨rfl, rfl, rfl⟩ := h0
  simp only [if_true] at hmm
  subst hmm
  rcases Nat.eq_zero_or_pos len with h0 | h0
  ·subst h0
   exact ⟨[], .inl ⟨_, _, rfl, rfl, hm, by simp⟩⟩
  ·rw [hc] at hx
   have hspot : ad.spot = none := by
    obtain ⟨cs, h1, _⟩ := hx 0 (by omega)
    obtain ⟨_, hlen, hcs⟩ := World.cells?_some h1
    have h2 := hcs 0 hpos
    rw [Nat.zero_mul] at h2
    simp only [Addr.add, if_true] at h2
    have h3 : cs[0]? = some cs[0] := List.getElem?_eq_getElem (by omega)
    rw [h3] at h2
    unfold World.cell? at h2
    split at h2
    ·cases hs : ad.spot with
     | none => rfl
     | some _ => simp [hs] at h2
    ·cases h2
   obtain ⟨b, off, sp⟩ := ad
   simp only at hspot
   subst hspot
   have each : ∀ i, i < len → ∃ x, R W ⟨b, off + i * sz, none⟩ x := by
    intro i hi
    obtain ⟨cs, h1, h2⟩ := hx i (by omega)
    obtain ⟨_, hlen, hcs⟩ := World.cells?_some h1
    refine hel cs n _ b (off + i * sz) hlen (fun j hj => ?_) h2
    have h3 := hcs j (by omega)
    rw [Addr.add_lit, Addr.add_lit, List.getElem?_eq_getElem hj] at h3
    exact h3
   obtain ⟨x0, _⟩ := each 0 h0
   have := Z2Q len each
   obtain ⟨xs, h1, h2⟩ := this
   exact ⟨xs, .inr ⟨by omega, b, off, _, by rw [h1], ⟨by omega, hm⟩, h2⟩⟩
theorem Zp {n : Nat} {t : TypeId} {k : IntKind} {cs : List Value} {y : DataW H × List MemPlace} (ht : P.underlying t = some (.int k)) (h : DataW.trod enc P W 0 (fun _ => true) true n t cs = some y) : ∃ z, cs = [.int k z] ∧ (Lit.int k z).wf = true := by
 obtain ⟨z, h1, _, h2⟩ := DataW.trod_int ht h
 exact ⟨z, h1, h2⟩
theorem Z5n {z : Int} (h : (Lit.int .i64 z).wf = true) : -9223372036854775808 ≤ z ∧ z ≤ 9223372036854775807 := by
 simpa [Lit.wf, IntKind.min, IntKind.max, IntKind.signed, IntKind.bits] using h
theorem wf_u8 {z : Int} (h : (Lit.int .u8 z).wf = true) : 0 ≤ z ∧ z ≤ 255 := by
 simpa [Lit.wf, IntKind.min, IntKind.max, IntKind.signed, IntKind.bits] using h
theorem Zb5 {t e : TypeId} (ht : P.underlying t = some (.slice e)) (he : P.underlying e = some (.int .u8)) (hc : P.cellsOf e = 1) {v : Value} {d : DataW H} {ps : List MemPlace} (hv : ∃ a len cap, v = .slice a len cap)
  (h : DataW.Trod enc P W 0 (fun _ => true) true t v d ps) : ∃ xs, BytesAt W v xs :=
 Z0x (R := Z3A) ht hc (by omega) hv h (fun cs n y b off hl hcs hy => by
  obtain ⟨z, rfl, hz⟩ := Zp he hy
  have hb := wf_u8 hz
  refine ⟨UInt8.ofNat z.toNat, ?_⟩
  have h1 := hcs 0 (by simp)
  simp only [Nat.add_zero, List.getElem_cons_zero] at h1
  have e1 : ((UInt8.ofNat z.toNat).toNat : Int) = z := by simp; omega
  simp only [Z3A, Z1W, e1]
  exact h1)
theorem Z0i {n : Nat} {t e : TypeId} {cs : List Value} {y : DataW H × List MemPlace} (ht : P.underlying t = some (.slice e)) (h : DataW.trod enc P W 0 (fun _ => true) true n t cs = some y) : ∃ a len cap, cs = [.slice a len cap] := by
 rcases DataW.trod_slice ht h with ⟨rfl, _⟩ | ⟨a, len, cap, _, _, _, _, rfl, _⟩
 ·exact ⟨_, _, _, rfl⟩
 ·exact ⟨_, _, _, rfl⟩
theorem Z3m (hl : laidOutB P = true) {W' : World} (hb : Below W.heap.size W W') : ∀ {ts : List TypeId} {vs : List Value} {ds : List (DataW H)} {ps : List MemPlace}, ts.all (fun t => P.readableRec t && decide (t < P.types.size)) = true →
  DataW.TrodAll enc P W 0 (fun _ => true) true ts vs ds ps → (∀ x ∈ ps, x.block < W.heap.size) → DataW.TrodAll enc P W' 0 (fun b => decide (b < W.heap.size)) true ts vs ds ps
 | [], _, _, _, _, h, _ => by
  obtain ⟨rfl, rfl, rfl⟩ := trodAll_nil h
  exact trodAll_mk0
 | t :: ts, _, _, _, hr, h, hlt => by
  obtain ⟨v, vs, d, ds, p, q, rfl, rfl, rfl, h1, h2⟩ := trodAll_cons h
  simp only [List.all_cons, Bool.and_eq_true, decide_eq_true_eq] at hr
  exact trodAll_cons_mk (Below.trod hl hr.1.1 hr.1.2 h1 hb fun x hx => hlt x (List.mem_append_left _ hx)) (Z3m hl hb hr.2 h2 fun x hx => hlt x (List.mem_append_right _ hx))
theorem ZaK {f : Func} {s : ChangeSpec} {W' : World} {args : Array Value} {ds gs : List (DataW H)} {before : List MemPlace} {tb : TypeId} (hv : s.vars = []) (hres : f.resultTypes = #[tb]) (hbool : P.underlying tb = some .bool) (hl : laidOutB P = true)
  (hr : f.params.toList.all (fun t => P.readableRec t && decide (t < P.types.size)) = true) (hW : DataW.Whole enc P f.params.toList s.vars false W args.toList ds gs before)
  (hs : (s.fn H (ds ++ gs)).results = [.lit (.bool true)] ∧ (s.fn H (ds ++ gs)).args = ds ∧ (s.fn H (ds ++ gs)).vars = []) (hb : Below W.heap.size W W') : s.post enc P f false true false false W args (.bool true) W' := by
 have hlt := hW.lt
 obtain ⟨p, q, hA, hV, rfl, hfz, hnd⟩ := hW
 have hV' := hV
 rw [hv] at hV'
 obtain ⟨rfl, rfl⟩ := trodVars_none hV'
 refine ⟨ds, [], p ++ [], [], p, [], ⟨p, [], hA, hV, rfl, hfz, hnd⟩, ?_, ?_, ?_, hb.frame _, fun h => by cases h⟩
 ·rw [hs.1, hres]
  exact trodAll_mk1 (shut_bool hbool true)
 ·rw [hs.2.1]
  exact Z3m hl hb hr hA fun x hx => hlt x (by simpa using hx)
 ·rw [hs.2.2, hv]
  rfl
end
section
variable {H : Type} {enc : TypeId × Value → H} {W : World}
theorem Z1G {n : Nat} {cs : List Value} {y : DataW H × List MemPlace} (h : DataW.trod enc Tryz.prog W 0 (fun _ => true) true n 40 cs = some y) : ∃ a : Z1e, cs = hc a := by
 obtain ⟨xs, m, _, _, hl, hx, hf⟩ := DataW.trod_array (n := 32) (e := 5) (by kernel_rfl) h
 have hl' : cs.length = 32 := hl
 have each : ∀ i, i < 32 → ∃ z : UInt8, cs[i]? = some (Z1W z) := by
  intro i hi
  have h1 := hf i hi
  have hxi : xs[i]? = some xs[i] := List.getElem?_eq_getElem (by omega)
  rw [hxi] at h1
  obtain ⟨z, hz, hw⟩ := Zp (k := .u8) (by kernel_rfl) h1
  have hb := wf_u8 hw
  have h2 : cs[i]? = some (.int .u8 z) := by
   have h3 := congrArg (fun l => l[0]?) hz
   simp only [show Tryz.prog.cellsOf 5 = 1 by kernel_rfl, Nat.mul_one] at h3
   rw [List.getElem?_take, List.getElem?_drop] at h3
   simpa using h3
  refine ⟨UInt8.ofNat z.toNat, ?_⟩
  have e1 : ((UInt8.ofNat z.toNat).toNat : Int) = z := by simp; omega
  simp only [Z1W, e1]
  exact h2
 obtain ⟨zs, hzl, hz⟩ := Z2Q 32 each
 refine ⟨⟨zs, hzl⟩, ?_⟩
 rw [Z3X]
 refine List.ext_getElem (by simp [hl', hzl]) fun i h1 h2 => ?_
 have h3 := hz i (by simpa using h2)
 rw [List.getElem?_eq_getElem h1] at h3
 simpa using h3
end
end Go.Proofs.YtgigjkjdmalmaaaGreat
namespace Go.Proofs.YtgigjkjdmalmaaaGreat
open Go.RowKit
section
variable {w w' w0 : World} {v : Value} {s : List UInt8} {vs : List Value} {ss : List (List UInt8)} {G : List Ck}
structure Parts (w : World) (vs : List Value) (ss : List (List UInt8)) : Prop where
 len : vs.length = ss.length
 get : ∀ i, i < vs.length → ListAt ZH 1 w (vs.getD i undef) (ss.getD i [])
theorem Parts.nil : Parts w [] [] := ⟨rfl, fun i h => by simp at h⟩
theorem Parts.cons (h : ListAt ZH 1 w v s) (t : Parts w vs ss) : Parts w (v :: vs) (s :: ss) := ⟨by simp [t.len], fun i hi => by
 cases i with
 | zero => exact h
 | succ i => exact t.get i (by simpa using hi)⟩
def ZX (v : Value) (s : List UInt8) : Ck where
 fp b := 0 < s.length ∧ v.ownBlock = some b
 ok w := BytesAt w v s
 stay {w w'} h hb := by
  rcases h with h | ⟨h0, b, off, cap, rfl, hn, h⟩
  ·exact .inl h
  ·refine .inr ⟨h0, b, off, cap, rfl, hn, fun i hi => ?_⟩
   have := h i hi
   unfold Z3A World.cell? at this ⊢
   rw [hb b ⟨h0, rfl⟩]; exact this
 lt {w} h b hb := by
  obtain ⟨h0, hb⟩ := hb
  obtain ⟨b', off, cap, rfl, _, h⟩ := SliceOf.some h h0
  have := h 0 h0
  simp only [Value.ownBlock, Option.some.injEq] at hb
  subst hb
  unfold Z3A World.cell? at this
  by_cases hl : b' < w.heap.size
  ·exact hl
  ·rw [Array.getElem?_eq_none (show w.heap.size ≤ b' by omega)] at this; simp at this
theorem ListAt.ofTxt (h : (ZX v s).ok w) : ListAt ZH 1 w v s := Z4U h
theorem ListAt.ofHash {x : Z1e} {b o c : Nat} (h : Z1v w ⟨b, o, none⟩ (hc x)) (hc' : 32 ≤ c ∧ c ≤ maxLen) : ListAt ZH 1 w (.slice (some ⟨b, o, none⟩) 32 c) x.l := by
 refine Z4U (.inr ⟨by rw [x.len]; decide, b, o, c, by rw [x.len], by rw [x.len]; exact hc', fun i hi => ?_⟩)
 have := h i (Z1W x.l[i]) (by rw [Z3X, List.getElem?_map, List.getElem?_eq_getElem hi]; rfl)
 rw [Addr.add_lit] at this
 unfold Z3A; rw [Nat.mul_one]; exact this
theorem Z8X {w : World} {b T o : Nat} {cs us : List Value} (h : (Z3 b T cs).ok w) (hu : (cs.drop o).take us.length = us) : Z1v w ⟨b, o, none⟩ us := by
 intro j v hj
 rw [Addr.add_lit, Z0C h]
 rw [← hu, List.getElem?_take] at hj
 split at hj
 ·rw [List.getElem?_drop] at hj; simpa using hj
 ·cases hj
theorem Sat.offP {A : Ck} {B : List Ck} (H : Sat w0 G w) (is : List Nat) (t : Nat) (hB : (is.filterMap fun i => G[i]?) = B) (ht : G[t]? = some A) (hne : is.all (fun i => !Nat.beq t i) = true) {b : Nat} (hb : A.fp b) : ¬ (ZL B).fp b := by
 rintro ⟨C, hC, hfp⟩
 rw [← hB] at hC
 obtain ⟨i, him, hiC⟩ := List.mem_filterMap.1 hC
 have := List.all_eq_true.1 hne i him
 exact H.apart t i ht hiC (by simpa using this) b hb hfp
theorem Z2W {B : List Ck} {n c : Nat} {a : Option Addr} (h : ∀ b, (ZX (.slice a n c) s).fp b → ¬ (ZL B).fp b) : 0 < s.length → ∀ ad, a = some ad → ¬ (ZL B).fp ad.block := fun h0 ad ha => h _ ⟨h0, by subst ha; rfl⟩
end
section
variable {P : Program} {n : Nat} {f : Nat → Value} {w w0 : World} {dst : Option Tmp} {ty : TypeId} {pos : String} {aft : Array Edge} {gd : Option (Nat × Bool)} {K : Act → World → Prop} {Q : Exit → Act → World → Prop} {G : List Ck}
theorem Z94 {S D e : TypeId} {x : Operand} {d : Nat} {s : List UInt8} (hd : dst = some d) (H : Sat w0 G w) (hs : P.underlying S = some .string) (hD : P.underlying D = some (.slice e)) (he : P.underlying e = some (.int .u8)) (hx : ev n f x = ZD s) (hl : s.length ≤ 1000000) (h0 : 0 < s.length)
  (kk : ∀ b c w', Sat w0 (G ++ [ZX (.slice (some ⟨b, 0, none⟩) s.length c) s]) w' → K (fr n (upd f d (.slice (some ⟨b, 0, none⟩) s.length c))) w') : WO P ⟨dst, .convert S D x, ty, pos, aft, gd⟩ K Q n f w := by
 have hsz : (⟨s.toArray⟩ : ByteArray).size = s.length := by simp [ByteArray.size]
 have hr := run_bytes_of_string (P := P) w S D e ⟨s.toArray⟩ hs hD he
 rw [hsz] at hr
 obtain ⟨C, hC⟩ : ∃ C, C = Obj.cells (bytesRow ⟨s.toArray⟩ (grownCap w s.length 0 e)) e ((bytesRow ⟨s.toArray⟩ (grownCap w s.length 0 e)).size, (bytesRow ⟨s.toArray⟩ (grownCap w s.length 0 e)).size + 1) := ⟨_, rfl⟩
 obtain ⟨w1, hw⟩ : ∃ w1 : World, w1 = w.drew.alloc C := ⟨_, rfl⟩
 rw [← hC, ← hw] at hr
 have hh : w1.heap = w.heap.push C := by rw [hw]; rfl
 refine Z30 hd (v := .slice (some ⟨w.heap.size, 0, none⟩) s.length (grownCap w s.length 0 e)) (w' := w1) (by simp [execOp, hx, ZD, hr, Result.andThen]) (kk _ _ _ (H.add ⟨by rw [hw]; rfl, by rw [hw]; rfl, by rw [hw]; rfl, by rw [hh]; simp⟩ (fun b hb => by rw [hh, Array.getElem?_push]; simp; omega) ?_ (fun b hb => ?_)))
 ·refine .inr ⟨h0, _, 0, _, rfl, ⟨grownCap_ge _ _ _ _, grownCap_le_maxLen _ _ _ _ (by unfold maxLen; omega)⟩, fun i hi => ?_⟩
  unfold Z3A World.cell?
  simp only [hh, Array.getElem?_push, if_true, Nat.zero_add, Nat.mul_one, hC]
  simp [bytesRow, Array.getElem?_append, hi, Z1W]
 ·simp only [ZX, Value.ownBlock, Option.some.injEq] at hb; omega
theorem Z1n {S e : TypeId} {x : Operand} {d : Nat} {s : List UInt8} {g c : Nat} (hd : dst = some d) (H : Sat w0 G w) (i : Nat) (hi : G[i]? = some (Zc e 1 (.slice (some ⟨g, 0, none⟩) s.length c) s.length (s.flatMap ZH))) (hS : P.underlying S = some (.slice e)) (he : P.underlying e = some (.int .u8)) (hx : ev n f x = .slice (some ⟨g, 0, none⟩) s.length c)
  (kk : ∀ w', Sat w0 (G.set i (ZX (.slice (some ⟨g, 0, none⟩) s.length c) s)) w' → K (fr n (upd f d (.slice (some ⟨g, 0, none⟩) s.length c))) w') : WO P ⟨dst, .convert S S x, ty, pos, aft, gd⟩ K Q n f w := by
 have hok := H.at i hi
 have hL := ListAt.row (enc := ZH) (sz := 1) (xs := s) Z0u (by decide) hok
 rcases hok.2 with ⟨hv, _⟩ | ⟨g', cap, cur, hv, _, hgg, hcap, hm, hcs, htake⟩
 ·simp at hv
 simp only [Value.slice.injEq, Option.some.injEq, Addr.mk.injEq] at hv
 obtain ⟨⟨rfl, _⟩, _, rfl⟩ := hv
 have hsh : w.shape? g = some (e, cur.size) := by unfold World.shape?; rw [hgg]
 have hlt := Z0J hgg
 have hr : (convert S S (.slice (some ⟨g, 0, none⟩) s.length c)).run P w = .ok (.slice (some ⟨g, 0, none⟩) s.length c) (w.freeze ⟨g, cur.size, none⟩ 1) := by
  simp [convert, run_underlying hS, run_underlying he, markStringish, hsh]
 have hh : (w.freeze ⟨g, cur.size, none⟩ 1).heap = w.heap.modify g fun
   | .cells c elem (lo, hi) => .cells c elem (if lo == hi then (cur.size, cur.size + 1) else (min lo cur.size, max hi (cur.size + 1)))
   | o => o := by unfold World.freeze; rw [if_neg (by decide)]; rfl
 have hne : ∀ b, b ≠ g → (w.freeze ⟨g, cur.size, none⟩ 1).heap[b]? = w.heap[b]? := fun b hb => by
  rw [hh, Array.getElem?_modify, if_neg (fun h => hb h.symm)]
 have hcell : ∀ p, (w.freeze ⟨g, cur.size, none⟩ 1).cell? p = w.cell? p := fun p => by
  unfold World.cell?
  by_cases hb : p.block = g
  ·rw [hb, hh, Array.getElem?_modify, if_pos rfl, hgg]; rfl
  ·rw [hne _ hb]
 refine Z30 hd (w' := w.freeze ⟨g, cur.size, none⟩ 1) (by simp [execOp, hx, hr, Result.andThen]) (kk _ (H.set i hi ⟨by unfold World.freeze; rw [if_neg (by decide)], by unfold World.freeze; rw [if_neg (by decide)], by unfold World.freeze; rw [if_neg (by decide)], by rw [hh]; simp⟩ (fun b _ hb => hne b fun h => hb (by subst h; rfl)) ?_ (fun b hb => .inl ?_)))
 ·exact Z1H (hL.mono fun p x hx => by rw [hcell]; exact hx)
 ·obtain ⟨_, hb⟩ := hb
  exact hb
end
structure Zk where
 r : Int
 cl : Int
 seq : Int
 h : Z1e
 t : Int
 sb : Int
 sm : Int
structure Z0 where
 cl : Int
 seq : Int
 h : Z1e
 len : Int
 sb : Int
 sm : Int
def ZV (s : Zk) : List Value := [.int .i64 s.r, .int .i64 s.cl, .int .i64 s.seq] ++ hc s.h ++ [.int .u64 s.t, .int .i64 s.sb, .int .i64 s.sm]
theorem Z0W (s : Zk) : (ZV s).length = 38 := by simp [ZV]
theorem Z2m (s : Zk) : (ZV s).all (·.oneCell') = true := by
 simp only [ZV, List.all_append, Z3X]
 simp [Value.oneCell', Z1W]
def Zr : Zk := ⟨0, 0, 0, Zx, 0, 0, 0⟩
def Z1E (s : Z0) : List Value := [.int .i64 s.cl, .int .i64 s.seq] ++ hc s.h ++ [.int .i64 s.len, .int .i64 s.sb, .int .i64 s.sm]
def Zl (n : Int) : List UInt8 := Z1k (max 0 n).toNat
def Zs (s : List UInt8) : List UInt8 := Z1k s.length ++ s
def Z07 (a b : Int) : List UInt8 := [Zl a, Zl b].flatten
def Z7c (s : Zk) : List UInt8 := [Zl s.r, Z07 s.cl s.seq, s.h.l, Z1k s.t.toNat].flatten
def Z1V (s : Zk) : List UInt8 := [Zs [115, 116, 97, 109, 112], Z7c s].flatten
def Z1 (s : Z0) : List UInt8 := [Zs [114, 101, 113, 117, 101, 115, 116], Zl s.cl, Zl s.seq, s.h.l, Zl s.len].flatten
theorem Z6b (n : Nat) : (Z1k n).length ≤ 10 := Z8f 10 n
theorem Z0g (n : Int) : (Zl n).length ≤ 10 := Z8f 10 _
theorem Z6S (a b : Int) : (Z07 a b).length ≤ 20 := by
 have h1 := Z0g a; have h2 := Z0g b
 simp only [Z07, List.flatten_cons, List.flatten_nil, List.length_append, List.length_nil]; omega
theorem Z10 (s : List UInt8) : (Zs s).length ≤ 10 + s.length := by
 have := Z6b s.length
 simp only [Zs, List.length_append]; omega
structure CeR where
 x : Z0
 sa : Option Addr
 sc : Nat
 S : List Zk
def Z2J (c : CeR) : List Value := Z1E c.x ++ [.slice c.sa c.S.length c.sc]
theorem Z98 (c : CeR) : (Z2J c).length = 38 := by simp [Z2J, Z1E, Z50]
theorem Z99 (c : CeR) : (Z2J c).all (·.oneCell') = true := by
 simp only [Z2J, Z1E, List.all_append, Z3X]
 simp [Value.oneCell', Z1W]
def ce0 : CeR := ⟨⟨0, 0, Zx, 0, 0, 0⟩, none, 0, []⟩
structure PrR where
 r : Int
 e : Int
 f : Int
 ca : Option Addr
 cc : Nat
 sb : Int
 sm : Int
 C : List CeR
def Z3s (p : PrR) : List Value := [.int .i64 p.r, .int .i64 p.e, .int .u64 p.f, .slice p.ca p.C.length p.cc, .int .i64 p.sb, .int .i64 p.sm]
theorem Z9f (p : PrR) : (Z3s p).all (·.oneCell') = true := rfl
def pr0 : PrR := ⟨0, 0, 0, none, 0, 0, 0, []⟩
def Zcs (w : World) (c : CeR) : Prop := ListAt ZV 38 w (.slice c.sa c.S.length c.sc) c.S
def Zct (w : World) (p : PrR) : Prop := ListAt Z2J 38 w (.slice p.ca p.C.length p.cc) p.C ∧ ∀ c ∈ p.C, Zcs w c
end Go.Proofs.YtgigjkjdmalmaaaGreat
