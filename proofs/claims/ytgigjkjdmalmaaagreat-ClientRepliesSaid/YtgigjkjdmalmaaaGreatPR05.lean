/- WHAT IS PROVED: contracts and plain laws of Ins, ListAt, BytesD, Bits, VarB, Reg, Frame, Hash, FrameHash, TxtD. Conditions: stated with each. -/
import Derived.Lib.BitFns
import Derived.Lib.ItoaNum
import Derived.ProofKit
import Derived.OpenShut
import Derived.JoinedCond
import Derived.Deep.Slices
import Derived.Stop.BytesEq
import Derived.Laws.IdiomStrings
import Derived.Test.YtgigjkjdmalmaaaGreatPR00
import Derived.Test.YtgigjkjdmalmaaaGreatPR02
import Derived.Test.YtgigjkjdmalmaaaGreatPR03
import Derived.Test.YtgigjkjdmalmaaaGreatPR04
set_option maxHeartbeats 4000000
set_option maxRecDepth 100000
namespace Go.Proofs.YtgigjkjdmalmaaaGreat
open Go.RowKit
section
variable {α : Type} {w W : World} {v : Value} {b o q : Nat}
theorem Z2n {vs : List Value} (h : Z1t w ⟨b, o, none⟩ vs) (d : Nat) {u : Value} (hu : vs[d]? = some u) (hq : q = o + d) : w.cell? ⟨b, q, none⟩ = some u := by
 have := h d u hu
 rw [Addr.add_lit] at this
 rw [hq]; exact this
theorem Z54 {vs us : List Value} (h : Z1t w ⟨b, o, none⟩ vs) (d : Nat) (hu : (vs.drop d).take us.length = us) (hq : q = o + d) : Z1t w ⟨b, q, none⟩ us := by
 intro j u hj
 have hl : j < us.length := (List.getElem?_eq_some_iff.1 hj).1
 rw [Addr.add_lit]
 refine Z2n h (d + j) ?_ (by omega)
 rw [← hu, List.getElem?_take, if_pos hl, List.getElem?_drop] at hj
 exact hj
theorem Sat.runR {w0 : World} {G : List Ck} {D : Nat → Prop} (H : Sat w0 G w) (i : Nat) (hi : G[i]? = some (Zb W D)) {vs : List Value} (h : Z1t W ⟨b, o, none⟩ vs) (hD : ¬ D b) : Z1t w ⟨b, o, none⟩ vs := fun j u hj => by
 have := h j u hj
 rw [Addr.add_lit] at this ⊢
 exact H.cellR i hi this hD
theorem IntsAt.atD {s : List Int} (h : IntsAt w v s) {i : Nat} (hi : i < s.length) : ∃ b o cap, v = .slice (Option.some ⟨b, o, none⟩) s.length cap ∧ Z1t w ⟨b, o + i * 1, none⟩ [.int .i64 (s.getD i 0)] := by
 obtain ⟨b, o, cap, e, _, h⟩ := h.some (by omega)
 refine ⟨b, o, cap, e, fun j u hj => ?_⟩
 match j, hj with
 | 0, hj =>
  simp only [List.getElem?_cons_zero, Option.some.injEq] at hj
  subst hj
  rw [Addr.add_lit]
  simpa using h i hi
theorem SliceOf.atD {L : α → List Value} {sz : Nat} {s : List α} (h : SliceOf (fun w a x => Z1t w a (L x)) sz w v s) (d : α) {i : Nat} (hi : i < s.length) : ∃ b o cap, v = .slice (Option.some ⟨b, o, none⟩) s.length cap ∧ Z1t w ⟨b, o + i * sz, none⟩ (L (s.getD i d)) := by
 obtain ⟨b, o, cap, e, _, h⟩ := SliceOf.some h (by omega)
 refine ⟨b, o, cap, e, ?_⟩
 have := h i hi
 rwa [show s.getD i d = s[i] by simp [List.getD, List.getElem?_eq_getElem hi]]
end
section
variable {P : Program} {n : Nat} {f : Nat → Value} {w : World} {dst : Option Tmp} {ty : TypeId} {pos : String} {aft : Array Edge} {gd : Option (Nat × Bool)}
theorem Z09 {T E : TypeId} {x y : Operand} {v : Value} {b o len cap sz : Nat} {k : IntKind} {z : Int} (hT : P.underlying T = some (.slice E)) (hs : P.cellsOf E = sz) (h0 : 0 < sz) (hx : ev n f x = v) (hv : v = .slice (some ⟨b, o, none⟩) len cap) (hy : ev n f y = .int k z) (h1 : 0 ≤ z) (h2 : z < len) :
  (execOp (ev n f) ⟨dst, .indexAddr T x y, ty, pos, aft, gd⟩).run P w = .ok (.value (.pointer (some ⟨b, o + z.toNat * sz, none⟩))) w :=
 Z0G hT hs h0 (hx.trans hv) hy h1 h2
end
def ListAt {α : Type} (enc : α → List Value) (sz : Nat) (w : World) (v : Value) (xs : List α) : Prop := SliceOf (fun w a x => Z1t w a (enc x)) sz w v xs
section
variable {α : Type} {enc : α → List Value} {sz : Nat} {w w' W : World} {v : Value} {xs : List α}
theorem Z2Z {a : Addr} {vs : List Value} (h : Z1t w a vs) (hc : ∀ p x, w.cell? p = some x → w'.cell? p = some x) : Z1t w' a vs := fun j u hj => hc _ _ (h j u hj)
theorem ListAt.mono (h : ListAt enc sz w v xs) (hc : ∀ p x, w.cell? p = some x → w'.cell? p = some x) : ListAt enc sz w' v xs := SliceOf.mono h fun _ _ hx => Z2Z hx hc
theorem ListAt.now {G : List Ck} {w0 : World} (H : Sat w0 G w) (j : Nat) (hj : G[j]? = Option.some (Zb W fun _ => False)) (hv : ListAt enc sz W v xs) : ListAt enc sz w v xs :=
 SliceOf.mono hv fun _ _ hx => Z2Z hx fun _ _ h => H.cellR j hj h (fun h => h)
theorem ListAt.nil : ListAt enc sz w (.slice none 0 0) ([] : List α) := SliceOf.nil
theorem ListAt.row {e n : Nat} (hs : ∀ x, (enc x).length = sz) (h0 : 0 < sz) (h : (Ze e sz v n (xs.flatMap enc)).ok w) : ListAt enc sz w v xs := by
 have hl : xs.length = n := by
  have := h.1
  rw [Z1F enc sz hs] at this
  exact Nat.eq_of_mul_eq_mul_right h0 this
 subst hl
 rcases h.2 with ⟨rfl, hn⟩ | ⟨g, cap, cur, rfl, hb, hgg, hc, hm, hcs, htake⟩
 ·obtain rfl := List.eq_nil_of_length_eq_zero hn
  exact SliceOf.nil
 ·by_cases hz : xs.length = 0
  ·obtain rfl := List.eq_nil_of_length_eq_zero hz
   exact .inl ⟨_, cap, rfl, rfl, hm, by simp⟩
  ·refine .inr ⟨by omega, g, 0, cap, rfl, ⟨hc, hm⟩, fun i hi j u hj => ?_⟩
   have hjl : j < sz := by rw [← hs xs[i]]; exact (List.getElem?_eq_some_iff.1 hj).1
   rw [Addr.add_lit]
   refine Z4C (k := xs.length) (c := cap) h rfl ?_
   rw [Nat.zero_add, Z2q enc sz hs xs i j xs[i] (List.getElem?_eq_getElem hi) hjl]
   exact hj
theorem ListAt.take {a : Option Addr} {n c k : Nat} (h : ListAt enc sz w (.slice a n c) xs) (hk : k ≤ n) : ListAt enc sz w (.slice a k c) (xs.take k) := by
 rcases h with ⟨a', c', e, rfl, hc, ha⟩ | ⟨h0, b, o, c', e, ⟨h1, h2⟩, h⟩
 ·simp only [Value.slice.injEq] at e
  obtain ⟨rfl, rfl, rfl⟩ := e
  obtain rfl : k = 0 := by omega
  exact .inl ⟨_, _, rfl, by simp, hc, ha⟩
 ·simp only [Value.slice.injEq] at e
  obtain ⟨rfl, rfl, rfl⟩ := e
  have hl : (xs.take k).length = k := by rw [List.length_take]; omega
  by_cases hz : k = 0
  ·subst hz; exact .inl ⟨_, _, rfl, by simp, h2, by simp⟩
  ·refine .inr ⟨by omega, b, o, _, by rw [hl], ⟨by omega, h2⟩, fun i hi => ?_⟩
   rw [List.getElem_take]
   exact h i (by rw [hl] at hi; omega)
theorem ListAt.drop {b o n c k : Nat} (h : ListAt enc sz w (.slice (some ⟨b, o, none⟩) n c) xs) (hk : k ≤ n) : ListAt enc sz w (.slice (some (if c = k then ⟨b, o, none⟩ else ⟨b, o + k * sz, none⟩)) (n - k) (c - k)) (xs.drop k) := by
 rcases h with ⟨a', c', e, rfl, hc, ha⟩ | ⟨h0, b', o', c', e, ⟨h1, h2⟩, h⟩
 ·simp only [Value.slice.injEq] at e
  obtain ⟨rfl, rfl, rfl⟩ := e
  obtain rfl : k = 0 := by omega
  exact .inl ⟨_, _, rfl, by simp, by omega, by simp⟩
 ·simp only [Value.slice.injEq, Option.some.injEq, Addr.mk.injEq] at e
  obtain ⟨⟨rfl, rfl, _⟩, rfl, rfl⟩ := e
  have hl : (xs.drop k).length = xs.length - k := List.length_drop
  by_cases hz : k = xs.length
  ·subst hz; exact .inl ⟨_, c - xs.length, by rw [Nat.sub_self], by simp, by omega, fun h => by cases h⟩
  ·refine .inr ⟨by omega, b, o + k * sz, c - k, by rw [hl, if_neg (by omega)], ⟨by rw [hl]; omega, by omega⟩, fun i hi => ?_⟩
   rw [List.getElem_drop]
   have := h (k + i) (by rw [hl] at hi; omega)
   rwa [show o + k * sz + i * sz = o + (k + i) * sz by rw [Nat.add_mul]; omega]
theorem ListAt.cap {a : Option Addr} {n c : Nat} (h : ListAt enc sz w (.slice a n c) xs) : n ≤ c := by
 rcases h with ⟨a', c', e, rfl, hc, ha⟩ | ⟨h0, b, o, c', e, ⟨h1, h2⟩, h⟩
 ·simp only [Value.slice.injEq] at e
  obtain ⟨rfl, rfl, rfl⟩ := e
  omega
 ·simp only [Value.slice.injEq] at e
  obtain ⟨rfl, rfl, rfl⟩ := e
  exact h1
theorem ListAt.len (h : ListAt enc sz w v xs) : ∃ a c, v = .slice a xs.length c := SliceOf.len h
theorem ListAt.cells (hs : ∀ x, (enc x).length = sz) (h0 : 0 < sz) (h : ListAt enc sz w v xs) (hp : 0 < xs.length) : ∃ b o c, v = .slice (some ⟨b, o, none⟩) xs.length c ∧ ∀ j u, (xs.flatMap enc)[j]? = some u → w.cell? ((⟨b, o, none⟩ : Addr).add j) = some u := by
 obtain ⟨b, o, c, e, _, h⟩ := SliceOf.some h hp
 refine ⟨b, o, c, e, fun j u hj => ?_⟩
 have hjl : j < xs.length * sz := by rw [← Z1F enc sz hs]; exact (List.getElem?_eq_some_iff.1 hj).1
 have hi : j / sz < xs.length := Nat.div_lt_of_lt_mul (by rwa [Nat.mul_comm])
 have hd : j = j / sz * sz + j % sz := by have := Nat.div_add_mod j sz; rw [Nat.mul_comm] at this; omega
 have := Z2q enc sz hs xs (j / sz) (j % sz) xs[j / sz] (List.getElem?_eq_getElem hi) (Nat.mod_lt _ h0)
 rw [← hd, hj] at this
 have hc := h (j / sz) hi (j % sz) u this.symm
 rw [Addr.add_lit] at hc ⊢
 rwa [hd, ← Nat.add_assoc]
end
section
variable {P : Program} {n : Nat} {f : Nat → Value} {w w' : World} {dst : Option Tmp} {ty : TypeId} {pos : String} {aft : Array Edge} {gd : Option (Nat × Bool)} {w0 : World} {G : List Ck} {K : Act → World → Prop} {Q : Exit → Act → World → Prop}
variable {α : Type} {enc : α → List Value}
theorem Z2t {T e : TypeId} {size bytes : Nat} (hR : Z2M P T e size bytes = true) (hs : ∀ x, (enc x).length = size) (h1 : ∀ x, (enc x).all (·.oneCell') = true) {v u : Value} {k : Nat} {xs : List Value} {ys : List α} (hv : w.ownsRow 0 e size v k xs) (hu : ListAt enc size w u ys) (hb : (k + ys.length) * bytes ≤ 140737488355328) (h63 : k + ys.length ≤ 140737488355328) :
  ∃ v' w', (Builtin.append_ #[T, T] ty #[v, u]).run P w = .ok v' w' ∧ w'.ownsRow 0 e size v' (k + ys.length) (xs ++ ys.flatMap enc) ∧ w.grownBy w' v.ownBlock ∧ ∀ b, v'.ownBlock = some b → v.ownBlock = some b ∨ w.heap.size ≤ b := by
 obtain ⟨i, z, ht, hi, hz, hsz, hby, hzs, h0⟩ := Z2r hR
 have own := fun (a : Addr) (m c : Nat) (news : List Value) => Z2P (P := P) (ty := ty) w 0 T e i z size bytes ht hi hz hsz hby hzs h0 v k xs hv a m c news
 by_cases hp : 0 < ys.length
 ·obtain ⟨b, o, c, rfl, hc⟩ := hu.cells hs h0 hp
  exact own ⟨b, o, none⟩ ys.length c (ys.flatMap enc) (Z1F enc size hs ys) hc (fun x hx => List.all_eq_true.1 (Z0g enc h1 ys) x hx) (by unfold maxLen; omega) hb (Nat.zero_le _)
 ·obtain rfl : ys = [] := List.eq_nil_of_length_eq_zero (by omega)
  rcases hu with ⟨a, c, rfl, _, hc, ha⟩ | ⟨h, _⟩
  ·cases a with
   | none =>
    obtain rfl := ha rfl
    exact ⟨v, w, Z2u w T ty e i ht hi hv, by simpa using hv, ⟨rfl, rfl, rfl, Nat.le_refl _, fun _ _ _ => rfl⟩, fun b h => .inl h⟩
   | some ad =>
    have := own ad 0 c [] (by simp) (by simp) (by simp) (by simp at h63; unfold maxLen; omega) (by simpa using hb) (Nat.zero_le _)
    simpa using this
  ·simp at h
theorem Z1S {T e : TypeId} {size bytes : Nat} {x y : Operand} {d : Nat} (hd : dst = some d) (H : Sat w0 G w) (hR : Z2M P T e size bytes = true) (hs : ∀ x, (enc x).length = size) (h1 : ∀ x, (enc x).all (·.oneCell') = true) (i : Nat) {v u : Value} {k : Nat} {xs : List Value} {ys : List α} (hi : G[i]? = some (Ze e size v k xs)) (hu : ListAt enc size w u ys)
  (hx : ev n f x = v) (hy : ev n f y = u) (hb : (k + ys.length) * bytes ≤ 140737488355328) (h63 : k + ys.length ≤ 140737488355328)
  (kk : ∀ v' w', Sat w0 (G.set i (Ze e size v' (k + ys.length) (xs ++ ys.flatMap enc))) w' → K (fr n (upd f d v')) w') : WO P ⟨dst, .call { callee := .builtin .append, args := #[x, y], argTypes := #[T, T] }, ty, pos, aft, gd⟩ K Q n f w := by
 obtain ⟨v', w', hr, ho, hg, hn⟩ := Z2t (ty := ty) hR hs h1 (H.at i hi) hu hb h63
 exact Z22 hd (Z2p hx hy hr) (kk v' w' (H.set i hi (Z1U hg) (fun b hb hne => hg.block b hb fun e => hne e.symm) ho hn))
theorem Z1v {T e : TypeId} {size bytes : Nat} {x y : Operand} {d : Nat} (hd : dst = some d) (H : Sat w0 G w) (hR : Z2M P T e size bytes = true) (hs : ∀ x, (enc x).length = size) (h1 : ∀ x, (enc x).all (·.oneCell') = true) {u : Value} {ys : List α} (hu : ListAt enc size w u ys)
  (hx : ev n f x = .slice none 0 0) (hy : ev n f y = u) (hb : ys.length * bytes ≤ 140737488355328) (h63 : ys.length ≤ 140737488355328)
  (kk : ∀ v' w', Sat w0 (G ++ [Ze e size v' ys.length (ys.flatMap enc)]) w' → K (fr n (upd f d v')) w') : WO P ⟨dst, .call { callee := .builtin .append, args := #[x, y], argTypes := #[T, T] }, ty, pos, aft, gd⟩ K Q n f w := by
 obtain ⟨v', w', hr, ho, hg, hn⟩ := Z2t (ty := ty) hR hs h1 (World.ownsRow_nil w 0 e size) hu (by simpa using hb) (by simpa using h63)
 simp only [Nat.zero_add, List.nil_append] at ho
 refine Z22 hd (Z2p hx hy hr) (kk v' w' (H.add (Z1U hg) (fun b hb => hg.block b hb (by simp [Value.ownBlock])) ho fun b hb => ?_))
 rcases hn b hb with h | h
 ·simp [Value.ownBlock] at h
 ·exact h
end
def Zo (c : UInt8) : List Value := [Z1g c]
theorem ZR (x : UInt8) : (Zo x).length = 1 := rfl
theorem Z0f (x : UInt8) : (Zo x).all (·.oneCell') = true := rfl
theorem Z1i {w : World} {v : Value} {s : List UInt8} (h : ListAt Zo 1 w v s) : BytesAt w v s := by
 rcases h with h | ⟨h0, b', o, c', e, hc, h⟩
 ·exact .inl h
 ·exact .inr ⟨h0, b', o, c', e, hc, fun i hi => by have := h i hi 0 (Z1g s[i]) rfl; rw [Addr.add_lit] at this; exact this⟩
theorem Z2R {w : World} {v : Value} {s : List UInt8} (h : BytesAt w v s) : ListAt Zo 1 w v s := by
 rcases h with h | ⟨h0, b', o, c', e, hc, h⟩
 ·exact .inl h
 ·refine .inr ⟨h0, b', o, c', e, hc, fun i hi j u hj => ?_⟩
  match j, hj with
  | 0, hj =>
   simp only [Zo, List.getElem?_cons_zero, Option.some.injEq] at hj
   subst hj
   rw [Addr.add_lit]; exact h i hi
  | _ + 1, hj => simp [Zo] at hj
def Z03 (k : IntKind) (a b : Int) : Int := k.wrap ((BitVec.ofInt k.bits a &&& BitVec.ofInt k.bits b).toNat : Int)
def bOr (k : IntKind) (a b : Int) : Int := k.wrap ((BitVec.ofInt k.bits a ||| BitVec.ofInt k.bits b).toNat : Int)
def ZA (k : IntKind) (a b : Int) : Int := k.wrap ((BitVec.ofInt k.bits a ^^^ BitVec.ofInt k.bits b).toNat : Int)
def Z0Y (k : IntKind) (a : Int) (m : Int) : Int := k.wrap (a * 2 ^ (min m.toNat k.bits))
theorem Z10 {z : Int} (h : 0 ≤ z ∧ z < 18446744073709551616) : IntKind.u64.wrap z = z := by
 simp [IntKind.wrap, IntKind.signed, IntKind.bits]; omega
theorem Z4t {z : Int} (h : 0 ≤ z ∧ z < 256) : IntKind.u8.wrap z = z := by
 simp [IntKind.wrap, IntKind.signed, IntKind.bits]; omega
section
variable {P : Program} {n : Nat} {f : Nat → Value} {w : World} {dst : Option Tmp} {ty : TypeId} {pos : String} {aft : Array Edge} {gd : Option (Nat × Bool)}
theorem Z23 {k yk : IntKind} {x y : Operand} {t T : TypeId} {a m D : Int} (hx : ev n f x = .int k a) (hy : ev n f y = .int yk m) (hm : 0 ≤ m) (hD : (2 : Int) ^ (min m.toNat k.bits) = D) (h0 : 0 ≤ D) :
  (execOp (ev n f) ⟨dst, .binOp .shr t x y T, ty, pos, aft, gd⟩).run P w = .ok (.value (.int k (a / D))) w := by
 have hm' : ¬ m < 0 := by omega
 simp only [execOp, hx, hy, binOp, Op.shift]
 simp [hm', eqGuard, hD, Int.fdiv_eq_ediv_of_nonneg _ h0]
theorem Z3a {k yk : IntKind} {x y : Operand} {t T : TypeId} {a m : Int} (hx : ev n f x = .int k a) (hy : ev n f y = .int yk m) (hm : 0 ≤ m) :
  (execOp (ev n f) ⟨dst, .binOp .shl t x y T, ty, pos, aft, gd⟩).run P w = .ok (.value (.int k (Z0Y k a m))) w := by
 have hm' : ¬ m < 0 := by omega
 simp only [execOp, hx, hy, binOp, Op.shift, Z0Y]
 simp [hm', eqGuard]
end
def Z4G : Nat → Nat → List UInt8
 | 0, _ => []
 | f + 1, n => if n < 128 then [UInt8.ofNat n] else UInt8.ofNat (n % 128 + 128) :: Z4G f (n / 128)
def Z1K (n : Nat) : List UInt8 := Z4G 10 n
theorem Z4H (f n : Nat) : (Z4G f n).length ≤ f := by
 induction f generalizing n with
 | zero => simp [Z4G]
 | succ f ih => unfold Z4G; split <;> simp; exact ih _
theorem Z1C {z : Int} (h : 0 ≤ z ∧ z < 256) : ([.int .u8 z] : List Value) = [UInt8.ofNat z.toNat].flatMap Zo := by
 have : (UInt8.ofNat z.toNat).toNat = z.toNat := by simp; omega
 simp only [List.flatMap_cons, List.flatMap_nil, List.append_nil, Zo, Z1g, this, Int.toNat_of_nonneg h.1]
theorem Z1s (z : Int) : IntKind.u8.wrap z = z % 256 := by
 simp [IntKind.wrap, IntKind.signed, IntKind.bits]
theorem Z4o {z : Int} (_h : 0 ≤ z) : bOr .u8 (z % 256) 128 = z % 128 + 128 := by
 have key : ∀ k : Fin 256, bOr .u8 ((k.val : Nat) : Int) 128 = (((k.val % 128 + 128 : Nat)) : Int) := by decide +kernel
 have hk : (z % 256).toNat < 256 := by omega
 have := key ⟨(z % 256).toNat, hk⟩
 simp only at this
 rw [Int.toNat_of_nonneg (by omega)] at this
 rw [this]; omega
structure Of (S : World → Prop) where
 w : World
 h : S w
theorem Calls.of {P : Program} {S : World → Prop} {f : FuncId} {args : Array Value} {w : World} {v : Value} {R : Ending → World → Prop}
  (h : Calls P f args w R) (hR : ∀ e w', R e w' → e = .returned v ∧ S w') : Calls P f args w fun e w'' => e = .returned v ∧ ∃ x : Of S, w'' = x.w :=
 h.mono fun e w' hr => ⟨(hR e w' hr).1, ⟨⟨w', (hR e w' hr).2⟩, rfl⟩⟩
end Go.Proofs.YtgigjkjdmalmaaaGreat
namespace Go.Proofs.YtgigjkjdmalmaaaGreat
open Go.ChangeShapes Go.WideShapes Go.ChangeAt Go.RowKit Go.Deep
section
variable {H : Type} {enc : TypeId × Value → H} {P : Program} {W : World}
theorem Z2w {α : Type} {p : Nat → α → Prop} : ∀ (n : Nat), (∀ i, i < n → ∃ x, p i x) → ∃ xs : List α, xs.length = n ∧ ∀ i (h : i < xs.length), p i xs[i]
 | 0, _ => ⟨[], rfl, fun i h => by simp at h⟩
 | k + 1, each => by
  obtain ⟨xs, h1, h2⟩ := Z2w k (fun i hi => each i (by omega))
  obtain ⟨x, hx⟩ := each k (by omega)
  refine ⟨xs ++ [x], by simp [h1], fun i hi => ?_⟩
  by_cases hik : i < xs.length
  ·rw [List.getElem_append_left hik]; exact h2 i hik
  ·have : i = k := by simp at hi; omega
   subst this
   rw [List.getElem_append_right (by omega)]
   simpa using hx
theorem Z3S {α : Type} {R : World → Addr → α → Prop} {t e : TypeId} {sz : Nat} (ht : P.underlying t = some (.slice e)) (hc : P.cellsOf e = sz) (hpos : 0 < sz) {v : Value} {d : DataW H} {ps : List MemPlace} (hv : ∃ a len cap, v = .slice a len cap)
  (h : DataW.Trod enc P W 0 (fun _ => true) true t v d ps)
  (hel : ∀ (cs : List Value) (n : Nat) (y : DataW H × List MemPlace) (b off : Nat), cs.length = sz → (∀ j (hj : j < cs.length), W.cell? ⟨b, off + j, none⟩ = some cs[j]) → DataW.trod enc P W 0 (fun _ => true) true n e cs = some y → ∃ x, R W ⟨b, off, none⟩ x) :
  ∃ xs, SliceOf R sz W v xs := by
 obtain ⟨a, len, cap, rfl⟩ := hv
 obtain ⟨fuel, h⟩ := h
 rcases open_slice ht h with ⟨h0, _⟩ | ⟨ad, len', cap', m, n, D, Pl, h0, _, hl, hm, hmm, _, hx⟩
 ·simp only [Value.cells, List.cons.injEq, Value.slice.injEq, and_true] at h0
  obtain ⟨rfl, rfl, rfl⟩ := h0
  exact ⟨[], SliceOf.nil⟩
 ·simp only [Value.cells, List.cons.injEq, Value.slice.injEq, and_true] at h0
  obtain ⟨rfl, rfl, rfl⟩ := h0
  simp only [if_true] at hmm
  subst hmm
  rcases Nat.eq_zero_or_pos len with h0 | h0
  ·subst h0
   exact ⟨[], .inl ⟨_, _, rfl, rfl, hm, by simp⟩⟩
  ·rw [hc] at hx
   have hspot : ad.spot = none := by
    obtain ⟨cs, h1, _⟩ := hx 0 (by omega)
    obtain ⟨_, hlen, hcs⟩ := World.cells?_some h1
    have h2 := hcs 0 hpos
    rw [Nat.zero_mul] at h2
    simp only [Addr.add, if_true] at h2
    have h3 : cs[0]? = some cs[0] := List.getElem?_eq_getElem (by omega)
    rw [h3] at h2
    unfold World.cell? at h2
    split at h2
    ·cases hs : ad.spot with
     | none => rfl
     | some _ => simp [hs] at h2
    ·cases h2
   obtain ⟨b, off, sp⟩ := ad
   simp only at hspot
   subst hspot
   have each : ∀ i, i < len → ∃ x, R W ⟨b, off + i * sz, none⟩ x := by
    intro i hi
    obtain ⟨cs, h1, h2⟩ := hx i (by omega)
    obtain ⟨_, hlen, hcs⟩ := World.cells?_some h1
    refine hel cs n _ b (off + i * sz) hlen (fun j hj => ?_) h2
    have h3 := hcs j (by omega)
    rw [Addr.add_lit, Addr.add_lit, List.getElem?_eq_getElem hj] at h3
    exact h3
   obtain ⟨x0, _⟩ := each 0 h0
   have := Z2w len each
   obtain ⟨xs, h1, h2⟩ := this
   exact ⟨xs, .inr ⟨by omega, b, off, _, by rw [h1], ⟨by omega, hm⟩, h2⟩⟩
theorem Z3s {n : Nat} {t : TypeId} {k : IntKind} {cs : List Value} {y : DataW H × List MemPlace} (ht : P.underlying t = some (.int k)) (h : DataW.trod enc P W 0 (fun _ => true) true n t cs = some y) : ∃ z, cs = [.int k z] ∧ (Lit.int k z).wf = true := by
 obtain ⟨z, h1, _, h2⟩ := DataW.trod_int ht h
 exact ⟨z, h1, h2⟩
theorem wf_i64 {z : Int} (h : (Lit.int .i64 z).wf = true) : -9223372036854775808 ≤ z ∧ z ≤ 9223372036854775807 := by
 simpa [Lit.wf, IntKind.min, IntKind.max, IntKind.signed, IntKind.bits] using h
theorem Z20 (hl : laidOutB P = true) {W' : World} (hb : Below W.heap.size W W') : ∀ {ts : List TypeId} {vs : List Value} {ds : List (DataW H)} {ps : List MemPlace}, ts.all (fun t => P.readableRec t && decide (t < P.types.size)) = true →
  DataW.TrodAll enc P W 0 (fun _ => true) true ts vs ds ps → (∀ x ∈ ps, x.block < W.heap.size) → DataW.TrodAll enc P W' 0 (fun b => decide (b < W.heap.size)) true ts vs ds ps
 | [], _, _, _, _, h, _ => by
  obtain ⟨rfl, rfl, rfl⟩ := trodAll_nil h
  exact trodAll_mk0
 | t :: ts, _, _, _, hr, h, hlt => by
  obtain ⟨v, vs, d, ds, p, q, rfl, rfl, rfl, h1, h2⟩ := trodAll_cons h
  simp only [List.all_cons, Bool.and_eq_true, decide_eq_true_eq] at hr
  exact trodAll_cons_mk (Below.trod hl hr.1.1 hr.1.2 h1 hb fun x hx => hlt x (List.mem_append_left _ hx)) (Z20 hl hb hr.2 h2 fun x hx => hlt x (List.mem_append_right _ hx))
theorem Z62 {f : Func} {s : ChangeSpec} {W' : World} {args : Array Value} {ds gs : List (DataW H)} {before : List MemPlace} {tb : TypeId} (hv : s.vars = []) (hres : f.resultTypes = #[tb]) (hbool : P.underlying tb = some .bool) (hl : laidOutB P = true)
  (hr : f.params.toList.all (fun t => P.readableRec t && decide (t < P.types.size)) = true) (hW : DataW.Whole enc P f.params.toList s.vars false W args.toList ds gs before)
  (hs : (s.fn H (ds ++ gs)).results = [.lit (.bool true)] ∧ (s.fn H (ds ++ gs)).args = ds ∧ (s.fn H (ds ++ gs)).vars = []) (hb : Below W.heap.size W W') : s.post enc P f false true false false W args (.bool true) W' := by
 have hlt := hW.lt
 obtain ⟨p, q, hA, hV, rfl, hfz, hnd⟩ := hW
 have hV' := hV
 rw [hv] at hV'
 obtain ⟨rfl, rfl⟩ := trodVars_none hV'
 refine ⟨ds, [], p ++ [], [], p, [], ⟨p, [], hA, hV, rfl, hfz, hnd⟩, ?_, ?_, ?_, hb.frame _, fun h => by cases h⟩
 ·rw [hs.1, hres]
  exact trodAll_mk1 (shut_bool hbool true)
 ·rw [hs.2.1]
  exact Z20 hl hb hr hA fun x hx => hlt x (by simpa using hx)
 ·rw [hs.2.2, hv]
  rfl
end
end Go.Proofs.YtgigjkjdmalmaaaGreat
namespace Go.Proofs.YtgigjkjdmalmaaaGreat
open Go.RowKit
structure Z1Q where
 l : List UInt8
 len : l.length = 32
 deriving DecidableEq
def hc (h : Z1Q) : List Value := (List.range 32).map fun i => Z1g (h.l.getD i 0)
theorem Z3L (h : Z1Q) : hc h = h.l.map Z1g := by
 unfold hc
 refine List.ext_getElem (by simp [h.len]) fun i h1 h2 => ?_
 simp only [List.length_map] at h2
 simp [List.getD, List.getElem?_eq_getElem h2]
@[simp] theorem Z3M (h : Z1Q) : (hc h).length = 32 := by simp [hc]
def Z5h (h : Z1Q) : Value := .agg ⟨hc h⟩
def Za : Z1Q := ⟨List.replicate 32 0, by simp⟩
def hash1 (x : UInt8) : Z1Q := ⟨x :: List.replicate 31 0, by simp⟩
theorem Z2h (w : World) (d : Nat) (a b : Z1Q) : (Op.equalIn (d + 2) 40 (Z5h a) (Z5h b)).run Tryz.prog w = .ok (decide (a = b)) w := by
 have := run_equalIn_bytes (P := Tryz.prog) w d 40 5 32 (by kernel_rfl) (by kernel_rfl) (fun w => by kernel_rfl) a.l b.l a.len b.len
 unfold Z5h
 rw [Z3L, Z3L]
 refine Eq.trans this ?_
 congr 1
 rw [Bool.eq_iff_iff]
 simp only [beq_iff_eq, decide_eq_true_eq]
 obtain ⟨a, ha⟩ := a
 obtain ⟨b, hb⟩ := b
 simp
theorem Z5S {n : Nat} {f : Nat → Value} {w : World} {dst : Option Tmp} {ty : TypeId} {pos : String} {aft : Array Edge} {gd : Option (Nat × Bool)} {x y : Operand} {T : TypeId} (a b : Z1Q) (hx : ev n f x = .agg ⟨hc a⟩) (hy : ev n f y = .agg ⟨hc b⟩) :
  (execOp (ev n f) ⟨dst, .binOp .neq 40 x y T, ty, pos, aft, gd⟩).run Tryz.prog w = .ok (.value (.bool (!decide (a = b)))) w := by
 have h := Z2h w 9998 a b
 unfold Z5h at h
 simp only [execOp, hx, hy]
 simp only [Sem.run_bind, run_eqGuard_agg w _ _ _ _ _ _ (show Tryz.prog.eqGuardType Tryz.prog.depth 40 = false by kernel_rfl), Result.andThen_ok, run_neq_struct, h, Sem.run_pure]
def Z33 (P : Program) (w : World) (d : Nat) (X Y : Array Value) : List Field → List Bool → Prop
 | [], [] => True
 | f :: fs, r :: rs => (f.name ≠ "_" ∧ ∃ a b, (part f.type X f.offset).run P w = .ok a w ∧ (part f.type Y f.offset).run P w = .ok b w ∧ (Op.equalIn d f.type a b).run P w = .ok r w) ∧ Z33 P w d X Y fs rs
 | _, _ => False
theorem Z2f {P : Program} {w : World} {d : Nat} {X Y : Array Value} : ∀ (fs : List Field) (rs : List Bool), Z33 P w d X Y fs rs → (Op.eqFields d X Y fs).run P w = .ok (rs.all id) w
 | [], [], _ => by simp [Op.eqFields]
 | f :: fs, r :: rs, h => by
  obtain ⟨⟨hn, a, b, ha, hb, hr⟩, h2⟩ := h
  have ih := Z2f fs rs h2
  simp only [Op.eqFields, hn, ne_eq, not_false_eq_true, if_true, Sem.run_bind, ha, hb, hr, Result.andThen_ok]
  cases r
  ·simp
  ·simp [ih]
 | [], _ :: _, h => h.elim
 | _ :: _, [], h => h.elim
theorem Z1e {P : Program} {w : World} {d : Nat} {X Y : Array Value} {t : TypeId} (fs : List Field) (rs : List Bool) (ht : P.underlying t = some (.struct ⟨fs⟩)) (hp : P.stoodInHeld t = false) (h : Z33 P w d X Y fs rs) :
  (Op.equalIn (d + 1) t (.agg X) (.agg Y)).run P w = .ok (rs.all id) w := by
 have hf : P.fieldsOf t = ⟨fs⟩ := by simp [Program.fieldsOf, ht]
 rw [run_equalIn_struct w d t X Y (by rw [hf]; exact ht) hp, hf]
 exact Z2f fs rs h
end Go.Proofs.YtgigjkjdmalmaaaGreat
namespace Go.Proofs.YtgigjkjdmalmaaaGreat
open Go.ChangeShapes Go.WideShapes Go.ChangeAt Go.RowKit Go.Deep
section
variable {H : Type} {enc : TypeId × Value → H} {W : World}
end
end Go.Proofs.YtgigjkjdmalmaaaGreat
namespace Go.Proofs.YtgigjkjdmalmaaaGreat
open Go.RowKit
def encW (v : Value) : List Value := [v]
theorem Z5V (v : Value) : (encW v).length = 1 := rfl
section
variable {w w' w0 : World} {v : Value} {s : List UInt8} {vs : List Value} {ss : List (List UInt8)} {G : List Ck}
structure Parts (w : World) (vs : List Value) (ss : List (List UInt8)) : Prop where
 len : vs.length = ss.length
 get : ∀ i, i < vs.length → ListAt Zo 1 w (vs.getD i undef) (ss.getD i [])
theorem Parts.nil : Parts w [] [] := ⟨rfl, fun i h => by simp at h⟩
theorem Parts.cons (h : ListAt Zo 1 w v s) (t : Parts w vs ss) : Parts w (v :: vs) (s :: ss) := ⟨by simp [t.len], fun i hi => by
 cases i with
 | zero => exact h
 | succ i => exact t.get i (by simpa using hi)⟩
theorem Z3J (ss : List (List UInt8)) {i : Nat} (h : i < ss.length) : (ss.take (i + 1)).flatten = (ss.take i).flatten ++ ss.getD i [] := by
 rw [List.take_add_one, List.getElem?_eq_getElem h, List.flatten_append, List.getD_eq_getElem?_getD, List.getElem?_eq_getElem h]
 simp
theorem Z5c (ss : List (List UInt8)) {i : Nat} (h : i < ss.length) : (ss.take i).flatten.length + (ss.getD i []).length ≤ ss.flatten.length := by
 have h1 := congrArg List.length (Z3J ss h)
 have h2 : ss.flatten = (ss.take (i + 1)).flatten ++ (ss.drop (i + 1)).flatten := by rw [← List.flatten_append, List.take_append_drop]
 rw [List.length_append] at h1
 rw [h2, List.length_append]; omega
def ZJ (v : Value) (s : List UInt8) : Ck where
 fp b := 0 < s.length ∧ v.ownBlock = some b
 ok w := BytesAt w v s
 stay {w w'} h hb := by
  rcases h with h | ⟨h0, b, off, cap, rfl, hn, h⟩
  ·exact .inl h
  ·refine .inr ⟨h0, b, off, cap, rfl, hn, fun i hi => ?_⟩
   have := h i hi
   unfold Z3v World.cell? at this ⊢
   rw [hb b ⟨h0, rfl⟩]; exact this
 lt {w} h b hb := by
  obtain ⟨h0, hb⟩ := hb
  obtain ⟨b', off, cap, rfl, _, h⟩ := SliceOf.some h h0
  have := h 0 h0
  simp only [Value.ownBlock, Option.some.injEq] at hb
  subst hb
  unfold Z3v World.cell? at this
  by_cases hl : b' < w.heap.size
  ·exact hl
  ·rw [Array.getElem?_eq_none (show w.heap.size ≤ b' by omega)] at this; simp at this
theorem ListAt.ofTxt (h : (ZJ v s).ok w) : ListAt Zo 1 w v s := Z2R h
theorem ListAt.ofHash {x : Z1Q} {b o c : Nat} (h : Z1t w ⟨b, o, none⟩ (hc x)) (hc' : 32 ≤ c ∧ c ≤ maxLen) : ListAt Zo 1 w (.slice (some ⟨b, o, none⟩) 32 c) x.l := by
 refine Z2R (.inr ⟨by rw [x.len]; decide, b, o, c, by rw [x.len], by rw [x.len]; exact hc', fun i hi => ?_⟩)
 have := h i (Z1g x.l[i]) (by rw [Z3L, List.getElem?_map, List.getElem?_eq_getElem hi]; rfl)
 rw [Addr.add_lit] at this
 unfold Z3v; rw [Nat.mul_one]; exact this
theorem Z3y {w : World} {b T o : Nat} {cs us : List Value} (h : (Z6 b T cs).ok w) (hu : (cs.drop o).take us.length = us) : Z1t w ⟨b, o, none⟩ us := by
 intro j v hj
 rw [Addr.add_lit, Z0v h]
 rw [← hu, List.getElem?_take] at hj
 split at hj
 ·rw [List.getElem?_drop] at hj; simpa using hj
 ·cases hj
theorem Sat.offP {A : Ck} {B : List Ck} (H : Sat w0 G w) (is : List Nat) (t : Nat) (hB : (is.filterMap fun i => G[i]?) = B) (ht : G[t]? = some A) (hne : is.all (fun i => !Nat.beq t i) = true) {b : Nat} (hb : A.fp b) : ¬ (ZF B).fp b := by
 rintro ⟨C, hC, hfp⟩
 rw [← hB] at hC
 obtain ⟨i, him, hiC⟩ := List.mem_filterMap.1 hC
 have := List.all_eq_true.1 hne i him
 exact H.apart t i ht hiC (by simpa using this) b hb hfp
theorem Z28 {B : List Ck} {n c : Nat} {a : Option Addr} (h : ∀ b, (ZJ (.slice a n c) s).fp b → ¬ (ZF B).fp b) : 0 < s.length → ∀ ad, a = some ad → ¬ (ZF B).fp ad.block := fun h0 ad ha => h _ ⟨h0, by subst ha; rfl⟩
end
section
variable {P : Program} {n : Nat} {f : Nat → Value} {w w0 : World} {dst : Option Tmp} {ty : TypeId} {pos : String} {aft : Array Edge} {gd : Option (Nat × Bool)} {K : Act → World → Prop} {Q : Exit → Act → World → Prop} {G : List Ck}
theorem Z0H {S e : TypeId} {x : Operand} {d : Nat} {s : List UInt8} {g c : Nat} (hd : dst = some d) (H : Sat w0 G w) (i : Nat) (hi : G[i]? = some (Ze e 1 (.slice (some ⟨g, 0, none⟩) s.length c) s.length (s.flatMap Zo))) (hS : P.underlying S = some (.slice e)) (he : P.underlying e = some (.int .u8)) (hx : ev n f x = .slice (some ⟨g, 0, none⟩) s.length c)
  (kk : ∀ w', Sat w0 (G.set i (ZJ (.slice (some ⟨g, 0, none⟩) s.length c) s)) w' → K (fr n (upd f d (.slice (some ⟨g, 0, none⟩) s.length c))) w') : WO P ⟨dst, .convert S S x, ty, pos, aft, gd⟩ K Q n f w := by
 have hok := H.at i hi
 have hL := ListAt.row (enc := Zo) (sz := 1) (xs := s) ZR (by decide) hok
 rcases hok.2 with ⟨hv, _⟩ | ⟨g', cap, cur, hv, _, hgg, hcap, hm, hcs, htake⟩
 ·simp at hv
 simp only [Value.slice.injEq, Option.some.injEq, Addr.mk.injEq] at hv
 obtain ⟨⟨rfl, _⟩, _, rfl⟩ := hv
 have hsh : w.shape? g = some (e, cur.size) := by unfold World.shape?; rw [hgg]
 have hlt := Z12 hgg
 have hr : (convert S S (.slice (some ⟨g, 0, none⟩) s.length c)).run P w = .ok (.slice (some ⟨g, 0, none⟩) s.length c) (w.freeze ⟨g, cur.size, none⟩ 1) := by
  simp [convert, run_underlying hS, run_underlying he, markStringish, hsh]
 have hh : (w.freeze ⟨g, cur.size, none⟩ 1).heap = w.heap.modify g fun
   | .cells c elem (lo, hi) => .cells c elem (if lo == hi then (cur.size, cur.size + 1) else (min lo cur.size, max hi (cur.size + 1)))
   | o => o := by unfold World.freeze; rw [if_neg (by decide)]; rfl
 have hne : ∀ b, b ≠ g → (w.freeze ⟨g, cur.size, none⟩ 1).heap[b]? = w.heap[b]? := fun b hb => by
  rw [hh, Array.getElem?_modify, if_neg (fun h => hb h.symm)]
 have hcell : ∀ p, (w.freeze ⟨g, cur.size, none⟩ 1).cell? p = w.cell? p := fun p => by
  unfold World.cell?
  by_cases hb : p.block = g
  ·rw [hb, hh, Array.getElem?_modify, if_pos rfl, hgg]; rfl
  ·rw [hne _ hb]
 refine Z22 hd (w' := w.freeze ⟨g, cur.size, none⟩ 1) (by simp [execOp, hx, hr, Result.andThen]) (kk _ (H.set i hi ⟨by unfold World.freeze; rw [if_neg (by decide)], by unfold World.freeze; rw [if_neg (by decide)], by unfold World.freeze; rw [if_neg (by decide)], by rw [hh]; simp⟩ (fun b _ hb => hne b fun h => hb (by subst h; rfl)) ?_ (fun b hb => .inl ?_)))
 ·exact Z1i (hL.mono fun p x hx => by rw [hcell]; exact hx)
 ·obtain ⟨_, hb⟩ := hb
  exact hb
end
structure Z0T where
 r : Int
 cl : Int
 seq : Int
 h : Z1Q
 t : Int
 sb : Int
 sm : Int
structure Z0 where
 cl : Int
 seq : Int
 h : Z1Q
 len : Int
 sb : Int
 sm : Int
def Z0s (s : Z0T) : List Value := [.int .i64 s.r, .int .i64 s.cl, .int .i64 s.seq] ++ hc s.h ++ [.int .u64 s.t, .int .i64 s.sb, .int .i64 s.sm]
theorem Z5a (s : Z0T) : (Z0s s).length = 38 := by simp [Z0s]
theorem Z5b (s : Z0T) : (Z0s s).all (·.oneCell') = true := by
 simp only [Z0s, List.all_append, Z3L]
 simp [Value.oneCell', Z1g]
def Z0V : Z0T := ⟨0, 0, 0, Za, 0, 0, 0⟩
def Z2A (s : Z0) : List Value := [.int .i64 s.cl, .int .i64 s.seq] ++ hc s.h ++ [.int .i64 s.len, .int .i64 s.sb, .int .i64 s.sm]
def Zp (n : Int) : List UInt8 := Z1K (max 0 n).toNat
def Zw (s : List UInt8) : List UInt8 := Z1K s.length ++ s
def nameB (a b : Int) : List UInt8 := [Zp a, Zp b].flatten
def Z5O (s : Z0T) : List UInt8 := [Zp s.r, nameB s.cl s.seq, s.h.l, Z1K s.t.toNat].flatten
def Z5D (s : Z0T) : List UInt8 := [Zw [115, 116, 97, 109, 112], Z5O s].flatten
def Z2 (s : Z0) : List UInt8 := [Zw [114, 101, 113, 117, 101, 115, 116], Zp s.cl, Zp s.seq, s.h.l, Zp s.len].flatten
theorem Z6j (n : Nat) : (Z1K n).length ≤ 10 := Z4H 10 n
theorem Z0a (n : Int) : (Zp n).length ≤ 10 := Z4H 10 _
theorem Z0B (s : List UInt8) : (Zw s).length ≤ 10 + s.length := by
 have := Z6j s.length
 simp only [Zw, List.length_append]; omega
end Go.Proofs.YtgigjkjdmalmaaaGreat
