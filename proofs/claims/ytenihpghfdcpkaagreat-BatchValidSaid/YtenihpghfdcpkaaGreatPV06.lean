/- WHAT IS PROVED: contracts and plain laws of Ins, ListAt, BytesD, Bits, VarB, Reg, Frame, FrameHash, TxtD. Conditions: stated with each. -/
import Derived.Lib.BitFns
import Derived.Lib.ItoaNum
import Derived.ProofKit
import Derived.OpenShut
import Derived.JoinedCond
import Derived.Deep.Slices
import Derived.Laws.IdiomStrings
import Derived.Test.YtenihpghfdcpkaaGreatPV00
import Derived.Test.YtenihpghfdcpkaaGreatPV02
import Derived.Test.YtenihpghfdcpkaaGreatPV03
import Derived.Test.YtenihpghfdcpkaaGreatPV04
import Derived.Test.YtenihpghfdcpkaaGreatPV05
set_option maxHeartbeats 4000000
set_option maxRecDepth 100000
namespace Go.Proofs.YtenihpghfdcpkaaGreat
open Go.RowKit
section
variable {α : Type} {w W : World} {v : Value} {b o q : Nat}
theorem Z0f {vs : List Value} (h : Z49 w ⟨b, o, none⟩ vs) (d : Nat) {u : Value} (hu : vs[d]? = some u) (hq : q = o + d) : w.cell? ⟨b, q, none⟩ = some u := by
 have := h d u hu
 rw [Addr.add_lit] at this
 rw [hq]; exact this
theorem Z08 {vs us : List Value} (h : Z49 w ⟨b, o, none⟩ vs) (d : Nat) (hu : (vs.drop d).take us.length = us) (hq : q = o + d) : Z49 w ⟨b, q, none⟩ us := by
 intro j u hj
 have hl : j < us.length := (List.getElem?_eq_some_iff.1 hj).1
 rw [Addr.add_lit]
 refine Z0f h (d + j) ?_ (by omega)
 rw [← hu, List.getElem?_take, if_pos hl, List.getElem?_drop] at hj
 exact hj
theorem Sat.runR {w0 : World} {G : List Ck} {D : Nat → Prop} (H : Sat w0 G w) (i : Nat) (hi : G[i]? = some (ZQ W D)) {vs : List Value} (h : Z49 W ⟨b, o, none⟩ vs) (hD : ¬ D b) : Z49 w ⟨b, o, none⟩ vs := fun j u hj => by
 have := h j u hj
 rw [Addr.add_lit] at this ⊢
 exact H.cellR i hi this hD
theorem IntsAt.atD {s : List Int} (h : IntsAt w v s) {i : Nat} (hi : i < s.length) : ∃ b o cap, v = .slice (Option.some ⟨b, o, none⟩) s.length cap ∧ Z49 w ⟨b, o + i * 1, none⟩ [i6 (s.getD i 0)] := by
 obtain ⟨b, o, cap, e, _, h⟩ := h.some (by omega)
 refine ⟨b, o, cap, e, fun j u hj => ?_⟩
 match j, hj with
 | 0, hj =>
  simp only [List.getElem?_cons_zero, Option.some.injEq] at hj
  subst hj
  rw [Addr.add_lit]
  simpa using h i hi
theorem SliceOf.atD {L : α → List Value} {sz : Nat} {s : List α} (h : SliceOf (fun w a x => Z49 w a (L x)) sz w v s) (d : α) {i : Nat} (hi : i < s.length) : ∃ b o cap, v = .slice (Option.some ⟨b, o, none⟩) s.length cap ∧ Z49 w ⟨b, o + i * sz, none⟩ (L (s.getD i d)) := by
 obtain ⟨b, o, cap, e, _, h⟩ := SliceOf.some h (by omega)
 refine ⟨b, o, cap, e, ?_⟩
 have := h i hi
 rwa [show s.getD i d = s[i] by simp [List.getD, List.getElem?_eq_getElem hi]]
end
section
variable {P : Program} {n : Nat} {f : Nat → Value} {w : World} {dst : Option Tmp} {ty : TypeId} {pos : String} {aft : Array Edge} {gd : Option (Nat × Bool)}
theorem Z8 {T E : TypeId} {x y : Operand} {v : Value} {b o len cap sz : Nat} {k : IntKind} {z : Int} (hT : P.underlying T = some (.slice E)) (hs : P.cellsOf E = sz) (h0 : 0 < sz) (hx : ev n f x = v) (hv : v = .slice (some ⟨b, o, none⟩) len cap) (hy : ev n f y = .int k z) (h1 : 0 ≤ z) (h2 : z < len) :
  (execOp (ev n f) ⟨dst, .indexAddr T x y, ty, pos, aft, gd⟩).run P w = .ok (.value (.pointer (some ⟨b, o + z.toNat * sz, none⟩))) w :=
 Z0k hT hs h0 (hx.trans hv) hy h1 h2
end
def ListAt {α : Type} (enc : α → List Value) (sz : Nat) (w : World) (v : Value) (xs : List α) : Prop := SliceOf (fun w a x => Z49 w a (enc x)) sz w v xs
section
variable {α : Type} {enc : α → List Value} {sz : Nat} {w w' W : World} {v : Value} {xs : List α}
theorem Z7u {a : Addr} {vs : List Value} (h : Z49 w a vs) (hc : ∀ p x, w.cell? p = some x → w'.cell? p = some x) : Z49 w' a vs := fun j u hj => hc _ _ (h j u hj)
theorem ListAt.mono (h : ListAt enc sz w v xs) (hc : ∀ p x, w.cell? p = some x → w'.cell? p = some x) : ListAt enc sz w' v xs := SliceOf.mono h fun _ _ hx => Z7u hx hc
theorem ListAt.now {G : List Ck} {w0 : World} (H : Sat w0 G w) (j : Nat) (hj : G[j]? = Option.some (ZQ W fun _ => False)) (hv : ListAt enc sz W v xs) : ListAt enc sz w v xs :=
 SliceOf.mono hv fun _ _ hx => Z7u hx fun _ _ h => H.cellR j hj h (fun h => h)
theorem ListAt.nil : ListAt enc sz w (.slice none 0 0) ([] : List α) := SliceOf.nil
theorem ListAt.row {e n : Nat} (hs : ∀ x, (enc x).length = sz) (h0 : 0 < sz) (h : (Zo e sz v n (xs.flatMap enc)).ok w) : ListAt enc sz w v xs := by
 have hl : xs.length = n := by
  have := h.1
  rw [Z2i enc sz hs] at this
  exact Nat.eq_of_mul_eq_mul_right h0 this
 subst hl
 rcases h.2 with ⟨rfl, hn⟩ | ⟨g, cap, cur, rfl, hb, hgg, hc, hm, hcs, htake⟩
 ·obtain rfl := List.eq_nil_of_length_eq_zero hn
  exact SliceOf.nil
 ·by_cases hz : xs.length = 0
  ·obtain rfl := List.eq_nil_of_length_eq_zero hz
   exact .inl ⟨_, cap, rfl, rfl, hm, by simp⟩
  ·refine .inr ⟨by omega, g, 0, cap, rfl, ⟨hc, hm⟩, fun i hi j u hj => ?_⟩
   have hjl : j < sz := by rw [← hs xs[i]]; exact (List.getElem?_eq_some_iff.1 hj).1
   rw [Addr.add_lit]
   refine Z5c (k := xs.length) (c := cap) h rfl ?_
   rw [Nat.zero_add, Z55 enc sz hs xs i j xs[i] (List.getElem?_eq_getElem hi) hjl]
   exact hj
theorem ListAt.take {a : Option Addr} {n c k : Nat} (h : ListAt enc sz w (.slice a n c) xs) (hk : k ≤ n) : ListAt enc sz w (.slice a k c) (xs.take k) := by
 rcases h with ⟨a', c', e, rfl, hc, ha⟩ | ⟨h0, b, o, c', e, ⟨h1, h2⟩, h⟩
 ·simp only [Value.slice.injEq] at e
  obtain ⟨rfl, rfl, rfl⟩ := e
  obtain rfl : k = 0 := by omega
  exact .inl ⟨_, _, rfl, by simp, hc, ha⟩
 ·simp only [Value.slice.injEq] at e
  obtain ⟨rfl, rfl, rfl⟩ := e
  have hl : (xs.take k).length = k := by rw [List.length_take]; omega
  by_cases hz : k = 0
  ·subst hz; exact .inl ⟨_, _, rfl, by simp, h2, by simp⟩
  ·refine .inr ⟨by omega, b, o, _, by rw [hl], ⟨by omega, h2⟩, fun i hi => ?_⟩
   rw [List.getElem_take]
   exact h i (by rw [hl] at hi; omega)
theorem ListAt.drop {b o n c k : Nat} (h : ListAt enc sz w (.slice (some ⟨b, o, none⟩) n c) xs) (hk : k ≤ n) : ListAt enc sz w (.slice (some (if c = k then ⟨b, o, none⟩ else ⟨b, o + k * sz, none⟩)) (n - k) (c - k)) (xs.drop k) := by
 rcases h with ⟨a', c', e, rfl, hc, ha⟩ | ⟨h0, b', o', c', e, ⟨h1, h2⟩, h⟩
 ·simp only [Value.slice.injEq] at e
  obtain ⟨rfl, rfl, rfl⟩ := e
  obtain rfl : k = 0 := by omega
  exact .inl ⟨_, _, rfl, by simp, by omega, by simp⟩
 ·simp only [Value.slice.injEq, Option.some.injEq, Addr.mk.injEq] at e
  obtain ⟨⟨rfl, rfl, _⟩, rfl, rfl⟩ := e
  have hl : (xs.drop k).length = xs.length - k := List.length_drop
  by_cases hz : k = xs.length
  ·subst hz; exact .inl ⟨_, c - xs.length, by rw [Nat.sub_self], by simp, by omega, fun h => by cases h⟩
  ·refine .inr ⟨by omega, b, o + k * sz, c - k, by rw [hl, if_neg (by omega)], ⟨by rw [hl]; omega, by omega⟩, fun i hi => ?_⟩
   rw [List.getElem_drop]
   have := h (k + i) (by rw [hl] at hi; omega)
   rwa [show o + k * sz + i * sz = o + (k + i) * sz by rw [Nat.add_mul]; omega]
theorem ListAt.cap {a : Option Addr} {n c : Nat} (h : ListAt enc sz w (.slice a n c) xs) : n ≤ c := by
 rcases h with ⟨a', c', e, rfl, hc, ha⟩ | ⟨h0, b, o, c', e, ⟨h1, h2⟩, h⟩
 ·simp only [Value.slice.injEq] at e
  obtain ⟨rfl, rfl, rfl⟩ := e
  omega
 ·simp only [Value.slice.injEq] at e
  obtain ⟨rfl, rfl, rfl⟩ := e
  exact h1
theorem ListAt.len (h : ListAt enc sz w v xs) : ∃ a c, v = .slice a xs.length c := SliceOf.len h
theorem ListAt.cells (hs : ∀ x, (enc x).length = sz) (h0 : 0 < sz) (h : ListAt enc sz w v xs) (hp : 0 < xs.length) : ∃ b o c, v = .slice (some ⟨b, o, none⟩) xs.length c ∧ ∀ j u, (xs.flatMap enc)[j]? = some u → w.cell? ((⟨b, o, none⟩ : Addr).add j) = some u := by
 obtain ⟨b, o, c, e, _, h⟩ := SliceOf.some h hp
 refine ⟨b, o, c, e, fun j u hj => ?_⟩
 have hjl : j < xs.length * sz := by rw [← Z2i enc sz hs]; exact (List.getElem?_eq_some_iff.1 hj).1
 have hi : j / sz < xs.length := Nat.div_lt_of_lt_mul (by rwa [Nat.mul_comm])
 have hd : j = j / sz * sz + j % sz := by have := Nat.div_add_mod j sz; rw [Nat.mul_comm] at this; omega
 have := Z55 enc sz hs xs (j / sz) (j % sz) xs[j / sz] (List.getElem?_eq_getElem hi) (Nat.mod_lt _ h0)
 rw [← hd, hj] at this
 have hc := h (j / sz) hi (j % sz) u this.symm
 rw [Addr.add_lit] at hc ⊢
 rwa [hd, ← Nat.add_assoc]
end
section
variable {P : Program} {n : Nat} {f : Nat → Value} {w w' : World} {dst : Option Tmp} {ty : TypeId} {pos : String} {aft : Array Edge} {gd : Option (Nat × Bool)} {w0 : World} {G : List Ck} {K : Act → World → Prop} {Q : Exit → Act → World → Prop}
variable {α : Type} {enc : α → List Value}
theorem Z52 {T e : TypeId} {size bytes : Nat} (hR : Z5C P T e size bytes = true) (hs : ∀ x, (enc x).length = size) (h1 : ∀ x, (enc x).all (·.oneCell') = true) {v u : Value} {k : Nat} {xs : List Value} {ys : List α} (hv : w.ownsRow 0 e size v k xs) (hu : ListAt enc size w u ys) (hb : (k + ys.length) * bytes ≤ 140737488355328) (h63 : k + ys.length ≤ 140737488355328) :
  ∃ v' w', (Builtin.append_ #[T, T] ty #[v, u]).run P w = .ok v' w' ∧ w'.ownsRow 0 e size v' (k + ys.length) (xs ++ ys.flatMap enc) ∧ w.grownBy w' v.ownBlock ∧ ∀ b, v'.ownBlock = some b → v.ownBlock = some b ∨ w.heap.size ≤ b := by
 obtain ⟨i, z, ht, hi, hz, hsz, hby, hzs, h0⟩ := Z5r hR
 have own := fun (a : Addr) (m c : Nat) (news : LV) => Z7z (P := P) (ty := ty) w 0 T e i z size bytes ht hi hz hsz hby hzs h0 v k xs hv a m c news
 by_cases hp : 0 < ys.length
 ·obtain ⟨b, o, c, rfl, hc⟩ := hu.cells hs h0 hp
  exact own ⟨b, o, none⟩ ys.length c (ys.flatMap enc) (Z2i enc size hs ys) hc (fun x hx => List.all_eq_true.1 (Z0q enc h1 ys) x hx) (by unfold maxLen; omega) hb (Nat.zero_le _)
 ·obtain rfl : ys = [] := List.eq_nil_of_length_eq_zero (by omega)
  rcases hu with ⟨a, c, rfl, _, hc, ha⟩ | ⟨h, _⟩
  ·cases a with
   | none =>
    obtain rfl := ha rfl
    exact ⟨v, w, Z6d w T ty e i ht hi hv, by simpa using hv, ⟨rfl, rfl, rfl, Nat.le_refl _, fun _ _ _ => rfl⟩, fun b h => .inl h⟩
   | some ad =>
    have := own ad 0 c [] (by simp) (by simp) (by simp) (by simp at h63; unfold maxLen; omega) (by simpa using hb) (Nat.zero_le _)
    simpa using this
  ·simp at h
theorem Z4q {T e : TypeId} {size bytes : Nat} {x y : Operand} {d : Nat} (hd : dst = some d) (H : Sat w0 G w) (hR : Z5C P T e size bytes = true) (hs : ∀ x, (enc x).length = size) (h1 : ∀ x, (enc x).all (·.oneCell') = true) (i : Nat) {v u : Value} {k : Nat} {xs : List Value} {ys : List α} (hi : G[i]? = some (Zo e size v k xs)) (hu : ListAt enc size w u ys)
  (hx : ev n f x = v) (hy : ev n f y = u) (hb : (k + ys.length) * bytes ≤ 140737488355328) (h63 : k + ys.length ≤ 140737488355328)
  (kk : ∀ v' w', Sat w0 (G.set i (Zo e size v' (k + ys.length) (xs ++ ys.flatMap enc))) w' → K (fr n (upd f d v')) w') : WO P ⟨dst, .call { callee := .builtin .append, args := #[x, y], argTypes := #[T, T] }, ty, pos, aft, gd⟩ K Q n f w := by
 obtain ⟨v', w', hr, ho, hg, hn⟩ := Z52 (ty := ty) hR hs h1 (H.at i hi) hu hb h63
 exact Z4p hd (Z58 hx hy hr) (kk v' w' (H.set i hi (Z4j hg) (fun b hb hne => hg.block b hb fun e => hne e.symm) ho hn))
theorem Z5U {T e : TypeId} {size bytes : Nat} {x y : Operand} {d : Nat} (hd : dst = some d) (H : Sat w0 G w) (hR : Z5C P T e size bytes = true) (hs : ∀ x, (enc x).length = size) (h1 : ∀ x, (enc x).all (·.oneCell') = true) {u : Value} {ys : List α} (hu : ListAt enc size w u ys)
  (hx : ev n f x = .slice none 0 0) (hy : ev n f y = u) (hb : ys.length * bytes ≤ 140737488355328) (h63 : ys.length ≤ 140737488355328)
  (kk : ∀ v' w', Sat w0 (G ++ [Zo e size v' ys.length (ys.flatMap enc)]) w' → K (fr n (upd f d v')) w') : WO P ⟨dst, .call { callee := .builtin .append, args := #[x, y], argTypes := #[T, T] }, ty, pos, aft, gd⟩ K Q n f w := by
 obtain ⟨v', w', hr, ho, hg, hn⟩ := Z52 (ty := ty) hR hs h1 (World.ownsRow_nil w 0 e size) hu (by simpa using hb) (by simpa using h63)
 simp only [Nat.zero_add, List.nil_append] at ho
 refine Z4p hd (Z58 hx hy hr) (kk v' w' (H.add (Z4j hg) (fun b hb => hg.block b hb (by simp [Value.ownBlock])) ho fun b hb => ?_))
 rcases hn b hb with h | h
 ·simp [Value.ownBlock] at h
 ·exact h
end
def Zx (c : UInt8) : List Value := [Z51 c]
theorem Zw (x : UInt8) : (Zx x).length = 1 := rfl
theorem Z1c (x : UInt8) : (Zx x).all (·.oneCell') = true := rfl
theorem Z25 {w : World} {v : Value} {s : List UInt8} (h : ListAt Zx 1 w v s) : BytesAt w v s := by
 rcases h with h | ⟨h0, b', o, c', e, hc, h⟩
 ·exact .inl h
 ·exact .inr ⟨h0, b', o, c', e, hc, fun i hi => by have := h i hi 0 (Z51 s[i]) rfl; rw [Addr.add_lit] at this; exact this⟩
theorem Z7p {w : World} {v : Value} {s : List UInt8} (h : BytesAt w v s) : ListAt Zx 1 w v s := by
 rcases h with h | ⟨h0, b', o, c', e, hc, h⟩
 ·exact .inl h
 ·refine .inr ⟨h0, b', o, c', e, hc, fun i hi j u hj => ?_⟩
  match j, hj with
  | 0, hj =>
   simp only [Zx, List.getElem?_cons_zero, Option.some.injEq] at hj
   subst hj
   rw [Addr.add_lit]; exact h i hi
  | _ + 1, hj => simp [Zx] at hj
def Z0P (k : IntKind) (a b : Int) : Int := k.wrap ((BitVec.ofInt k.bits a &&& BitVec.ofInt k.bits b).toNat : Int)
def bOr (k : IntKind) (a b : Int) : Int := k.wrap ((BitVec.ofInt k.bits a ||| BitVec.ofInt k.bits b).toNat : Int)
def Z03 (k : IntKind) (a b : Int) : Int := k.wrap ((BitVec.ofInt k.bits a ^^^ BitVec.ofInt k.bits b).toNat : Int)
def Z2A (k : IntKind) (a : Int) (m : Int) : Int := k.wrap (a * 2 ^ (min m.toNat k.bits))
theorem Z1h {z : Int} (h : 0 ≤ z ∧ z < 18446744073709551616) : IntKind.u64.wrap z = z := by
 simp [IntKind.wrap, IntKind.signed, IntKind.bits]; omega
theorem Z6n {z : Int} (h : 0 ≤ z ∧ z < 256) : IntKind.u8.wrap z = z := by
 simp [IntKind.wrap, IntKind.signed, IntKind.bits]; omega
section
variable {P : Program} {n : Nat} {f : Nat → Value} {w : World} {dst : Option Tmp} {ty : TypeId} {pos : String} {aft : Array Edge} {gd : Option (Nat × Bool)}
theorem Z5b {k yk : IntKind} {x y : Operand} {t T : TypeId} {a m D : Int} (hx : ev n f x = .int k a) (hy : ev n f y = .int yk m) (hm : 0 ≤ m) (hD : (2 : Int) ^ (min m.toNat k.bits) = D) (h0 : 0 ≤ D) :
  (execOp (ev n f) ⟨dst, .binOp .shr t x y T, ty, pos, aft, gd⟩).run P w = .ok (.value (.int k (a / D))) w := by
 have hm' : ¬ m < 0 := by omega
 simp only [execOp, hx, hy, binOp, Op.shift]
 simp [hm', eqGuard, hD, Int.fdiv_eq_ediv_of_nonneg _ h0]
theorem Z7a {k yk : IntKind} {x y : Operand} {t T : TypeId} {a m : Int} (hx : ev n f x = .int k a) (hy : ev n f y = .int yk m) (hm : 0 ≤ m) :
  (execOp (ev n f) ⟨dst, .binOp .shl t x y T, ty, pos, aft, gd⟩).run P w = .ok (.value (.int k (Z2A k a m))) w := by
 have hm' : ¬ m < 0 := by omega
 simp only [execOp, hx, hy, binOp, Op.shift, Z2A]
 simp [hm', eqGuard]
end
def Zav : Nat → Nat → List UInt8
 | 0, _ => []
 | f + 1, n => if n < 128 then [UInt8.ofNat n] else UInt8.ofNat (n % 128 + 128) :: Zav f (n / 128)
def Z1I (n : Nat) : List UInt8 := Zav 10 n
theorem Zaf (f n : Nat) : (Zav f n).length ≤ f := by
 induction f generalizing n with
 | zero => simp [Zav]
 | succ f ih => unfold Zav; split <;> simp; exact ih _
theorem Z33 {z : Int} (h : 0 ≤ z ∧ z < 256) : ([.int .u8 z] : LV) = [UInt8.ofNat z.toNat].flatMap Zx := by
 have : (UInt8.ofNat z.toNat).toNat = z.toNat := by simp; omega
 simp only [List.flatMap_cons, List.flatMap_nil, List.append_nil, Zx, Z51, this, Int.toNat_of_nonneg h.1]
theorem Z3X (z : Int) : IntKind.u8.wrap z = z % 256 := by
 simp [IntKind.wrap, IntKind.signed, IntKind.bits]
theorem Z9s {z : Int} (_h : 0 ≤ z) : bOr .u8 (z % 256) 128 = z % 128 + 128 := by
 have key : ∀ k : Fin 256, bOr .u8 ((k.val : Nat) : Int) 128 = (((k.val % 128 + 128 : Nat)) : Int) := by decide +kernel
 have hk : (z % 256).toNat < 256 := by omega
 have := key ⟨(z % 256).toNat, hk⟩
 simp only at this
 rw [Int.toNat_of_nonneg (by omega)] at this
 rw [this]; omega
structure Of (S : World → Prop) where
 w : World
 h : S w
theorem Calls.of {P : Program} {S : World → Prop} {f : FuncId} {args : Array Value} {w : World} {v : Value} {R : Ending → World → Prop}
  (h : Calls P f args w R) (hR : ∀ e w', R e w' → e = .returned v ∧ S w') : Calls P f args w fun e w'' => e = .returned v ∧ ∃ x : Of S, w'' = x.w :=
 h.mono fun e w' hr => ⟨(hR e w' hr).1, ⟨⟨w', (hR e w' hr).2⟩, rfl⟩⟩
end Go.Proofs.YtenihpghfdcpkaaGreat
namespace Go.Proofs.YtenihpghfdcpkaaGreat
open Go.ChangeShapes Go.WideShapes Go.ChangeAt Go.RowKit Go.Deep
section
variable {H : Type} {enc : TypeId × Value → H} {P : Program} {W : World}
theorem Z6l {α : Type} {p : Nat → α → Prop} : ∀ (n : Nat), (∀ i, i < n → ∃ x, p i x) → ∃ xs : List α, xs.length = n ∧ ∀ i (h : i < xs.length), p i xs[i]
 | 0, _ => ⟨[], rfl, fun i h => by simp at h⟩
 | k + 1, each => by
  obtain ⟨xs, h1, h2⟩ := Z6l k (fun i hi => each i (by omega))
  obtain ⟨x, hx⟩ := each k (by omega)
  refine ⟨xs ++ [x], by simp [h1], fun i hi => ?_⟩
  by_cases hik : i < xs.length
  ·rw [List.getElem_append_left hik]; exact h2 i hik
  ·have : i = k := by simp at hi; omega
   subst this
   rw [List.getElem_append_right (by omega)]
   simpa using hx
theorem Z3s {α : Type} {R : World → Addr → α → Prop} {t e : TypeId} {sz : Nat} (ht : P.underlying t = some (.slice e)) (hc : P.cellsOf e = sz) (hpos : 0 < sz) {v : Value} {d : DataW H} {ps : List MemPlace} (hv : ∃ a len cap, v = .slice a len cap)
  (h : DataW.Trod enc P W 0 (fun _ => true) true t v d ps)
  (hel : ∀ (cs : LV) (n : Nat) (y : DataW H × List MemPlace) (b off : Nat), cs.length = sz → (∀ j (hj : j < cs.length), W.cell? ⟨b, off + j, none⟩ = some cs[j]) → DataW.trod enc P W 0 (fun _ => true) true n e cs = some y → ∃ x, R W ⟨b, off, none⟩ x) :
  ∃ xs, SliceOf R sz W v xs := by
 obtain ⟨a, len, cap, rfl⟩ := hv
 obtain ⟨fuel, h⟩ := h
 rcases open_slice ht h with ⟨h0, _⟩ | ⟨ad, len', cap', m, n, D, Pl, h0, _, hl, hm, hmm, _, hx⟩
 ·simp only [Value.cells, List.cons.injEq, Value.slice.injEq, and_true] at h0
  obtain ⟨rfl, rfl, rfl⟩ := h0
  exact ⟨[], SliceOf.nil⟩
 ·simp only [Value.cells, List.cons.injEq, Value.slice.injEq, and_true] at h0
  obtain ⟨rfl, rfl, rfl⟩ := h0
  simp only [if_true] at hmm
  subst hmm
  rcases Nat.eq_zero_or_pos len with h0 | h0
  ·subst h0
   exact ⟨[], .inl ⟨_, _, rfl, rfl, hm, by simp⟩⟩
  ·rw [hc] at hx
   have hspot : ad.spot = none := by
    obtain ⟨cs, h1, _⟩ := hx 0 (by omega)
    obtain ⟨_, hlen, hcs⟩ := World.cells?_some h1
    have h2 := hcs 0 hpos
    rw [Nat.zero_mul] at h2
    simp only [Addr.add, if_true] at h2
    have h3 : cs[0]? = some cs[0] := List.getElem?_eq_getElem (by omega)
    rw [h3] at h2
    unfold World.cell? at h2
    split at h2
    ·cases hs : ad.spot with
     | none => rfl
     | some _ => simp [hs] at h2
    ·cases h2
   obtain ⟨b, off, sp⟩ := ad
   simp only at hspot
   subst hspot
   have each : ∀ i, i < len → ∃ x, R W ⟨b, off + i * sz, none⟩ x := by
    intro i hi
    obtain ⟨cs, h1, h2⟩ := hx i (by omega)
    obtain ⟨_, hlen, hcs⟩ := World.cells?_some h1
    refine hel cs n _ b (off + i * sz) hlen (fun j hj => ?_) h2
    have h3 := hcs j (by omega)
    rw [Addr.add_lit, Addr.add_lit, List.getElem?_eq_getElem hj] at h3
    exact h3
   obtain ⟨x0, _⟩ := each 0 h0
   have := Z6l len each
   obtain ⟨xs, h1, h2⟩ := this
   exact ⟨xs, .inr ⟨by omega, b, off, _, by rw [h1], ⟨by omega, hm⟩, h2⟩⟩
theorem Z1F {n : Nat} {t : TypeId} {k : IntKind} {cs : List Value} {y : DataW H × List MemPlace} (ht : P.underlying t = some (.int k)) (h : DataW.trod enc P W 0 (fun _ => true) true n t cs = some y) : ∃ z, cs = [.int k z] ∧ (Lit.int k z).wf = true := by
 obtain ⟨z, h1, _, h2⟩ := DataW.trod_int ht h
 exact ⟨z, h1, h2⟩
theorem Zag {z : Int} (h : (Lit.int .i64 z).wf = true) : -9223372036854775808 ≤ z ∧ z ≤ 9223372036854775807 := by
 simpa [Lit.wf, IntKind.min, IntKind.max, IntKind.signed, IntKind.bits] using h
theorem Z17 {n : Nat} {t e : TypeId} {cs : List Value} {y : DataW H × List MemPlace} (ht : P.underlying t = some (.slice e)) (h : DataW.trod enc P W 0 (fun _ => true) true n t cs = some y) : ∃ a len cap, cs = [.slice a len cap] := by
 rcases DataW.trod_slice ht h with ⟨rfl, _⟩ | ⟨a, len, cap, _, _, _, _, rfl, _⟩
 ·exact ⟨_, _, _, rfl⟩
 ·exact ⟨_, _, _, rfl⟩
theorem Z5h (hl : laidOutB P = true) {W' : World} (hb : Below W.heap.size W W') : ∀ {ts : List TypeId} {vs : List Value} {ds : List (DataW H)} {ps : List MemPlace}, ts.all (fun t => P.readableRec t && decide (t < P.types.size)) = true →
  DataW.TrodAll enc P W 0 (fun _ => true) true ts vs ds ps → (∀ x ∈ ps, x.block < W.heap.size) → DataW.TrodAll enc P W' 0 (fun b => decide (b < W.heap.size)) true ts vs ds ps
 | [], _, _, _, _, h, _ => by
  obtain ⟨rfl, rfl, rfl⟩ := trodAll_nil h
  exact trodAll_mk0
 | t :: ts, _, _, _, hr, h, hlt => by
  obtain ⟨v, vs, d, ds, p, q, rfl, rfl, rfl, h1, h2⟩ := trodAll_cons h
  simp only [List.all_cons, Bool.and_eq_true, decide_eq_true_eq] at hr
  exact trodAll_cons_mk (Below.trod hl hr.1.1 hr.1.2 h1 hb fun x hx => hlt x (List.mem_append_left _ hx)) (Z5h hl hb hr.2 h2 fun x hx => hlt x (List.mem_append_right _ hx))
theorem ZdK {f : Func} {s : ChangeSpec} {W' : World} {args : Array Value} {ds gs : List (DataW H)} {before : List MemPlace} {tb : TypeId} (hv : s.vars = []) (hres : f.resultTypes = #[tb]) (hbool : P.underlying tb = some .bool) (hl : laidOutB P = true)
  (hr : f.params.toList.all (fun t => P.readableRec t && decide (t < P.types.size)) = true) (hW : DataW.Whole enc P f.params.toList s.vars false W args.toList ds gs before)
  (hs : (s.fn H (ds ++ gs)).results = [.lit (.bool true)] ∧ (s.fn H (ds ++ gs)).args = ds ∧ (s.fn H (ds ++ gs)).vars = []) (hb : Below W.heap.size W W') : s.post enc P f false true false false W args (.bool true) W' := by
 have hlt := hW.lt
 obtain ⟨p, q, hA, hV, rfl, hfz, hnd⟩ := hW
 have hV' := hV
 rw [hv] at hV'
 obtain ⟨rfl, rfl⟩ := trodVars_none hV'
 refine ⟨ds, [], p ++ [], [], p, [], ⟨p, [], hA, hV, rfl, hfz, hnd⟩, ?_, ?_, ?_, hb.frame _, fun h => by cases h⟩
 ·rw [hs.1, hres]
  exact trodAll_mk1 (shut_bool hbool true)
 ·rw [hs.2.1]
  exact Z5h hl hb hr hA fun x hx => hlt x (by simpa using hx)
 ·rw [hs.2.2, hv]
  rfl
end
section
variable {H : Type} {enc : TypeId × Value → H} {W : World}
end
theorem Zbd {P : Program} {w : World} {r : Reach} {base : Nat} {t : TypeId} {v : Value} (ht : Z77 P t = true) (h : Value.okWide P w r base t v) : ∃ cs, v = .agg cs := by
 unfold Z77 at ht
 unfold Value.okWide at h
 split at ht
 ·rename_i hu; rw [hu] at h; obtain ⟨cs, h1, _⟩ := h; exact ⟨cs, h1⟩
 ·rename_i hu; rw [hu] at h; obtain ⟨cs, h1, _⟩ := h; exact ⟨cs, h1⟩
 ·cases ht
end Go.Proofs.YtenihpghfdcpkaaGreat
namespace Go.Proofs.YtenihpghfdcpkaaGreat
open Go.RowKit
def Z9k (v : Value) : List Value := [v]
theorem Z1T (v : Value) : (Z9k v).length = 1 := rfl
section
variable {w w' w0 : World} {v : Value} {s : List UInt8} {vs : List Value} {ss : List (List UInt8)} {G : List Ck}
structure Parts (w : World) (vs : LV) (ss : List (List UInt8)) : Prop where
 len : vs.length = ss.length
 get : ∀ i, i < vs.length → ListAt Zx 1 w (vs.getD i undef) (ss.getD i [])
theorem Parts.nil : Parts w [] [] := ⟨rfl, fun i h => by simp at h⟩
theorem Parts.cons (h : ListAt Zx 1 w v s) (t : Parts w vs ss) : Parts w (v :: vs) (s :: ss) := ⟨by simp [t.len], fun i hi => by
 cases i with
 | zero => exact h
 | succ i => exact t.get i (by simpa using hi)⟩
theorem Z8u (ss : List (List UInt8)) {i : Nat} (h : i < ss.length) : (ss.take (i + 1)).flatten = (ss.take i).flatten ++ ss.getD i [] := by
 rw [List.take_add_one, List.getElem?_eq_getElem h, List.flatten_append, List.getD_eq_getElem?_getD, List.getElem?_eq_getElem h]
 simp
theorem Zbj (ss : List (List UInt8)) {i : Nat} (h : i < ss.length) : (ss.take i).flatten.length + (ss.getD i []).length ≤ ss.flatten.length := by
 have h1 := congrArg List.length (Z8u ss h)
 have h2 : ss.flatten = (ss.take (i + 1)).flatten ++ (ss.drop (i + 1)).flatten := by rw [← List.flatten_append, List.take_append_drop]
 rw [List.length_append] at h1
 rw [h2, List.length_append]; omega
def Z1y (v : Value) (s : List UInt8) : Ck where
 fp b := 0 < s.length ∧ v.ownBlock = some b
 ok w := BytesAt w v s
 stay {w w'} h hb := by
  rcases h with h | ⟨h0, b, off, cap, rfl, hn, h⟩
  ·exact .inl h
  ·refine .inr ⟨h0, b, off, cap, rfl, hn, fun i hi => ?_⟩
   have := h i hi
   unfold Z7n World.cell? at this ⊢
   rw [hb b ⟨h0, rfl⟩]; exact this
 lt {w} h b hb := by
  obtain ⟨h0, hb⟩ := hb
  obtain ⟨b', off, cap, rfl, _, h⟩ := SliceOf.some h h0
  have := h 0 h0
  simp only [Value.ownBlock, Option.some.injEq] at hb
  subst hb
  unfold Z7n World.cell? at this
  by_cases hl : b' < w.heap.size
  ·exact hl
  ·rw [Array.getElem?_eq_none (show w.heap.size ≤ b' by omega)] at this; simp at this
theorem ListAt.ofTxt (h : (Z1y v s).ok w) : ListAt Zx 1 w v s := Z7p h
theorem ListAt.ofHash {x : Hash} {b o c : Nat} (h : Z49 w ⟨b, o, none⟩ (hc x)) (hc' : 32 ≤ c ∧ c ≤ maxLen) : ListAt Zx 1 w (.slice (some ⟨b, o, none⟩) 32 c) x.l := by
 refine Z7p (.inr ⟨by rw [x.len]; decide, b, o, c, by rw [x.len], by rw [x.len]; exact hc', fun i hi => ?_⟩)
 have := h i (Z51 x.l[i]) (by rw [Z98, List.getElem?_map, List.getElem?_eq_getElem hi]; rfl)
 rw [Addr.add_lit] at this
 unfold Z7n; rw [Nat.mul_one]; exact this
theorem Z3F {w : World} {b T o : Nat} {cs us : List Value} (h : (Z0 b T cs).ok w) (hu : (cs.drop o).take us.length = us) : Z49 w ⟨b, o, none⟩ us := by
 intro j v hj
 rw [Addr.add_lit, Z1n h]
 rw [← hu, List.getElem?_take] at hj
 split at hj
 ·rw [List.getElem?_drop] at hj; simpa using hj
 ·cases hj
theorem Sat.offP {A : Ck} {B : List Ck} (H : Sat w0 G w) (is : List Nat) (t : Nat) (hB : (is.filterMap fun i => G[i]?) = B) (ht : G[t]? = some A) (hne : is.all (fun i => !Nat.beq t i) = true) {b : Nat} (hb : A.fp b) : ¬ (Z0h B).fp b := by
 rintro ⟨C, hC, hfp⟩
 rw [← hB] at hC
 obtain ⟨i, him, hiC⟩ := List.mem_filterMap.1 hC
 have := List.all_eq_true.1 hne i him
 exact H.apart t i ht hiC (by simpa using this) b hb hfp
theorem Z4Y {B : List Ck} {n c : Nat} {a : Option Addr} (h : ∀ b, (Z1y (.slice a n c) s).fp b → ¬ (Z0h B).fp b) : 0 < s.length → ∀ ad, a = some ad → ¬ (Z0h B).fp ad.block := fun h0 ad ha => h _ ⟨h0, by subst ha; rfl⟩
end
section
variable {P : Program} {n : Nat} {f : Nat → Value} {w w0 : World} {dst : Option Tmp} {ty : TypeId} {pos : String} {aft : Array Edge} {gd : Option (Nat × Bool)} {K : Act → World → Prop} {Q : Exit → Act → World → Prop} {G : List Ck}
theorem Zcf {S D e : TypeId} {x : Operand} {d : Nat} {s : List UInt8} (hd : dst = some d) (H : Sat w0 G w) (hs : P.underlying S = some .string) (hD : P.underlying D = some (.slice e)) (he : P.underlying e = some (.int .u8)) (hx : ev n f x = Z5l s) (hl : s.length ≤ 1000000) (h0 : 0 < s.length)
  (kk : ∀ b c w', Sat w0 (G ++ [Z1y (.slice (some ⟨b, 0, none⟩) s.length c) s]) w' → K (fr n (upd f d (.slice (some ⟨b, 0, none⟩) s.length c))) w') : WO P ⟨dst, .convert S D x, ty, pos, aft, gd⟩ K Q n f w := by
 have hsz : (⟨s.toArray⟩ : ByteArray).size = s.length := by simp [ByteArray.size]
 have hr := run_bytes_of_string (P := P) w S D e ⟨s.toArray⟩ hs hD he
 rw [hsz] at hr
 obtain ⟨C, hC⟩ : ∃ C, C = Obj.cells (bytesRow ⟨s.toArray⟩ (grownCap w s.length 0 e)) e ((bytesRow ⟨s.toArray⟩ (grownCap w s.length 0 e)).size, (bytesRow ⟨s.toArray⟩ (grownCap w s.length 0 e)).size + 1) := ⟨_, rfl⟩
 obtain ⟨w1, hw⟩ : ∃ w1 : World, w1 = w.drew.alloc C := ⟨_, rfl⟩
 rw [← hC, ← hw] at hr
 have hh : w1.heap = w.heap.push C := by rw [hw]; rfl
 refine Z4p hd (v := .slice (some ⟨w.heap.size, 0, none⟩) s.length (grownCap w s.length 0 e)) (w' := w1) (by simp [execOp, hx, Z5l, hr, Result.andThen]) (kk _ _ _ (H.add ⟨by rw [hw]; rfl, by rw [hw]; rfl, by rw [hw]; rfl, by rw [hh]; simp⟩ (fun b hb => by rw [hh, Array.getElem?_push]; simp; omega) ?_ (fun b hb => ?_)))
 ·refine .inr ⟨h0, _, 0, _, rfl, ⟨grownCap_ge _ _ _ _, grownCap_le_maxLen _ _ _ _ (by unfold maxLen; omega)⟩, fun i hi => ?_⟩
  unfold Z7n World.cell?
  simp only [hh, Array.getElem?_push, if_true, Nat.zero_add, Nat.mul_one, hC]
  simp [bytesRow, Array.getElem?_append, hi, Z51]
 ·simp only [Z1y, Value.ownBlock, Option.some.injEq] at hb; omega
theorem Z1l {S e : TypeId} {x : Operand} {d : Nat} {s : List UInt8} {g c : Nat} (hd : dst = some d) (H : Sat w0 G w) (i : Nat) (hi : G[i]? = some (Zo e 1 (.slice (some ⟨g, 0, none⟩) s.length c) s.length (s.flatMap Zx))) (hS : P.underlying S = some (.slice e)) (he : P.underlying e = some (.int .u8)) (hx : ev n f x = .slice (some ⟨g, 0, none⟩) s.length c)
  (kk : ∀ w', Sat w0 (G.set i (Z1y (.slice (some ⟨g, 0, none⟩) s.length c) s)) w' → K (fr n (upd f d (.slice (some ⟨g, 0, none⟩) s.length c))) w') : WO P ⟨dst, .convert S S x, ty, pos, aft, gd⟩ K Q n f w := by
 have hok := H.at i hi
 have hL := ListAt.row (enc := Zx) (sz := 1) (xs := s) Zw (by decide) hok
 rcases hok.2 with ⟨hv, _⟩ | ⟨g', cap, cur, hv, _, hgg, hcap, hm, hcs, htake⟩
 ·simp at hv
 simp only [Value.slice.injEq, Option.some.injEq, Addr.mk.injEq] at hv
 obtain ⟨⟨rfl, _⟩, _, rfl⟩ := hv
 have hsh : w.shape? g = some (e, cur.size) := by unfold World.shape?; rw [hgg]
 have hlt := Z1v hgg
 have hr : (convert S S (.slice (some ⟨g, 0, none⟩) s.length c)).run P w = .ok (.slice (some ⟨g, 0, none⟩) s.length c) (w.freeze ⟨g, cur.size, none⟩ 1) := by
  simp [convert, run_underlying hS, run_underlying he, markStringish, hsh]
 have hh : (w.freeze ⟨g, cur.size, none⟩ 1).heap = w.heap.modify g fun
   | .cells c elem (lo, hi) => .cells c elem (if lo == hi then (cur.size, cur.size + 1) else (min lo cur.size, max hi (cur.size + 1)))
   | o => o := by unfold World.freeze; rw [if_neg (by decide)]; rfl
 have hne : ∀ b, b ≠ g → (w.freeze ⟨g, cur.size, none⟩ 1).heap[b]? = w.heap[b]? := fun b hb => by
  rw [hh, Array.getElem?_modify, if_neg (fun h => hb h.symm)]
 have hcell : ∀ p, (w.freeze ⟨g, cur.size, none⟩ 1).cell? p = w.cell? p := fun p => by
  unfold World.cell?
  by_cases hb : p.block = g
  ·rw [hb, hh, Array.getElem?_modify, if_pos rfl, hgg]; rfl
  ·rw [hne _ hb]
 refine Z4p hd (w' := w.freeze ⟨g, cur.size, none⟩ 1) (by simp [execOp, hx, hr, Result.andThen]) (kk _ (H.set i hi ⟨by unfold World.freeze; rw [if_neg (by decide)], by unfold World.freeze; rw [if_neg (by decide)], by unfold World.freeze; rw [if_neg (by decide)], by rw [hh]; simp⟩ (fun b _ hb => hne b fun h => hb (by subst h; rfl)) ?_ (fun b hb => .inl ?_)))
 ·exact Z25 (hL.mono fun p x hx => by rw [hcell]; exact hx)
 ·obtain ⟨_, hb⟩ := hb
  exact hb
end
structure Zb where
 r : Int
 cl : Int
 seq : Int
 h : Hash
 t : Int
 sb : Int
 sm : Int
structure Zj where
 cl : Int
 seq : Int
 h : Hash
 len : Int
 sb : Int
 sm : Int
def Z2O (s : Zb) : List Value := [i6 s.r, i6 s.cl, i6 s.seq] ++ hc s.h ++ [u6 s.t, i6 s.sb, i6 s.sm]
theorem Z3H (s : Zb) : (Z2O s).length = 38 := by simp [Z2O]
theorem Z8m (s : Zb) : (Z2O s).all (·.oneCell') = true := by
 simp only [Z2O, List.all_append, Z98]
 simp [Value.oneCell', Z51]
def Zl : Zb := ⟨0, 0, 0, Zz, 0, 0, 0⟩
def ZaK (s : Zj) : List Value := [i6 s.cl, i6 s.seq] ++ hc s.h ++ [i6 s.len, i6 s.sb, i6 s.sm]
def Z5 (n : Int) : List UInt8 := Z1I (max 0 n).toNat
def Zm (s : List UInt8) : List UInt8 := Z1I s.length ++ s
def Z0y (a b : Int) : List UInt8 := [Z5 a, Z5 b].flatten
def Z27 (s : Zb) : List UInt8 := [Z5 s.r, Z0y s.cl s.seq, s.h.l, Z1I s.t.toNat].flatten
def ZE (s : Zb) : List UInt8 := [Zm zq2, Z27 s].flatten
def Zt (s : Zj) : List UInt8 := [Zm zq0, Z5 s.cl, Z5 s.seq, s.h.l, Z5 s.len].flatten
theorem Z2I (n : Nat) : (Z1I n).length ≤ 10 := Zaf 10 n
theorem ZA (n : Int) : (Z5 n).length ≤ 10 := Zaf 10 _
theorem Z2V (a b : Int) : (Z0y a b).length ≤ 20 := by
 have h1 := ZA a; have h2 := ZA b
 simp only [Z0y, List.flatten_cons, List.flatten_nil, List.length_append, List.length_nil]; omega
theorem Z4s (s : Zb) : (Z27 s).length ≤ 72 := by
 have h1 := ZA s.r; have h2 := Z2V s.cl s.seq; have h3 := s.h.len; have h4 := Z2I s.t.toNat
 simp only [Z27, List.flatten_cons, List.flatten_nil, List.length_append, List.length_nil]; omega
theorem Z0K (s : List UInt8) : (Zm s).length ≤ 10 + s.length := by
 have := Z2I s.length
 simp only [Zm, List.length_append]; omega
end Go.Proofs.YtenihpghfdcpkaaGreat
