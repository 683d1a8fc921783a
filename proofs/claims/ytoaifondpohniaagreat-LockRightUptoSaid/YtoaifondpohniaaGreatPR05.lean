/- WHAT IS PROVED: contracts and plain laws of BookD, StrB, RowSt, Ins, ListAt, BytesD, Bits, VarB, Reg. Conditions: stated with each. -/
import Derived.Lib.BitFns
import Derived.Lib.ItoaNum
import Derived.Test.YtoaifondpohniaaGreatPR00
import Derived.Test.YtoaifondpohniaaGreatPR02
import Derived.Test.YtoaifondpohniaaGreatPR03
import Derived.Test.YtoaifondpohniaaGreatPR04
set_option maxHeartbeats 4000000
set_option maxRecDepth 100000
namespace Go.Proofs.YtoaifondpohniaaGreat
open Go.RowKit
structure Signed where
 p : Int
 s : List UInt8
 deriving DecidableEq
def Z0e (x : Signed) : Value := .agg #[.int .i64 x.p, Z2O x.s]
theorem ZaP (w : World) (x y : Signed) : (Op.equal 107 (Z0e x) (Z0e y)).run Tryz.prog w = .ok (decide (x = y)) w := by
 simp only [Op.equal, Op.maxDepth, Z0e, Z2O]
 simp [go_sem]
 obtain ⟨x1, x2⟩ := x
 obtain ⟨y1, y2⟩ := y
 have := ZaT x2 y2
 by_cases h1 : x1 = y1 <;> by_cases h2 : x2 = y2 <;> simp_all
theorem Z7J (w : World) (em : Bool) (x : Signed) : (Instr.checkKey em 10000 107 (Z0e x)).run Tryz.prog w = .ok () w := by
 have h : ∀ n, (Instr.checkKey em (n + 2) 107 (Z0e x)).run Tryz.prog w = .ok () w := fun n => by simp [Instr.checkKey, Z0e, Z2O, go_sem]
 exact h 9998
theorem Z4Y : KeyTy Tryz.prog 107 Z0e := KeyTy.deep (by kernel_rfl) Z7J ZaP (by
 intro a
 simp [Z0e, Z2O, Instr.sameBits, ZbH])
def Z04 (l : List Signed) : List (Signed × Int) := l.zipIdx.map fun x => (x.1, (x.2 : Int) + 1)
def Zu (l : List Signed) (x : Signed) : Int := ((l.idxOf? x).map fun i => (i : Int) + 1).getD 0
def Zk (l : List Signed) (x : Signed) : List Signed := if x ∈ l then l else l ++ [x]
def BookAt (w : World) (b mb : Nat) (l : List Signed) : Prop := w.heap[b]? = some (.cells #[.map (some mb)] 110) ∧ b ≠ mb ∧ MapAt w mb Z0e (Value.int .i64) (Z04 l)
theorem Z6m (l : List Signed) : (Z04 l).map (·.1) = l := by
 simp [Z04, List.map_map, Function.comp_def]
theorem Zbr (l : List Signed) (i : Nat) : (Z04 l)[i]? = (l[i]?).map fun x => (x, (i : Int) + 1) := by
 simp [Z04, List.getElem?_map, List.getElem?_zipIdx, Function.comp_def]
theorem Z3I (l : List Signed) (x : Signed) : ZV (Z04 l) x = (l.idxOf? x).map fun i => (i : Int) + 1 := by
 rw [Z7v, Z6m]
 cases h : l.idxOf? x with
 | none => simp
 | some i =>
  obtain ⟨h1, _⟩ := List.idxOf?_eq_some_iff.1 h
  simp [Zbr, List.getElem?_eq_getElem h1]
theorem ZaE (l : List Signed) (x : Signed) (h : x ∉ l) : Z4d (Z04 l) x ((l.length : Int) + 1) = Z04 (l ++ [x]) := by
 unfold Z4d
 rw [Z6m, if_neg h]
 simp [Z04, List.zipIdx_append]
theorem Zau (l : List Signed) : (Z04 l).length = l.length := by simp [Z04]
theorem BookAt.upd {w w' : World} {b mb : Nat} {l : List Signed} {D : List Nat} (h : BookAt w b mb l) (hu : Upd D w w') (h1 : b ∉ D) (h2 : mb ∉ D) : BookAt w' b mb l := ⟨hu.at h.1 h1, h.2.1, h.2.2.upd hu h2⟩
theorem BookAt.lt {w : World} {b mb : Nat} {l : List Signed} (h : BookAt w b mb l) : b < w.heap.size ∧ mb < w.heap.size := ⟨Z0D h.1, h.2.2.lt⟩
theorem BookAt.alloc {w : World} {b mb : Nat} {l : List Signed} (h : BookAt w b mb l) (o : Obj) : BookAt (w.alloc o) b mb l := h.upd ((Upd.refl [] w).alloc o) (by simp) (by simp)
theorem BookAt.drew {w : World} {b mb : Nat} {l : List Signed} (h : BookAt w b mb l) : BookAt w.drew b mb l := h.upd ((Upd.refl [] w).drew) (by simp) (by simp)
theorem BookAt.setCell {w : World} {b mb : Nat} {l : List Signed} (h : BookAt w b mb l) {p : Addr} (h1 : p.block ≠ b) (h2 : p.block ≠ mb) (u : Value) : BookAt (w.setCell p u) b mb l :=
 h.upd ((Upd.refl [p.block] w).setCell (Or.inr (by simp)) u) (by simpa using h1.symm) (by simpa using h2.symm)
theorem Z8l {l : List Signed} {x : Signed} (h : x ∉ l) : Zu l x = 0 := by
 have : l.idxOf? x = none := List.idxOf?_eq_none_iff.2 h
 simp [Zu, this]
theorem Z2n {l : List Signed} {x : Signed} (h : x ∈ l) : 1 ≤ Zu l x ∧ Zu l x ≤ l.length := by
 cases hi : l.idxOf? x with
 | none => exact absurd h (List.idxOf?_eq_none_iff.1 hi)
 | some i =>
  obtain ⟨h1, _⟩ := List.idxOf?_eq_some_iff.1 hi
  simp [Zu, hi]; omega
def Z0p (l : List Signed) (p mk : Int) (s : List UInt8) : Bool := decide (0 < Zu l ⟨p, s⟩ ∧ Zu l ⟨p, s⟩ = mk)
theorem Z3y (l : List Signed) (x : Signed) : x ∈ Zk l x := by unfold Zk; split <;> simp_all
theorem Z2I {l : List Signed} {x : Signed} (h : x ∈ l) : Zk l x = l := if_pos h
theorem ZaO {l : List Signed} {x y : Signed} (h : y ∈ l) : y ∈ Zk l x := by unfold Zk; split <;> simp_all
theorem Z20 (l : List Signed) (x : Signed) : (Zk l x).length ≤ l.length + 1 := by unfold Zk; split <;> simp
theorem Z9n {l : List Signed} {y : Signed} (h : y ∈ l) (m : List Signed) : Zu (l ++ m) y = Zu l y := by
 have : (l ++ m).idxOf? y = l.idxOf? y := by
  cases hi : l.idxOf? y with
  | none => exact absurd h (List.idxOf?_eq_none_iff.1 hi)
  | some i =>
   obtain ⟨h1, h2, h3⟩ := List.idxOf?_eq_some_iff.1 hi
   rw [List.idxOf?_eq_some_iff]
   refine ⟨by simp; omega, by rw [List.getElem_append_left h1]; exact h2, fun j hj => ?_⟩
   rw [List.getElem_append_left (by omega)]
   exact h3 j hj
 simp [Zu, this]
theorem Z7w {l : List Signed} {x y : Signed} (h : y ∈ l) : Zu (Zk l x) y = Zu l y := by
 unfold Zk; split
 ·rfl
 ·exact Z9n h _
section
variable {P : Program} {n : Nat} {f : Nat → Value} {w : World} {dst : Option Tmp} {ty : TypeId} {pos : String} {aft : Array Edge} {gd : Option (Nat × Bool)}
theorem Z21 {S D e : TypeId} {x : Operand} {v : Value} {s : List UInt8} (hs : P.underlying S = some (.slice e)) (he : P.underlying e = some (.int .u8)) (hd : P.underlying D = some .string) (hx : ev n f x = v) (hb : BytesAt w v s) :
  (execOp (ev n f) ⟨dst, .convert S D x, ty, pos, aft, gd⟩).run P w = .ok (.value (Z2O s)) w := by
 simp [execOp, hx, Z5b hb hs he hd, Result.andThen]
theorem Z9U {T U : TypeId} {x y : Operand} (a b : List UInt8) (hx : ev n f x = Z2O a) (hy : ev n f y = Z2O b) :
  (execOp (ev n f) ⟨dst, .binOp .eql T x y U, ty, pos, aft, gd⟩).run P w = .ok (.value (.bool (decide (a = b)))) w := by
 have : Op.stringOp .eql ⟨a.toArray⟩ ⟨b.toArray⟩ = pure (.bool (decide (a = b))) := by
  simp only [Op.stringOp, ByteArray.toList_mk]
  congr 2
  rw [Bool.eq_iff_iff]; simp
 simp [execOp, hx, hy, Z2O, binOp, eqGuard, this]
end
section
variable {P : Program} {n : Nat} {f : Nat → Value} {w w' : World} {dst : Option Tmp} {ty : TypeId} {pos : String} {aft : Array Edge} {gd : Option (Nat × Bool)} {w0 : World} {G : List Ck} {K : Act → World → Prop} {Q : Exit → Act → World → Prop}
theorem Z6s (cs : List Value) (o : Nat) (vs : List Value) (h : o + vs.length ≤ cs.length) : (Z1g cs o vs).length = cs.length := by
 simp only [Z1g, List.length_append, List.length_take, List.length_drop]; omega
theorem Z8x (cs : List Value) (o : Nat) (vs : List Value) (m : Nat) (h : o + vs.length ≤ m) (hm : m ≤ cs.length) : (Z1g cs o vs).take m = Z1g (cs.take m) o vs := by
 unfold Z1g
 rw [List.take_append, List.take_of_length_le (by rw [List.length_append, List.length_take]; omega), List.take_take, Nat.min_eq_left (by omega), List.length_append, List.length_take, Nat.min_eq_left (by omega), List.drop_take]
theorem ZaK {e size k c g o : Nat} {v : Value} {xs vs : List Value} (h : (ZH e size v k xs).ok w) (hv : v = .slice (some ⟨g, 0, none⟩) k c) {T : TypeId} {x y : Operand} {u : Value} (hx : ev n f x = .pointer (some ⟨g, o, none⟩)) (hy : ev n f y = u) (hu : u.cells = ⟨vs⟩) (hN : P.cellsOf T = vs.length) (h0 : 0 < vs.length) (ho : o + vs.length ≤ xs.length) (h1 : vs.all (·.oneCell') = true) :
  ∃ w', (execOp (ev n f) ⟨dst, .store T x y, ty, pos, aft, gd⟩).run P w = .ok .skip w' ∧ (ZH e size v k (Z1g xs o vs)).ok w' ∧ Ext w w' ∧ ∀ b, b ≠ g → w'.heap[b]? = w.heap[b]? := by
 obtain ⟨hl, h⟩ := h
 rcases h with ⟨h2, _⟩ | ⟨g', cap, cur, h2, hb, hg, hc, hm, hcs, ht⟩
 ·rw [hv] at h2; cases h2
 rw [hv] at h2
 obtain ⟨rfl, rfl⟩ : g = g' ∧ c = cap := by simpa using h2
 have hxl : xs.length ≤ cur.toList.length := by rw [← ht, List.length_take]; exact Nat.min_le_right ..
 obtain ⟨w', hr, hb', he, hk⟩ := Z6D (P := P) (dst := dst) (ty := ty) (pos := pos) (aft := aft) (gd := gd) (cs := cur.toList) hx hy hu hN h0 (by simpa using hg) (by omega) (fun v hv => List.all_eq_true.1 h1 v hv)
 refine ⟨w', hr, ⟨by rw [Z6s _ _ _ ho]; exact hl, .inr ⟨g, c, _, hv, hb, hb', hc, hm, ?_, ?_⟩⟩, he, hk⟩
 ·show (Z1g cur.toList o vs).length = _
  rw [Z6s _ _ _ (by omega)]; simpa using hcs
 ·show (Z1g cur.toList o vs).take (k * size) = _
  rw [Z8x _ _ _ _ (by omega) (by rw [← hl]; exact hxl), ht]
theorem Z6g {e size k c g o : Nat} {v : Value} {xs vs : List Value} {T : TypeId} {x y : Operand} {u : Value} (hd : dst = none) (H : Sat w0 G w) (i : Nat) (hi : G[i]? = some (ZH e size v k xs)) (hv : v = .slice (some ⟨g, 0, none⟩) k c) (hx : ev n f x = .pointer (some ⟨g, o, none⟩)) (hy : ev n f y = u) (hu : u.cells = ⟨vs⟩) (hN : P.cellsOf T = vs.length) (h0 : 0 < vs.length) (ho : o + vs.length ≤ xs.length) (h1 : vs.all (·.oneCell') = true)
  {xs' : List Value} (hxs : Z1g xs o vs = xs') (k' : ∀ w', Sat w0 (G.set i (ZH e size v k xs')) w' → K (fr n f) w') : WO P ⟨dst, .store T x y, ty, pos, aft, gd⟩ K Q n f w := by
 obtain ⟨w', hr, hok, he, hk⟩ := ZaK (P := P) (dst := dst) (ty := ty) (pos := pos) (aft := aft) (gd := gd) (H.at i hi) hv hx hy hu hN h0 ho h1
 subst hxs
 refine Z7i hd hr (k' w' (H.set i hi he (fun b _ hb => hk b fun e => hb ?_) hok fun b hb => .inl hb))
 show v.ownBlock = some b
 rw [hv, e]; rfl
theorem Z8t {T E : TypeId} {a : Option Addr} {len cap : Nat} {k : IntKind} {z : Int} {i : TypeInfo} (hT : P.underlying T = some (.slice E)) (hi : P.info? E = some i) (h1 : 0 ≤ z) (h2 : z ≤ cap) :
  (Instr.slice T (.slice a len cap) none (some (.int k z)) none).run P w = .ok (.slice a z.toNat cap) w := by
 have e0 : a.map (·.add (0 * i.size)) = a := by cases a <;> simp [Addr.add]
 simp [Instr.slice, run_underlying hT, Instr.sliceBounds, Instr.sliceBound, asIntOf, h1, h2, Result.andThen, sizeOf, typeInfo, hi]
 intro _
 cases a <;> simp [Addr.add]
end
theorem Z8O {α : Type} (enc : α → List Value) (size : Nat) (hs : ∀ x, (enc x).length = size) : ∀ (L : List α) (i : Nat) (x : α), i < L.length → Z1g (L.flatMap enc) (i * size) (enc x) = (L.set i x).flatMap enc
 | [], i, x, h => by simp at h
 | y :: L, 0, x, _ => by
  simp only [List.flatMap_cons, Nat.zero_mul, Z1g, List.take_zero, List.nil_append, Nat.zero_add, List.set_cons_zero]
  rw [hs, List.drop_append, List.drop_of_length_le (by rw [hs]; exact Nat.le_refl _), hs]
  simp
 | y :: L, i + 1, x, h => by
  have ih := Z8O enc size hs L i x (by simpa using h)
  simp only [List.flatMap_cons, List.set_cons_succ, ← ih, Z1g]
  have e : (i + 1) * size = (enc y).length + i * size := by rw [hs, Nat.succ_mul, Nat.add_comm]
  rw [e, List.take_append, List.take_of_length_le (by omega), Nat.add_sub_cancel_left, List.drop_append, List.drop_of_length_le (by omega), List.nil_append, List.append_assoc, List.append_assoc, List.append_assoc]
  rw [show (enc y).length + i * size + (enc x).length - (enc y).length = i * size + (enc x).length by omega]
section
variable {α : Type} {w W : World} {v : Value} {b o q : Nat}
theorem Z13 {vs : List Value} (h : Z2Q w ⟨b, o, none⟩ vs) (d : Nat) {u : Value} (hu : vs[d]? = some u) (hq : q = o + d) : w.cell? ⟨b, q, none⟩ = some u := by
 have := h d u hu
 rw [Addr.add_lit] at this
 rw [hq]; exact this
theorem Z10 {vs us : List Value} (h : Z2Q w ⟨b, o, none⟩ vs) (d : Nat) (hu : (vs.drop d).take us.length = us) (hq : q = o + d) : Z2Q w ⟨b, q, none⟩ us := by
 intro j u hj
 have hl : j < us.length := (List.getElem?_eq_some_iff.1 hj).1
 rw [Addr.add_lit]
 refine Z13 h (d + j) ?_ (by omega)
 rw [← hu, List.getElem?_take, if_pos hl, List.getElem?_drop] at hj
 exact hj
theorem Sat.runR {w0 : World} {G : List Ck} {D : Nat → Prop} (H : Sat w0 G w) (i : Nat) (hi : G[i]? = some (Z6 W D)) {vs : List Value} (h : Z2Q W ⟨b, o, none⟩ vs) (hD : ¬ D b) : Z2Q w ⟨b, o, none⟩ vs := fun j u hj => by
 have := h j u hj
 rw [Addr.add_lit] at this ⊢
 exact H.cellR i hi this hD
theorem IntsAt.atD {s : List Int} (h : IntsAt w v s) {i : Nat} (hi : i < s.length) : ∃ b o cap, v = .slice (Option.some ⟨b, o, none⟩) s.length cap ∧ Z2Q w ⟨b, o + i * 1, none⟩ [.int .i64 (s.getD i 0)] := by
 obtain ⟨b, o, cap, e, _, h⟩ := h.some (by omega)
 refine ⟨b, o, cap, e, fun j u hj => ?_⟩
 match j, hj with
 | 0, hj =>
  simp only [List.getElem?_cons_zero, Option.some.injEq] at hj
  subst hj
  rw [Addr.add_lit]
  simpa using h i hi
theorem SliceOf.atD {L : α → List Value} {sz : Nat} {s : List α} (h : SliceOf (fun w a x => Z2Q w a (L x)) sz w v s) (d : α) {i : Nat} (hi : i < s.length) : ∃ b o cap, v = .slice (Option.some ⟨b, o, none⟩) s.length cap ∧ Z2Q w ⟨b, o + i * sz, none⟩ (L (s.getD i d)) := by
 obtain ⟨b, o, cap, e, _, h⟩ := SliceOf.some h (by omega)
 refine ⟨b, o, cap, e, ?_⟩
 have := h i hi
 rwa [show s.getD i d = s[i] by simp [List.getD, List.getElem?_eq_getElem hi]]
end
section
variable {P : Program} {n : Nat} {f : Nat → Value} {w : World} {dst : Option Tmp} {ty : TypeId} {pos : String} {aft : Array Edge} {gd : Option (Nat × Bool)}
theorem ZC {T E : TypeId} {x y : Operand} {v : Value} {b o len cap sz : Nat} {k : IntKind} {z : Int} (hT : P.underlying T = some (.slice E)) (hs : P.cellsOf E = sz) (h0 : 0 < sz) (hx : ev n f x = v) (hv : v = .slice (some ⟨b, o, none⟩) len cap) (hy : ev n f y = .int k z) (h1 : 0 ≤ z) (h2 : z < len) :
  (execOp (ev n f) ⟨dst, .indexAddr T x y, ty, pos, aft, gd⟩).run P w = .ok (.value (.pointer (some ⟨b, o + z.toNat * sz, none⟩))) w :=
 Z0r hT hs h0 (hx.trans hv) hy h1 h2
end
def ListAt {α : Type} (enc : α → List Value) (sz : Nat) (w : World) (v : Value) (xs : List α) : Prop := SliceOf (fun w a x => Z2Q w a (enc x)) sz w v xs
section
variable {α : Type} {enc : α → List Value} {sz : Nat} {w w' W : World} {v : Value} {xs : List α}
theorem Z6p {a : Addr} {vs : List Value} (h : Z2Q w a vs) (hc : ∀ p x, w.cell? p = some x → w'.cell? p = some x) : Z2Q w' a vs := fun j u hj => hc _ _ (h j u hj)
theorem ListAt.mono (h : ListAt enc sz w v xs) (hc : ∀ p x, w.cell? p = some x → w'.cell? p = some x) : ListAt enc sz w' v xs := SliceOf.mono h fun _ _ hx => Z6p hx hc
theorem ListAt.now {G : List Ck} {w0 : World} (H : Sat w0 G w) (j : Nat) (hj : G[j]? = Option.some (Z6 W fun _ => False)) (hv : ListAt enc sz W v xs) : ListAt enc sz w v xs :=
 SliceOf.mono hv fun _ _ hx => Z6p hx fun _ _ h => H.cellR j hj h (fun h => h)
theorem ListAt.nil : ListAt enc sz w (.slice none 0 0) ([] : List α) := SliceOf.nil
theorem ListAt.row {e n : Nat} (hs : ∀ x, (enc x).length = sz) (h0 : 0 < sz) (h : (ZH e sz v n (xs.flatMap enc)).ok w) : ListAt enc sz w v xs := by
 have hl : xs.length = n := by
  have := h.1
  rw [Z1u enc sz hs] at this
  exact Nat.eq_of_mul_eq_mul_right h0 this
 subst hl
 rcases h.2 with ⟨rfl, hn⟩ | ⟨g, cap, cur, rfl, hb, hgg, hc, hm, hcs, htake⟩
 ·obtain rfl := List.eq_nil_of_length_eq_zero hn
  exact SliceOf.nil
 ·by_cases hz : xs.length = 0
  ·obtain rfl := List.eq_nil_of_length_eq_zero hz
   exact .inl ⟨_, cap, rfl, rfl, hm, by simp⟩
  ·refine .inr ⟨by omega, g, 0, cap, rfl, ⟨hc, hm⟩, fun i hi j u hj => ?_⟩
   have hjl : j < sz := by rw [← hs xs[i]]; exact (List.getElem?_eq_some_iff.1 hj).1
   rw [Addr.add_lit]
   refine Z3O (k := xs.length) (c := cap) h rfl ?_
   rw [Nat.zero_add, Z3D enc sz hs xs i j xs[i] (List.getElem?_eq_getElem hi) hjl]
   exact hj
theorem ListAt.take {a : Option Addr} {n c k : Nat} (h : ListAt enc sz w (.slice a n c) xs) (hk : k ≤ n) : ListAt enc sz w (.slice a k c) (xs.take k) := by
 rcases h with ⟨a', c', e, rfl, hc, ha⟩ | ⟨h0, b, o, c', e, ⟨h1, h2⟩, h⟩
 ·simp only [Value.slice.injEq] at e
  obtain ⟨rfl, rfl, rfl⟩ := e
  obtain rfl : k = 0 := by omega
  exact .inl ⟨_, _, rfl, by simp, hc, ha⟩
 ·simp only [Value.slice.injEq] at e
  obtain ⟨rfl, rfl, rfl⟩ := e
  have hl : (xs.take k).length = k := by rw [List.length_take]; omega
  by_cases hz : k = 0
  ·subst hz; exact .inl ⟨_, _, rfl, by simp, h2, by simp⟩
  ·refine .inr ⟨by omega, b, o, _, by rw [hl], ⟨by omega, h2⟩, fun i hi => ?_⟩
   rw [List.getElem_take]
   exact h i (by rw [hl] at hi; omega)
theorem ListAt.drop {b o n c k : Nat} (h : ListAt enc sz w (.slice (some ⟨b, o, none⟩) n c) xs) (hk : k ≤ n) : ListAt enc sz w (.slice (some (if c = k then ⟨b, o, none⟩ else ⟨b, o + k * sz, none⟩)) (n - k) (c - k)) (xs.drop k) := by
 rcases h with ⟨a', c', e, rfl, hc, ha⟩ | ⟨h0, b', o', c', e, ⟨h1, h2⟩, h⟩
 ·simp only [Value.slice.injEq] at e
  obtain ⟨rfl, rfl, rfl⟩ := e
  obtain rfl : k = 0 := by omega
  exact .inl ⟨_, _, rfl, by simp, by omega, by simp⟩
 ·simp only [Value.slice.injEq, Option.some.injEq, Addr.mk.injEq] at e
  obtain ⟨⟨rfl, rfl, _⟩, rfl, rfl⟩ := e
  have hl : (xs.drop k).length = xs.length - k := List.length_drop
  by_cases hz : k = xs.length
  ·subst hz; exact .inl ⟨_, c - xs.length, by rw [Nat.sub_self], by simp, by omega, fun h => by cases h⟩
  ·refine .inr ⟨by omega, b, o + k * sz, c - k, by rw [hl, if_neg (by omega)], ⟨by rw [hl]; omega, by omega⟩, fun i hi => ?_⟩
   rw [List.getElem_drop]
   have := h (k + i) (by rw [hl] at hi; omega)
   rwa [show o + k * sz + i * sz = o + (k + i) * sz by rw [Nat.add_mul]; omega]
theorem ListAt.cap {a : Option Addr} {n c : Nat} (h : ListAt enc sz w (.slice a n c) xs) : n ≤ c := by
 rcases h with ⟨a', c', e, rfl, hc, ha⟩ | ⟨h0, b, o, c', e, ⟨h1, h2⟩, h⟩
 ·simp only [Value.slice.injEq] at e
  obtain ⟨rfl, rfl, rfl⟩ := e
  omega
 ·simp only [Value.slice.injEq] at e
  obtain ⟨rfl, rfl, rfl⟩ := e
  exact h1
theorem ListAt.len (h : ListAt enc sz w v xs) : ∃ a c, v = .slice a xs.length c := SliceOf.len h
theorem ListAt.cells (hs : ∀ x, (enc x).length = sz) (h0 : 0 < sz) (h : ListAt enc sz w v xs) (hp : 0 < xs.length) : ∃ b o c, v = .slice (some ⟨b, o, none⟩) xs.length c ∧ ∀ j u, (xs.flatMap enc)[j]? = some u → w.cell? ((⟨b, o, none⟩ : Addr).add j) = some u := by
 obtain ⟨b, o, c, e, _, h⟩ := SliceOf.some h hp
 refine ⟨b, o, c, e, fun j u hj => ?_⟩
 have hjl : j < xs.length * sz := by rw [← Z1u enc sz hs]; exact (List.getElem?_eq_some_iff.1 hj).1
 have hi : j / sz < xs.length := Nat.div_lt_of_lt_mul (by rwa [Nat.mul_comm])
 have hd : j = j / sz * sz + j % sz := by have := Nat.div_add_mod j sz; rw [Nat.mul_comm] at this; omega
 have := Z3D enc sz hs xs (j / sz) (j % sz) xs[j / sz] (List.getElem?_eq_getElem hi) (Nat.mod_lt _ h0)
 rw [← hd, hj] at this
 have hc := h (j / sz) hi (j % sz) u this.symm
 rw [Addr.add_lit] at hc ⊢
 rwa [hd, ← Nat.add_assoc]
end
section
variable {P : Program} {n : Nat} {f : Nat → Value} {w w' : World} {dst : Option Tmp} {ty : TypeId} {pos : String} {aft : Array Edge} {gd : Option (Nat × Bool)} {w0 : World} {G : List Ck} {K : Act → World → Prop} {Q : Exit → Act → World → Prop}
variable {α : Type} {enc : α → List Value}
theorem Z40 {T e : TypeId} {size bytes : Nat} (hR : Z4X P T e size bytes = true) (hs : ∀ x, (enc x).length = size) (h1 : ∀ x, (enc x).all (·.oneCell') = true) {v u : Value} {k : Nat} {xs : List Value} {ys : List α} (hv : w.ownsRow 0 e size v k xs) (hu : ListAt enc size w u ys) (hb : (k + ys.length) * bytes ≤ 140737488355328) (h63 : k + ys.length ≤ 140737488355328) :
  ∃ v' w', (Builtin.append_ #[T, T] ty #[v, u]).run P w = .ok v' w' ∧ w'.ownsRow 0 e size v' (k + ys.length) (xs ++ ys.flatMap enc) ∧ w.grownBy w' v.ownBlock ∧ ∀ b, v'.ownBlock = some b → v.ownBlock = some b ∨ w.heap.size ≤ b := by
 obtain ⟨i, z, ht, hi, hz, hsz, hby, hzs, h0⟩ := Z3N hR
 have own := fun (a : Addr) (m c : Nat) (news : List Value) => Z6b (P := P) (ty := ty) w 0 T e i z size bytes ht hi hz hsz hby hzs h0 v k xs hv a m c news
 by_cases hp : 0 < ys.length
 ·obtain ⟨b, o, c, rfl, hc⟩ := hu.cells hs h0 hp
  exact own ⟨b, o, none⟩ ys.length c (ys.flatMap enc) (Z1u enc size hs ys) hc (fun x hx => List.all_eq_true.1 (Z0U enc h1 ys) x hx) (by unfold maxLen; omega) hb (Nat.zero_le _)
 ·obtain rfl : ys = [] := List.eq_nil_of_length_eq_zero (by omega)
  rcases hu with ⟨a, c, rfl, _, hc, ha⟩ | ⟨h, _⟩
  ·cases a with
   | none =>
    obtain rfl := ha rfl
    exact ⟨v, w, Z5n w T ty e i ht hi hv, by simpa using hv, ⟨rfl, rfl, rfl, Nat.le_refl _, fun _ _ _ => rfl⟩, fun b h => .inl h⟩
   | some ad =>
    have := own ad 0 c [] (by simp) (by simp) (by simp) (by simp at h63; unfold maxLen; omega) (by simpa using hb) (Nat.zero_le _)
    simpa using this
  ·simp at h
theorem Z2T {T e : TypeId} {size bytes : Nat} {x y : Operand} {d : Nat} (hd : dst = some d) (H : Sat w0 G w) (hR : Z4X P T e size bytes = true) (hs : ∀ x, (enc x).length = size) (h1 : ∀ x, (enc x).all (·.oneCell') = true) (i : Nat) {v u : Value} {k : Nat} {xs : List Value} {ys : List α} (hi : G[i]? = some (ZH e size v k xs)) (hu : ListAt enc size w u ys)
  (hx : ev n f x = v) (hy : ev n f y = u) (hb : (k + ys.length) * bytes ≤ 140737488355328) (h63 : k + ys.length ≤ 140737488355328)
  (kk : ∀ v' w', Sat w0 (G.set i (ZH e size v' (k + ys.length) (xs ++ ys.flatMap enc))) w' → K (fr n (upd f d v')) w') : WO P ⟨dst, .call { callee := .builtin .append, args := #[x, y], argTypes := #[T, T] }, ty, pos, aft, gd⟩ K Q n f w := by
 obtain ⟨v', w', hr, ho, hg, hn⟩ := Z40 (ty := ty) hR hs h1 (H.at i hi) hu hb h63
 exact Z4i hd (Z4j hx hy hr) (kk v' w' (H.set i hi (Z3t hg) (fun b hb hne => hg.block b hb fun e => hne e.symm) ho hn))
theorem Z7f {T e : TypeId} {size bytes : Nat} {x y : Operand} {d : Nat} (hd : dst = some d) (H : Sat w0 G w) (hR : Z4X P T e size bytes = true) (hs : ∀ x, (enc x).length = size) (h1 : ∀ x, (enc x).all (·.oneCell') = true) {u : Value} {ys : List α} (hu : ListAt enc size w u ys)
  (hx : ev n f x = .slice none 0 0) (hy : ev n f y = u) (hb : ys.length * bytes ≤ 140737488355328) (h63 : ys.length ≤ 140737488355328)
  (kk : ∀ v' w', Sat w0 (G ++ [ZH e size v' ys.length (ys.flatMap enc)]) w' → K (fr n (upd f d v')) w') : WO P ⟨dst, .call { callee := .builtin .append, args := #[x, y], argTypes := #[T, T] }, ty, pos, aft, gd⟩ K Q n f w := by
 obtain ⟨v', w', hr, ho, hg, hn⟩ := Z40 (ty := ty) hR hs h1 (World.ownsRow_nil w 0 e size) hu (by simpa using hb) (by simpa using h63)
 simp only [Nat.zero_add, List.nil_append] at ho
 refine Z4i hd (Z4j hx hy hr) (kk v' w' (H.add (Z3t hg) (fun b hb => hg.block b hb (by simp [Value.ownBlock])) ho fun b hb => ?_))
 rcases hn b hb with h | h
 ·simp [Value.ownBlock] at h
 ·exact h
theorem Z9X {T E : TypeId} {x y : Operand} {a : Option Addr} {len cap : Nat} {k : IntKind} {z : Int} {q : Nat} (hT : P.underlying T = some (.slice E)) (hE : (P.info? E).isSome = true) (hx : ev n f x = .slice a len cap) (hy : ev n f y = .int k z) (h1 : z = (q : Int)) (h2 : q ≤ cap) :
  (execOp (ev n f) ⟨dst, .slice T x none (some y) none, ty, pos, aft, gd⟩).run P w = .ok (.value (.slice a q cap)) w := by
 obtain ⟨i, hi⟩ := Option.isSome_iff_exists.1 hE
 subst h1
 have := Z8t (w := w) (a := a) (len := len) (cap := cap) (k := k) (z := (q : Int)) hT hi (by omega) (by omega)
 rw [Int.toNat_natCast] at this
 simp only [execOp, Instr.sliceAt, Option.map, hx, hy]
 simp [run_underlying hT, this, Result.andThen]
end
def ZN (c : UInt8) : List Value := [Z42 c]
theorem ZE (x : UInt8) : (ZN x).length = 1 := rfl
theorem Z1h (x : UInt8) : (ZN x).all (·.oneCell') = true := rfl
theorem Z25 {w : World} {v : Value} {s : List UInt8} (h : ListAt ZN 1 w v s) : BytesAt w v s := by
 rcases h with h | ⟨h0, b', o, c', e, hc, h⟩
 ·exact .inl h
 ·exact .inr ⟨h0, b', o, c', e, hc, fun i hi => by have := h i hi 0 (Z42 s[i]) rfl; rw [Addr.add_lit] at this; exact this⟩
theorem Z6e {w : World} {v : Value} {s : List UInt8} (h : BytesAt w v s) : ListAt ZN 1 w v s := by
 rcases h with h | ⟨h0, b', o, c', e, hc, h⟩
 ·exact .inl h
 ·refine .inr ⟨h0, b', o, c', e, hc, fun i hi j u hj => ?_⟩
  match j, hj with
  | 0, hj =>
   simp only [ZN, List.getElem?_cons_zero, Option.some.injEq] at hj
   subst hj
   rw [Addr.add_lit]; exact h i hi
  | _ + 1, hj => simp [ZN] at hj
def Z1G (k : IntKind) (a b : Int) : Int := k.wrap ((BitVec.ofInt k.bits a &&& BitVec.ofInt k.bits b).toNat : Int)
def bOr (k : IntKind) (a b : Int) : Int := k.wrap ((BitVec.ofInt k.bits a ||| BitVec.ofInt k.bits b).toNat : Int)
def Z0q (k : IntKind) (a b : Int) : Int := k.wrap ((BitVec.ofInt k.bits a ^^^ BitVec.ofInt k.bits b).toNat : Int)
def Z5f (k : IntKind) (a : Int) (m : Int) : Int := k.wrap (a * 2 ^ (min m.toNat k.bits))
theorem Z2m {z : Int} (h : 0 ≤ z ∧ z < 18446744073709551616) : IntKind.u64.wrap z = z := by
 simp [IntKind.wrap, IntKind.signed, IntKind.bits]; omega
theorem ZaW {z : Int} (h : 0 ≤ z ∧ z < 256) : IntKind.u8.wrap z = z := by
 simp [IntKind.wrap, IntKind.signed, IntKind.bits]; omega
theorem Z2K (z : Int) : 0 ≤ IntKind.u64.wrap z ∧ IntKind.u64.wrap z < 18446744073709551616 := by
 simp [IntKind.wrap, IntKind.signed, IntKind.bits]; omega
section
variable {P : Program} {n : Nat} {f : Nat → Value} {w : World} {dst : Option Tmp} {ty : TypeId} {pos : String} {aft : Array Edge} {gd : Option (Nat × Bool)}
theorem Z7j {k yk : IntKind} {x y : Operand} {t T : TypeId} {a m D : Int} (hx : ev n f x = .int k a) (hy : ev n f y = .int yk m) (hm : 0 ≤ m) (hD : (2 : Int) ^ (min m.toNat k.bits) = D) (h0 : 0 ≤ D) :
  (execOp (ev n f) ⟨dst, .binOp .shr t x y T, ty, pos, aft, gd⟩).run P w = .ok (.value (.int k (a / D))) w := by
 have hm' : ¬ m < 0 := by omega
 simp only [execOp, hx, hy, binOp, Op.shift]
 simp [hm', eqGuard, hD, Int.fdiv_eq_ediv_of_nonneg _ h0]
theorem Zb7 {k yk : IntKind} {x y : Operand} {t T : TypeId} {a m : Int} (hx : ev n f x = .int k a) (hy : ev n f y = .int yk m) (hm : 0 ≤ m) :
  (execOp (ev n f) ⟨dst, .binOp .shl t x y T, ty, pos, aft, gd⟩).run P w = .ok (.value (.int k (Z5f k a m))) w := by
 have hm' : ¬ m < 0 := by omega
 simp only [execOp, hx, hy, binOp, Op.shift, Z5f]
 simp [hm', eqGuard]
end
def Z97 : Nat → Nat → List UInt8
 | 0, _ => []
 | f + 1, n => if n < 128 then [UInt8.ofNat n] else UInt8.ofNat (n % 128 + 128) :: Z97 f (n / 128)
def Z0W (n : Nat) : List UInt8 := Z97 10 n
theorem Z98 (f n : Nat) : (Z97 f n).length ≤ f := by
 induction f generalizing n with
 | zero => simp [Z97]
 | succ f ih => unfold Z97; split <;> simp; exact ih _
theorem Z4f {z : Int} (h : 0 ≤ z ∧ z < 256) : ([.int .u8 z] : List Value) = [UInt8.ofNat z.toNat].flatMap ZN := by
 have : (UInt8.ofNat z.toNat).toNat = z.toNat := by simp; omega
 simp only [List.flatMap_cons, List.flatMap_nil, List.append_nil, ZN, Z42, this, Int.toNat_of_nonneg h.1]
theorem Z3h (z : Int) : IntKind.u8.wrap z = z % 256 := by
 simp [IntKind.wrap, IntKind.signed, IntKind.bits]
theorem Z8p {z : Int} (_h : 0 ≤ z) : bOr .u8 (z % 256) 128 = z % 128 + 128 := by
 have key : ∀ k : Fin 256, bOr .u8 ((k.val : Nat) : Int) 128 = (((k.val % 128 + 128 : Nat)) : Int) := by decide +kernel
 have hk : (z % 256).toNat < 256 := by omega
 have := key ⟨(z % 256).toNat, hk⟩
 simp only at this
 rw [Int.toNat_of_nonneg (by omega)] at this
 rw [this]; omega
structure Of (S : World → Prop) where
 w : World
 h : S w
theorem Calls.of {P : Program} {S : World → Prop} {f : FuncId} {args : Array Value} {w : World} {v : Value} {R : Ending → World → Prop}
  (h : Calls P f args w R) (hR : ∀ e w', R e w' → e = .returned v ∧ S w') : Calls P f args w fun e w'' => e = .returned v ∧ ∃ x : Of S, w'' = x.w :=
 h.mono fun e w' hr => ⟨(hR e w' hr).1, ⟨⟨w', (hR e w' hr).2⟩, rfl⟩⟩
end Go.Proofs.YtoaifondpohniaaGreat
