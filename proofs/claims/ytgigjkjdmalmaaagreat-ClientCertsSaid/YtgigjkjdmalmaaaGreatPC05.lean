/- WHAT IS PROVED: contracts and plain laws of BookD, StrB, RowSt, Ins, ListAt, BytesD, Bits, VarB, Reg, Frame, FrameHash. Conditions: stated with each. -/
import Derived.Lib.BitFns
import Derived.Lib.ItoaNum
import Derived.ProofKit
import Derived.OpenShut
import Derived.JoinedCond
import Derived.Deep.Slices
import Derived.Test.YtgigjkjdmalmaaaGreatPC00
import Derived.Test.YtgigjkjdmalmaaaGreatPC02
import Derived.Test.YtgigjkjdmalmaaaGreatPC03
import Derived.Test.YtgigjkjdmalmaaaGreatPC04
set_option maxHeartbeats 4000000
set_option maxRecDepth 100000
namespace Go.Proofs.YtgigjkjdmalmaaaGreat
open Go.RowKit
structure Z4 where
 p : Int
 s : List UInt8
 deriving DecidableEq
def Zc (x : Z4) : Value := .agg #[.int .i64 x.p, ZX x.s]
theorem Z6L (w : World) (x y : Z4) : (Op.equal 125 (Zc x) (Zc y)).run Tryz.prog w = .ok (decide (x = y)) w := by
 simp only [Op.equal, Op.maxDepth, Zc, ZX]
 simp [go_sem]
 obtain ⟨x1, x2⟩ := x
 obtain ⟨y1, y2⟩ := y
 have := Z6P x2 y2
 by_cases h1 : x1 = y1 <;> by_cases h2 : x2 = y2 <;> simp_all
theorem Z4I (w : World) (em : Bool) (x : Z4) : (Instr.checkKey em 10000 125 (Zc x)).run Tryz.prog w = .ok () w := by
 have h : ∀ n, (Instr.checkKey em (n + 2) 125 (Zc x)).run Tryz.prog w = .ok () w := fun n => by simp [Instr.checkKey, Zc, ZX, go_sem]
 exact h 9998
theorem Z3i : KeyTy Tryz.prog 125 Zc := KeyTy.deep (by kernel_rfl) Z4I Z6L (by
 intro a
 simp [Zc, ZX, Instr.sameBits, Z7t])
def Zk (l : List Z4) : List (Z4 × Int) := l.zipIdx.map fun x => (x.1, (x.2 : Int) + 1)
def Z9 (l : List Z4) (x : Z4) : Int := ((l.idxOf? x).map fun i => (i : Int) + 1).getD 0
def Zd (l : List Z4) (x : Z4) : List Z4 := if x ∈ l then l else l ++ [x]
def BookAt (w : World) (b mb : Nat) (l : List Z4) : Prop := w.heap[b]? = some (.cells #[.map (some mb)] 108) ∧ b ≠ mb ∧ MapAt w mb Zc (Value.int .i64) (Zk l)
theorem Z3L (l : List Z4) : (Zk l).map (·.1) = l := by
 simp [Zk, List.map_map, Function.comp_def]
theorem Z7g (l : List Z4) (i : Nat) : (Zk l)[i]? = (l[i]?).map fun x => (x, (i : Int) + 1) := by
 simp [Zk, List.getElem?_map, List.getElem?_zipIdx, Function.comp_def]
theorem Z2E (l : List Z4) (x : Z4) : Z0f (Zk l) x = (l.idxOf? x).map fun i => (i : Int) + 1 := by
 rw [Z4A, Z3L]
 cases h : l.idxOf? x with
 | none => simp
 | some i =>
  obtain ⟨h1, _⟩ := List.idxOf?_eq_some_iff.1 h
  simp [Z7g, List.getElem?_eq_getElem h1]
theorem Z6C (l : List Z4) (x : Z4) (h : x ∉ l) : Z2q (Zk l) x ((l.length : Int) + 1) = Zk (l ++ [x]) := by
 unfold Z2q
 rw [Z3L, if_neg h]
 simp [Zk, List.zipIdx_append]
theorem Z6w (l : List Z4) : (Zk l).length = l.length := by simp [Zk]
theorem BookAt.upd {w w' : World} {b mb : Nat} {l : List Z4} {D : List Nat} (h : BookAt w b mb l) (hu : Upd D w w') (h1 : b ∉ D) (h2 : mb ∉ D) : BookAt w' b mb l := ⟨hu.at h.1 h1, h.2.1, h.2.2.upd hu h2⟩
theorem BookAt.lt {w : World} {b mb : Nat} {l : List Z4} (h : BookAt w b mb l) : b < w.heap.size ∧ mb < w.heap.size := ⟨Z1B h.1, h.2.2.lt⟩
theorem BookAt.alloc {w : World} {b mb : Nat} {l : List Z4} (h : BookAt w b mb l) (o : Obj) : BookAt (w.alloc o) b mb l := h.upd ((Upd.refl [] w).alloc o) (by simp) (by simp)
theorem BookAt.drew {w : World} {b mb : Nat} {l : List Z4} (h : BookAt w b mb l) : BookAt w.drew b mb l := h.upd ((Upd.refl [] w).drew) (by simp) (by simp)
theorem Z3c {l : List Z4} {x : Z4} (h : x ∉ l) : Z9 l x = 0 := by
 have : l.idxOf? x = none := List.idxOf?_eq_none_iff.2 h
 simp [Z9, this]
theorem Z3K {l : List Z4} {x : Z4} (h : x ∈ l) : 1 ≤ Z9 l x ∧ Z9 l x ≤ l.length := by
 cases hi : l.idxOf? x with
 | none => exact absurd h (List.idxOf?_eq_none_iff.1 hi)
 | some i =>
  obtain ⟨h1, _⟩ := List.idxOf?_eq_some_iff.1 hi
  simp [Z9, hi]; omega
def Z1S (l : List Z4) (p mk : Int) (s : List UInt8) : Bool := decide (0 < Z9 l ⟨p, s⟩ ∧ Z9 l ⟨p, s⟩ = mk)
theorem Z6K (l : List Z4) (x : Z4) : x ∈ Zd l x := by unfold Zd; split <;> simp_all
theorem Z2T {l : List Z4} {x : Z4} (h : x ∈ l) : Zd l x = l := if_pos h
theorem Z1T (l : List Z4) (x : Z4) : (Zd l x).length ≤ l.length + 1 := by unfold Zd; split <;> simp
section
variable {P : Program} {n : Nat} {f : Nat → Value} {w : World} {dst : Option Tmp} {ty : TypeId} {pos : String} {aft : Array Edge} {gd : Option (Nat × Bool)}
theorem Z37 {S D e : TypeId} {x : Operand} {v : Value} {s : List UInt8} (hs : P.underlying S = some (.slice e)) (he : P.underlying e = some (.int .u8)) (hd : P.underlying D = some .string) (hx : ev n f x = v) (hb : BytesAt w v s) :
  (execOp (ev n f) ⟨dst, .convert S D x, ty, pos, aft, gd⟩).run P w = .ok (.value (ZX s)) w := by
 simp [execOp, hx, Z2U hb hs he hd, Result.andThen]
end
section
variable {P : Program} {n : Nat} {f : Nat → Value} {w w' : World} {dst : Option Tmp} {ty : TypeId} {pos : String} {aft : Array Edge} {gd : Option (Nat × Bool)} {w0 : World} {G : List Ck} {K : Act → World → Prop} {Q : Exit → Act → World → Prop}
theorem Z3Q (cs : List Value) (o : Nat) (vs : List Value) (h : o + vs.length ≤ cs.length) : (Z0I cs o vs).length = cs.length := by
 simp only [Z0I, List.length_append, List.length_take, List.length_drop]; omega
theorem Z5b (cs : List Value) (o : Nat) (vs : List Value) (m : Nat) (h : o + vs.length ≤ m) (hm : m ≤ cs.length) : (Z0I cs o vs).take m = Z0I (cs.take m) o vs := by
 unfold Z0I
 rw [List.take_append, List.take_of_length_le (by rw [List.length_append, List.length_take]; omega), List.take_take, Nat.min_eq_left (by omega), List.length_append, List.length_take, Nat.min_eq_left (by omega), List.drop_take]
theorem Z6G {e size k c g o : Nat} {v : Value} {xs vs : List Value} (h : (Ze e size v k xs).ok w) (hv : v = .slice (some ⟨g, 0, none⟩) k c) {T : TypeId} {x y : Operand} {u : Value} (hx : ev n f x = .pointer (some ⟨g, o, none⟩)) (hy : ev n f y = u) (hu : u.cells = ⟨vs⟩) (hN : P.cellsOf T = vs.length) (h0 : 0 < vs.length) (ho : o + vs.length ≤ xs.length) (h1 : vs.all (·.oneCell') = true) :
  ∃ w', (execOp (ev n f) ⟨dst, .store T x y, ty, pos, aft, gd⟩).run P w = .ok .skip w' ∧ (Ze e size v k (Z0I xs o vs)).ok w' ∧ Ext w w' ∧ ∀ b, b ≠ g → w'.heap[b]? = w.heap[b]? := by
 obtain ⟨hl, h⟩ := h
 rcases h with ⟨h2, _⟩ | ⟨g', cap, cur, h2, hb, hg, hc, hm, hcs, ht⟩
 ·rw [hv] at h2; cases h2
 rw [hv] at h2
 obtain ⟨rfl, rfl⟩ : g = g' ∧ c = cap := by simpa using h2
 have hxl : xs.length ≤ cur.toList.length := by rw [← ht, List.length_take]; exact Nat.min_le_right ..
 obtain ⟨w', hr, hb', he, hk⟩ := Z40 (P := P) (dst := dst) (ty := ty) (pos := pos) (aft := aft) (gd := gd) (cs := cur.toList) hx hy hu hN h0 (by simpa using hg) (by omega) (fun v hv => List.all_eq_true.1 h1 v hv)
 refine ⟨w', hr, ⟨by rw [Z3Q _ _ _ ho]; exact hl, .inr ⟨g, c, _, hv, hb, hb', hc, hm, ?_, ?_⟩⟩, he, hk⟩
 ·show (Z0I cur.toList o vs).length = _
  rw [Z3Q _ _ _ (by omega)]; simpa using hcs
 ·show (Z0I cur.toList o vs).take (k * size) = _
  rw [Z5b _ _ _ _ (by omega) (by rw [← hl]; exact hxl), ht]
theorem Z5F {e size k c g o : Nat} {v : Value} {xs vs : List Value} {T : TypeId} {x y : Operand} {u : Value} (hd : dst = none) (H : Sat w0 G w) (i : Nat) (hi : G[i]? = some (Ze e size v k xs)) (hv : v = .slice (some ⟨g, 0, none⟩) k c) (hx : ev n f x = .pointer (some ⟨g, o, none⟩)) (hy : ev n f y = u) (hu : u.cells = ⟨vs⟩) (hN : P.cellsOf T = vs.length) (h0 : 0 < vs.length) (ho : o + vs.length ≤ xs.length) (h1 : vs.all (·.oneCell') = true)
  {xs' : List Value} (hxs : Z0I xs o vs = xs') (k' : ∀ w', Sat w0 (G.set i (Ze e size v k xs')) w' → K (fr n f) w') : WO P ⟨dst, .store T x y, ty, pos, aft, gd⟩ K Q n f w := by
 obtain ⟨w', hr, hok, he, hk⟩ := Z6G (P := P) (dst := dst) (ty := ty) (pos := pos) (aft := aft) (gd := gd) (H.at i hi) hv hx hy hu hN h0 ho h1
 subst hxs
 refine Z4p hd hr (k' w' (H.set i hi he (fun b _ hb => hk b fun e => hb ?_) hok fun b hb => .inl hb))
 show v.ownBlock = some b
 rw [hv, e]; rfl
theorem Z58 {T E : TypeId} {a : Option Addr} {len cap : Nat} {k : IntKind} {z : Int} {i : TypeInfo} (hT : P.underlying T = some (.slice E)) (hi : P.info? E = some i) (h1 : 0 ≤ z) (h2 : z ≤ cap) :
  (Instr.slice T (.slice a len cap) none (some (.int k z)) none).run P w = .ok (.slice a z.toNat cap) w := by
 have e0 : a.map (·.add (0 * i.size)) = a := by cases a <;> simp [Addr.add]
 simp [Instr.slice, run_underlying hT, Instr.sliceBounds, Instr.sliceBound, asIntOf, h1, h2, Result.andThen, sizeOf, typeInfo, hi]
 intro _
 cases a <;> simp [Addr.add]
end
section
variable {α : Type} {w W : World} {v : Value} {b o q : Nat}
theorem Z2c {vs : List Value} (h : Z1L w ⟨b, o, none⟩ vs) (d : Nat) {u : Value} (hu : vs[d]? = some u) (hq : q = o + d) : w.cell? ⟨b, q, none⟩ = some u := by
 have := h d u hu
 rw [Addr.add_lit] at this
 rw [hq]; exact this
theorem Z4i {vs us : List Value} (h : Z1L w ⟨b, o, none⟩ vs) (d : Nat) (hu : (vs.drop d).take us.length = us) (hq : q = o + d) : Z1L w ⟨b, q, none⟩ us := by
 intro j u hj
 have hl : j < us.length := (List.getElem?_eq_some_iff.1 hj).1
 rw [Addr.add_lit]
 refine Z2c h (d + j) ?_ (by omega)
 rw [← hu, List.getElem?_take, if_pos hl, List.getElem?_drop] at hj
 exact hj
theorem Sat.runR {w0 : World} {G : List Ck} {D : Nat → Prop} (H : Sat w0 G w) (i : Nat) (hi : G[i]? = some (Za W D)) {vs : List Value} (h : Z1L W ⟨b, o, none⟩ vs) (hD : ¬ D b) : Z1L w ⟨b, o, none⟩ vs := fun j u hj => by
 have := h j u hj
 rw [Addr.add_lit] at this ⊢
 exact H.cellR i hi this hD
theorem IntsAt.atD {s : List Int} (h : IntsAt w v s) {i : Nat} (hi : i < s.length) : ∃ b o cap, v = .slice (Option.some ⟨b, o, none⟩) s.length cap ∧ Z1L w ⟨b, o + i * 1, none⟩ [.int .i64 (s.getD i 0)] := by
 obtain ⟨b, o, cap, e, _, h⟩ := h.some (by omega)
 refine ⟨b, o, cap, e, fun j u hj => ?_⟩
 match j, hj with
 | 0, hj =>
  simp only [List.getElem?_cons_zero, Option.some.injEq] at hj
  subst hj
  rw [Addr.add_lit]
  simpa using h i hi
theorem SliceOf.atD {L : α → List Value} {sz : Nat} {s : List α} (h : SliceOf (fun w a x => Z1L w a (L x)) sz w v s) (d : α) {i : Nat} (hi : i < s.length) : ∃ b o cap, v = .slice (Option.some ⟨b, o, none⟩) s.length cap ∧ Z1L w ⟨b, o + i * sz, none⟩ (L (s.getD i d)) := by
 obtain ⟨b, o, cap, e, _, h⟩ := SliceOf.some h (by omega)
 refine ⟨b, o, cap, e, ?_⟩
 have := h i hi
 rwa [show s.getD i d = s[i] by simp [List.getD, List.getElem?_eq_getElem hi]]
end
section
variable {P : Program} {n : Nat} {f : Nat → Value} {w : World} {dst : Option Tmp} {ty : TypeId} {pos : String} {aft : Array Edge} {gd : Option (Nat × Bool)}
theorem Z0d {T E : TypeId} {x y : Operand} {v : Value} {b o len cap sz : Nat} {k : IntKind} {z : Int} (hT : P.underlying T = some (.slice E)) (hs : P.cellsOf E = sz) (h0 : 0 < sz) (hx : ev n f x = v) (hv : v = .slice (some ⟨b, o, none⟩) len cap) (hy : ev n f y = .int k z) (h1 : 0 ≤ z) (h2 : z < len) :
  (execOp (ev n f) ⟨dst, .indexAddr T x y, ty, pos, aft, gd⟩).run P w = .ok (.value (.pointer (some ⟨b, o + z.toNat * sz, none⟩))) w :=
 Z18 hT hs h0 (hx.trans hv) hy h1 h2
end
def ListAt {α : Type} (enc : α → List Value) (sz : Nat) (w : World) (v : Value) (xs : List α) : Prop := SliceOf (fun w a x => Z1L w a (enc x)) sz w v xs
section
variable {α : Type} {enc : α → List Value} {sz : Nat} {w w' W : World} {v : Value} {xs : List α}
theorem Z3N {a : Addr} {vs : List Value} (h : Z1L w a vs) (hc : ∀ p x, w.cell? p = some x → w'.cell? p = some x) : Z1L w' a vs := fun j u hj => hc _ _ (h j u hj)
theorem ListAt.mono (h : ListAt enc sz w v xs) (hc : ∀ p x, w.cell? p = some x → w'.cell? p = some x) : ListAt enc sz w' v xs := SliceOf.mono h fun _ _ hx => Z3N hx hc
theorem ListAt.now {G : List Ck} {w0 : World} (H : Sat w0 G w) (j : Nat) (hj : G[j]? = Option.some (Za W fun _ => False)) (hv : ListAt enc sz W v xs) : ListAt enc sz w v xs :=
 SliceOf.mono hv fun _ _ hx => Z3N hx fun _ _ h => H.cellR j hj h (fun h => h)
theorem ListAt.nil : ListAt enc sz w (.slice none 0 0) ([] : List α) := SliceOf.nil
theorem ListAt.row {e n : Nat} (hs : ∀ x, (enc x).length = sz) (h0 : 0 < sz) (h : (Ze e sz v n (xs.flatMap enc)).ok w) : ListAt enc sz w v xs := by
 have hl : xs.length = n := by
  have := h.1
  rw [Z1t enc sz hs] at this
  exact Nat.eq_of_mul_eq_mul_right h0 this
 subst hl
 rcases h.2 with ⟨rfl, hn⟩ | ⟨g, cap, cur, rfl, hb, hgg, hc, hm, hcs, htake⟩
 ·obtain rfl := List.eq_nil_of_length_eq_zero hn
  exact SliceOf.nil
 ·by_cases hz : xs.length = 0
  ·obtain rfl := List.eq_nil_of_length_eq_zero hz
   exact .inl ⟨_, cap, rfl, rfl, hm, by simp⟩
  ·refine .inr ⟨by omega, g, 0, cap, rfl, ⟨hc, hm⟩, fun i hi j u hj => ?_⟩
   have hjl : j < sz := by rw [← hs xs[i]]; exact (List.getElem?_eq_some_iff.1 hj).1
   rw [Addr.add_lit]
   refine Z5s (k := xs.length) (c := cap) h rfl ?_
   rw [Nat.zero_add, Z2k enc sz hs xs i j xs[i] (List.getElem?_eq_getElem hi) hjl]
   exact hj
theorem ListAt.take {a : Option Addr} {n c k : Nat} (h : ListAt enc sz w (.slice a n c) xs) (hk : k ≤ n) : ListAt enc sz w (.slice a k c) (xs.take k) := by
 rcases h with ⟨a', c', e, rfl, hc, ha⟩ | ⟨h0, b, o, c', e, ⟨h1, h2⟩, h⟩
 ·simp only [Value.slice.injEq] at e
  obtain ⟨rfl, rfl, rfl⟩ := e
  obtain rfl : k = 0 := by omega
  exact .inl ⟨_, _, rfl, by simp, hc, ha⟩
 ·simp only [Value.slice.injEq] at e
  obtain ⟨rfl, rfl, rfl⟩ := e
  have hl : (xs.take k).length = k := by rw [List.length_take]; omega
  by_cases hz : k = 0
  ·subst hz; exact .inl ⟨_, _, rfl, by simp, h2, by simp⟩
  ·refine .inr ⟨by omega, b, o, _, by rw [hl], ⟨by omega, h2⟩, fun i hi => ?_⟩
   rw [List.getElem_take]
   exact h i (by rw [hl] at hi; omega)
theorem ListAt.drop {b o n c k : Nat} (h : ListAt enc sz w (.slice (some ⟨b, o, none⟩) n c) xs) (hk : k ≤ n) : ListAt enc sz w (.slice (some (if c = k then ⟨b, o, none⟩ else ⟨b, o + k * sz, none⟩)) (n - k) (c - k)) (xs.drop k) := by
 rcases h with ⟨a', c', e, rfl, hc, ha⟩ | ⟨h0, b', o', c', e, ⟨h1, h2⟩, h⟩
 ·simp only [Value.slice.injEq] at e
  obtain ⟨rfl, rfl, rfl⟩ := e
  obtain rfl : k = 0 := by omega
  exact .inl ⟨_, _, rfl, by simp, by omega, by simp⟩
 ·simp only [Value.slice.injEq, Option.some.injEq, Addr.mk.injEq] at e
  obtain ⟨⟨rfl, rfl, _⟩, rfl, rfl⟩ := e
  have hl : (xs.drop k).length = xs.length - k := List.length_drop
  by_cases hz : k = xs.length
  ·subst hz; exact .inl ⟨_, c - xs.length, by rw [Nat.sub_self], by simp, by omega, fun h => by cases h⟩
  ·refine .inr ⟨by omega, b, o + k * sz, c - k, by rw [hl, if_neg (by omega)], ⟨by rw [hl]; omega, by omega⟩, fun i hi => ?_⟩
   rw [List.getElem_drop]
   have := h (k + i) (by rw [hl] at hi; omega)
   rwa [show o + k * sz + i * sz = o + (k + i) * sz by rw [Nat.add_mul]; omega]
theorem ListAt.cap {a : Option Addr} {n c : Nat} (h : ListAt enc sz w (.slice a n c) xs) : n ≤ c := by
 rcases h with ⟨a', c', e, rfl, hc, ha⟩ | ⟨h0, b, o, c', e, ⟨h1, h2⟩, h⟩
 ·simp only [Value.slice.injEq] at e
  obtain ⟨rfl, rfl, rfl⟩ := e
  omega
 ·simp only [Value.slice.injEq] at e
  obtain ⟨rfl, rfl, rfl⟩ := e
  exact h1
theorem ListAt.len (h : ListAt enc sz w v xs) : ∃ a c, v = .slice a xs.length c := SliceOf.len h
theorem ListAt.cells (hs : ∀ x, (enc x).length = sz) (h0 : 0 < sz) (h : ListAt enc sz w v xs) (hp : 0 < xs.length) : ∃ b o c, v = .slice (some ⟨b, o, none⟩) xs.length c ∧ ∀ j u, (xs.flatMap enc)[j]? = some u → w.cell? ((⟨b, o, none⟩ : Addr).add j) = some u := by
 obtain ⟨b, o, c, e, _, h⟩ := SliceOf.some h hp
 refine ⟨b, o, c, e, fun j u hj => ?_⟩
 have hjl : j < xs.length * sz := by rw [← Z1t enc sz hs]; exact (List.getElem?_eq_some_iff.1 hj).1
 have hi : j / sz < xs.length := Nat.div_lt_of_lt_mul (by rwa [Nat.mul_comm])
 have hd : j = j / sz * sz + j % sz := by have := Nat.div_add_mod j sz; rw [Nat.mul_comm] at this; omega
 have := Z2k enc sz hs xs (j / sz) (j % sz) xs[j / sz] (List.getElem?_eq_getElem hi) (Nat.mod_lt _ h0)
 rw [← hd, hj] at this
 have hc := h (j / sz) hi (j % sz) u this.symm
 rw [Addr.add_lit] at hc ⊢
 rwa [hd, ← Nat.add_assoc]
end
section
variable {P : Program} {n : Nat} {f : Nat → Value} {w w' : World} {dst : Option Tmp} {ty : TypeId} {pos : String} {aft : Array Edge} {gd : Option (Nat × Bool)} {w0 : World} {G : List Ck} {K : Act → World → Prop} {Q : Exit → Act → World → Prop}
variable {α : Type} {enc : α → List Value}
theorem Z30 {T e : TypeId} {size bytes : Nat} (hR : Z3w P T e size bytes = true) (hs : ∀ x, (enc x).length = size) (h1 : ∀ x, (enc x).all (·.oneCell') = true) {v u : Value} {k : Nat} {xs : List Value} {ys : List α} (hv : w.ownsRow 0 e size v k xs) (hu : ListAt enc size w u ys) (hb : (k + ys.length) * bytes ≤ 140737488355328) (h63 : k + ys.length ≤ 140737488355328) :
  ∃ v' w', (Builtin.append_ #[T, T] ty #[v, u]).run P w = .ok v' w' ∧ w'.ownsRow 0 e size v' (k + ys.length) (xs ++ ys.flatMap enc) ∧ w.grownBy w' v.ownBlock ∧ ∀ b, v'.ownBlock = some b → v.ownBlock = some b ∨ w.heap.size ≤ b := by
 obtain ⟨i, z, ht, hi, hz, hsz, hby, hzs, h0⟩ := Z2X hR
 have own := fun (a : Addr) (m c : Nat) (news : List Value) => Z3z (P := P) (ty := ty) w 0 T e i z size bytes ht hi hz hsz hby hzs h0 v k xs hv a m c news
 by_cases hp : 0 < ys.length
 ·obtain ⟨b, o, c, rfl, hc⟩ := hu.cells hs h0 hp
  exact own ⟨b, o, none⟩ ys.length c (ys.flatMap enc) (Z1t enc size hs ys) hc (fun x hx => List.all_eq_true.1 (Z0m enc h1 ys) x hx) (by unfold maxLen; omega) hb (Nat.zero_le _)
 ·obtain rfl : ys = [] := List.eq_nil_of_length_eq_zero (by omega)
  rcases hu with ⟨a, c, rfl, _, hc, ha⟩ | ⟨h, _⟩
  ·cases a with
   | none =>
    obtain rfl := ha rfl
    exact ⟨v, w, Z31 w T ty e i ht hi hv, by simpa using hv, ⟨rfl, rfl, rfl, Nat.le_refl _, fun _ _ _ => rfl⟩, fun b h => .inl h⟩
   | some ad =>
    have := own ad 0 c [] (by simp) (by simp) (by simp) (by simp at h63; unfold maxLen; omega) (by simpa using hb) (Nat.zero_le _)
    simpa using this
  ·simp at h
theorem Z2e {T e : TypeId} {size bytes : Nat} {x y : Operand} {d : Nat} (hd : dst = some d) (H : Sat w0 G w) (hR : Z3w P T e size bytes = true) (hs : ∀ x, (enc x).length = size) (h1 : ∀ x, (enc x).all (·.oneCell') = true) (i : Nat) {v u : Value} {k : Nat} {xs : List Value} {ys : List α} (hi : G[i]? = some (Ze e size v k xs)) (hu : ListAt enc size w u ys)
  (hx : ev n f x = v) (hy : ev n f y = u) (hb : (k + ys.length) * bytes ≤ 140737488355328) (h63 : k + ys.length ≤ 140737488355328)
  (kk : ∀ v' w', Sat w0 (G.set i (Ze e size v' (k + ys.length) (xs ++ ys.flatMap enc))) w' → K (fr n (upd f d v')) w') : WO P ⟨dst, .call { callee := .builtin .append, args := #[x, y], argTypes := #[T, T] }, ty, pos, aft, gd⟩ K Q n f w := by
 obtain ⟨v', w', hr, ho, hg, hn⟩ := Z30 (ty := ty) hR hs h1 (H.at i hi) hu hb h63
 exact Z36 hd (Z2V hx hy hr) (kk v' w' (H.set i hi (Z2j hg) (fun b hb hne => hg.block b hb fun e => hne e.symm) ho hn))
theorem Z1M {T e : TypeId} {size bytes : Nat} {x y : Operand} {d : Nat} (hd : dst = some d) (H : Sat w0 G w) (hR : Z3w P T e size bytes = true) (hs : ∀ x, (enc x).length = size) (h1 : ∀ x, (enc x).all (·.oneCell') = true) {u : Value} {ys : List α} (hu : ListAt enc size w u ys)
  (hx : ev n f x = .slice none 0 0) (hy : ev n f y = u) (hb : ys.length * bytes ≤ 140737488355328) (h63 : ys.length ≤ 140737488355328)
  (kk : ∀ v' w', Sat w0 (G ++ [Ze e size v' ys.length (ys.flatMap enc)]) w' → K (fr n (upd f d v')) w') : WO P ⟨dst, .call { callee := .builtin .append, args := #[x, y], argTypes := #[T, T] }, ty, pos, aft, gd⟩ K Q n f w := by
 obtain ⟨v', w', hr, ho, hg, hn⟩ := Z30 (ty := ty) hR hs h1 (World.ownsRow_nil w 0 e size) hu (by simpa using hb) (by simpa using h63)
 simp only [Nat.zero_add, List.nil_append] at ho
 refine Z36 hd (Z2V hx hy hr) (kk v' w' (H.add (Z2j hg) (fun b hb => hg.block b hb (by simp [Value.ownBlock])) ho fun b hb => ?_))
 rcases hn b hb with h | h
 ·simp [Value.ownBlock] at h
 ·exact h
theorem Z6e {T E : TypeId} {x y : Operand} {a : Option Addr} {len cap : Nat} {k : IntKind} {z : Int} {q : Nat} (hT : P.underlying T = some (.slice E)) (hE : (P.info? E).isSome = true) (hx : ev n f x = .slice a len cap) (hy : ev n f y = .int k z) (h1 : z = (q : Int)) (h2 : q ≤ cap) :
  (execOp (ev n f) ⟨dst, .slice T x none (some y) none, ty, pos, aft, gd⟩).run P w = .ok (.value (.slice a q cap)) w := by
 obtain ⟨i, hi⟩ := Option.isSome_iff_exists.1 hE
 subst h1
 have := Z58 (w := w) (a := a) (len := len) (cap := cap) (k := k) (z := (q : Int)) hT hi (by omega) (by omega)
 rw [Int.toNat_natCast] at this
 simp only [execOp, Instr.sliceAt, Option.map, hx, hy]
 simp [run_underlying hT, this, Result.andThen]
end
def Zo (c : UInt8) : List Value := [Z27 c]
theorem ZV (x : UInt8) : (Zo x).length = 1 := rfl
theorem Z0s (x : UInt8) : (Zo x).all (·.oneCell') = true := rfl
theorem Z1y {w : World} {v : Value} {s : List UInt8} (h : ListAt Zo 1 w v s) : BytesAt w v s := by
 rcases h with h | ⟨h0, b', o, c', e, hc, h⟩
 ·exact .inl h
 ·exact .inr ⟨h0, b', o, c', e, hc, fun i hi => by have := h i hi 0 (Z27 s[i]) rfl; rw [Addr.add_lit] at this; exact this⟩
theorem Z3B {w : World} {v : Value} {s : List UInt8} (h : BytesAt w v s) : ListAt Zo 1 w v s := by
 rcases h with h | ⟨h0, b', o, c', e, hc, h⟩
 ·exact .inl h
 ·refine .inr ⟨h0, b', o, c', e, hc, fun i hi j u hj => ?_⟩
  match j, hj with
  | 0, hj =>
   simp only [Zo, List.getElem?_cons_zero, Option.some.injEq] at hj
   subst hj
   rw [Addr.add_lit]; exact h i hi
  | _ + 1, hj => simp [Zo] at hj
def Z0e (k : IntKind) (a b : Int) : Int := k.wrap ((BitVec.ofInt k.bits a &&& BitVec.ofInt k.bits b).toNat : Int)
def bOr (k : IntKind) (a b : Int) : Int := k.wrap ((BitVec.ofInt k.bits a ||| BitVec.ofInt k.bits b).toNat : Int)
def ZH (k : IntKind) (a b : Int) : Int := k.wrap ((BitVec.ofInt k.bits a ^^^ BitVec.ofInt k.bits b).toNat : Int)
def Z1d (k : IntKind) (a : Int) (m : Int) : Int := k.wrap (a * 2 ^ (min m.toNat k.bits))
theorem Z0Z {z : Int} (h : 0 ≤ z ∧ z < 18446744073709551616) : IntKind.u64.wrap z = z := by
 simp [IntKind.wrap, IntKind.signed, IntKind.bits]; omega
theorem Z6X {z : Int} (h : 0 ≤ z ∧ z < 256) : IntKind.u8.wrap z = z := by
 simp [IntKind.wrap, IntKind.signed, IntKind.bits]; omega
section
variable {P : Program} {n : Nat} {f : Nat → Value} {w : World} {dst : Option Tmp} {ty : TypeId} {pos : String} {aft : Array Edge} {gd : Option (Nat × Bool)}
theorem Z2y {k yk : IntKind} {x y : Operand} {t T : TypeId} {a m D : Int} (hx : ev n f x = .int k a) (hy : ev n f y = .int yk m) (hm : 0 ≤ m) (hD : (2 : Int) ^ (min m.toNat k.bits) = D) (h0 : 0 ≤ D) :
  (execOp (ev n f) ⟨dst, .binOp .shr t x y T, ty, pos, aft, gd⟩).run P w = .ok (.value (.int k (a / D))) w := by
 have hm' : ¬ m < 0 := by omega
 simp only [execOp, hx, hy, binOp, Op.shift]
 simp [hm', eqGuard, hD, Int.fdiv_eq_ediv_of_nonneg _ h0]
theorem Z3Z {k yk : IntKind} {x y : Operand} {t T : TypeId} {a m : Int} (hx : ev n f x = .int k a) (hy : ev n f y = .int yk m) (hm : 0 ≤ m) :
  (execOp (ev n f) ⟨dst, .binOp .shl t x y T, ty, pos, aft, gd⟩).run P w = .ok (.value (.int k (Z1d k a m))) w := by
 have hm' : ¬ m < 0 := by omega
 simp only [execOp, hx, hy, binOp, Op.shift, Z1d]
 simp [hm', eqGuard]
end
def Z5c : Nat → Nat → List UInt8
 | 0, _ => []
 | f + 1, n => if n < 128 then [UInt8.ofNat n] else UInt8.ofNat (n % 128 + 128) :: Z5c f (n / 128)
def Z0S (n : Nat) : List UInt8 := Z5c 10 n
theorem Z5w (f n : Nat) : (Z5c f n).length ≤ f := by
 induction f generalizing n with
 | zero => simp [Z5c]
 | succ f ih => unfold Z5c; split <;> simp; exact ih _
theorem Z1W {z : Int} (h : 0 ≤ z ∧ z < 256) : ([.int .u8 z] : List Value) = [UInt8.ofNat z.toNat].flatMap Zo := by
 have : (UInt8.ofNat z.toNat).toNat = z.toNat := by simp; omega
 simp only [List.flatMap_cons, List.flatMap_nil, List.append_nil, Zo, Z27, this, Int.toNat_of_nonneg h.1]
theorem Z1G (z : Int) : IntKind.u8.wrap z = z % 256 := by
 simp [IntKind.wrap, IntKind.signed, IntKind.bits]
theorem Z55 {z : Int} (_h : 0 ≤ z) : bOr .u8 (z % 256) 128 = z % 128 + 128 := by
 have key : ∀ k : Fin 256, bOr .u8 ((k.val : Nat) : Int) 128 = (((k.val % 128 + 128 : Nat)) : Int) := by decide +kernel
 have hk : (z % 256).toNat < 256 := by omega
 have := key ⟨(z % 256).toNat, hk⟩
 simp only at this
 rw [Int.toNat_of_nonneg (by omega)] at this
 rw [this]; omega
structure Of (S : World → Prop) where
 w : World
 h : S w
theorem Calls.of {P : Program} {S : World → Prop} {f : FuncId} {args : Array Value} {w : World} {v : Value} {R : Ending → World → Prop}
  (h : Calls P f args w R) (hR : ∀ e w', R e w' → e = .returned v ∧ S w') : Calls P f args w fun e w'' => e = .returned v ∧ ∃ x : Of S, w'' = x.w :=
 h.mono fun e w' hr => ⟨(hR e w' hr).1, ⟨⟨w', (hR e w' hr).2⟩, rfl⟩⟩
end Go.Proofs.YtgigjkjdmalmaaaGreat
namespace Go.Proofs.YtgigjkjdmalmaaaGreat
open Go.ChangeShapes Go.WideShapes Go.ChangeAt Go.RowKit Go.Deep
section
variable {H : Type} {enc : TypeId × Value → H} {P : Program} {W : World}
theorem Z34 {α : Type} {p : Nat → α → Prop} : ∀ (n : Nat), (∀ i, i < n → ∃ x, p i x) → ∃ xs : List α, xs.length = n ∧ ∀ i (h : i < xs.length), p i xs[i]
 | 0, _ => ⟨[], rfl, fun i h => by simp at h⟩
 | k + 1, each => by
  obtain ⟨xs, h1, h2⟩ := Z34 k (fun i hi => each i (by omega))
  obtain ⟨x, hx⟩ := each k (by omega)
  refine ⟨xs ++ [x], by simp [h1], fun i hi => ?_⟩
  by_cases hik : i < xs.length
  ·rw [List.getElem_append_left hik]; exact h2 i hik
  ·have : i = k := by simp at hi; omega
   subst this
   rw [List.getElem_append_right (by omega)]
   simpa using hx
theorem Z1R {α : Type} {R : World → Addr → α → Prop} {t e : TypeId} {sz : Nat} (ht : P.underlying t = some (.slice e)) (hc : P.cellsOf e = sz) (hpos : 0 < sz) {v : Value} {d : DataW H} {ps : List MemPlace} (hv : ∃ a len cap, v = .slice a len cap)
  (h : DataW.Trod enc P W 0 (fun _ => true) true t v d ps)
  (hel : ∀ (cs : List Value) (n : Nat) (y : DataW H × List MemPlace) (b off : Nat), cs.length = sz → (∀ j (hj : j < cs.length), W.cell? ⟨b, off + j, none⟩ = some cs[j]) → DataW.trod enc P W 0 (fun _ => true) true n e cs = some y → ∃ x, R W ⟨b, off, none⟩ x) :
  ∃ xs, SliceOf R sz W v xs := by
 obtain ⟨a, len, cap, rfl⟩ := hv
 obtain ⟨fuel, h⟩ := h
 rcases open_slice ht h with ⟨h0, _⟩ | ⟨ad, len', cap', m, n, D, Pl, h0, _, hl, hm, hmm, _, hx⟩
 ·simp only [Value.cells, List.cons.injEq, Value.slice.injEq, and_true] at h0
  obtain ⟨rfl, rfl, rfl⟩ := h0
  exact ⟨[], SliceOf.nil⟩
 ·simp only [Value.cells, List.cons.injEq, Value.slice.injEq, and_true] at h0
  obtain ⟨rfl, rfl, rfl⟩ := h0
  simp only [if_true] at hmm
  subst hmm
  rcases Nat.eq_zero_or_pos len with h0 | h0
  ·subst h0
   exact ⟨[], .inl ⟨_, _, rfl, rfl, hm, by simp⟩⟩
  ·rw [hc] at hx
   have hspot : ad.spot = none := by
    obtain ⟨cs, h1, _⟩ := hx 0 (by omega)
    obtain ⟨_, hlen, hcs⟩ := World.cells?_some h1
    have h2 := hcs 0 hpos
    rw [Nat.zero_mul] at h2
    simp only [Addr.add, if_true] at h2
    have h3 : cs[0]? = some cs[0] := List.getElem?_eq_getElem (by omega)
    rw [h3] at h2
    unfold World.cell? at h2
    split at h2
    ·cases hs : ad.spot with
     | none => rfl
     | some _ => simp [hs] at h2
    ·cases h2
   obtain ⟨b, off, sp⟩ := ad
   simp only at hspot
   subst hspot
   have each : ∀ i, i < len → ∃ x, R W ⟨b, off + i * sz, none⟩ x := by
    intro i hi
    obtain ⟨cs, h1, h2⟩ := hx i (by omega)
    obtain ⟨_, hlen, hcs⟩ := World.cells?_some h1
    refine hel cs n _ b (off + i * sz) hlen (fun j hj => ?_) h2
    have h3 := hcs j (by omega)
    rw [Addr.add_lit, Addr.add_lit, List.getElem?_eq_getElem hj] at h3
    exact h3
   obtain ⟨x0, _⟩ := each 0 h0
   have := Z34 len each
   obtain ⟨xs, h1, h2⟩ := this
   exact ⟨xs, .inr ⟨by omega, b, off, _, by rw [h1], ⟨by omega, hm⟩, h2⟩⟩
theorem Z2u {n : Nat} {t : TypeId} {k : IntKind} {cs : List Value} {y : DataW H × List MemPlace} (ht : P.underlying t = some (.int k)) (h : DataW.trod enc P W 0 (fun _ => true) true n t cs = some y) : ∃ z, cs = [.int k z] ∧ (Lit.int k z).wf = true := by
 obtain ⟨z, h1, _, h2⟩ := DataW.trod_int ht h
 exact ⟨z, h1, h2⟩
theorem wf_i64 {z : Int} (h : (Lit.int .i64 z).wf = true) : -9223372036854775808 ≤ z ∧ z ≤ 9223372036854775807 := by
 simpa [Lit.wf, IntKind.min, IntKind.max, IntKind.signed, IntKind.bits] using h
theorem Z2t (hl : laidOutB P = true) {W' : World} (hb : Below W.heap.size W W') : ∀ {ts : List TypeId} {vs : List Value} {ds : List (DataW H)} {ps : List MemPlace}, ts.all (fun t => P.readableRec t && decide (t < P.types.size)) = true →
  DataW.TrodAll enc P W 0 (fun _ => true) true ts vs ds ps → (∀ x ∈ ps, x.block < W.heap.size) → DataW.TrodAll enc P W' 0 (fun b => decide (b < W.heap.size)) true ts vs ds ps
 | [], _, _, _, _, h, _ => by
  obtain ⟨rfl, rfl, rfl⟩ := trodAll_nil h
  exact trodAll_mk0
 | t :: ts, _, _, _, hr, h, hlt => by
  obtain ⟨v, vs, d, ds, p, q, rfl, rfl, rfl, h1, h2⟩ := trodAll_cons h
  simp only [List.all_cons, Bool.and_eq_true, decide_eq_true_eq] at hr
  exact trodAll_cons_mk (Below.trod hl hr.1.1 hr.1.2 h1 hb fun x hx => hlt x (List.mem_append_left _ hx)) (Z2t hl hb hr.2 h2 fun x hx => hlt x (List.mem_append_right _ hx))
theorem Z7f {f : Func} {s : ChangeSpec} {W' : World} {args : Array Value} {ds gs : List (DataW H)} {before : List MemPlace} {tb : TypeId} (hv : s.vars = []) (hres : f.resultTypes = #[tb]) (hbool : P.underlying tb = some .bool) (hl : laidOutB P = true)
  (hr : f.params.toList.all (fun t => P.readableRec t && decide (t < P.types.size)) = true) (hW : DataW.Whole enc P f.params.toList s.vars false W args.toList ds gs before)
  (hs : (s.fn H (ds ++ gs)).results = [.lit (.bool true)] ∧ (s.fn H (ds ++ gs)).args = ds ∧ (s.fn H (ds ++ gs)).vars = []) (hb : Below W.heap.size W W') : s.post enc P f false true false false W args (.bool true) W' := by
 have hlt := hW.lt
 obtain ⟨p, q, hA, hV, rfl, hfz, hnd⟩ := hW
 have hV' := hV
 rw [hv] at hV'
 obtain ⟨rfl, rfl⟩ := trodVars_none hV'
 refine ⟨ds, [], p ++ [], [], p, [], ⟨p, [], hA, hV, rfl, hfz, hnd⟩, ?_, ?_, ?_, hb.frame _, fun h => by cases h⟩
 ·rw [hs.1, hres]
  exact trodAll_mk1 (shut_bool hbool true)
 ·rw [hs.2.1]
  exact Z2t hl hb hr hA fun x hx => hlt x (by simpa using hx)
 ·rw [hs.2.2, hv]
  rfl
end
section
variable {H : Type} {enc : TypeId × Value → H} {W : World}
end
end Go.Proofs.YtgigjkjdmalmaaaGreat
