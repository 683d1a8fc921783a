/- WHAT IS PROVED: contracts and plain laws of EntM, Eqs, Strs, EntE, Dt16, ArrB. Conditions: stated with each. -/
import Derived.ChangeKeysEq
import Derived.Laws.IdiomStrings
import Derived.Laws.MakeOwn
import Derived.Test.YtoaifondpohniaaGreatMT03
import Derived.Test.YtoaifondpohniaaGreatMT04
import Derived.Test.YtoaifondpohniaaGreatMT08
import Derived.Test.YtoaifondpohniaaGreatMT09
import Derived.Test.YtoaifondpohniaaGreatMT12
import Derived.Test.YtoaifondpohniaaGreatMT15
set_option maxHeartbeats 4000000
set_option maxRecDepth 100000
namespace Go.Proofs.YtoaifondpohniaaGreat
open Go.RowKit
def Z56 (x : NmD) : Prop := (0 ≤ x.cl ∧ x.cl < 3) ∧ 1 ≤ x.sq ∧ x.sq ≤ 4
def CeSm (c : CeR) : Prop := Z56 ⟨c.x.cl, c.x.seq⟩ ∧ c.S.length ≤ 12 ∧ Z9w c.S
def Z8v (e : Z8m) : NmD := ⟨e.cl, e.sq⟩
def aheadE (a b : Z8m) : Bool := decide (a.t < b.t) || (decide (a.t = b.t) && lessB a.h b.h)
abbrev Z9E := List (NmD × Z8m)
def skipE (last tm : Int) (lg : NmD → Bool) (e : Z8m) : Bool := decide (e.t ≤ last) || decide (e.t > tm) || lg (Z8v e)
def stepE (last tm : Int) (lg : NmD → Bool) (M : Z9E) (e : Z8m) : Z9E :=
 if skipE last tm lg e = true then M else match Z6 M (Z8v e) with
  | none => Z2r M (Z8v e) e
  | some was => if aheadE e was = true then Z2r M (Z8v e) e else M
section
variable {last tm : Int} {lg : NmD → Bool} {M : Z9E} {e : Z8m} {L : List CeR} {c : CeR}
structure EOk (M : Z9E) : Prop where
 nd : (M.map (·.1)).Nodup
 nm : ∀ x ∈ M, x.1 = Z8v x.2
 sm : ∀ x ∈ M, Z56 x.1
end
section
variable {κ ν : Type} [DecidableEq κ] {l : List (κ × ν)} {a : κ} {v : ν}
theorem Z6Y {y : κ × ν} (h : y ∈ Z2r l a v) : y = (a, v) ∨ y ∈ l := by
 unfold Z2r at h
 split at h
 ·obtain ⟨z, hz, e⟩ := List.mem_map.1 h
  split at e
  ·exact .inl e.symm
  ·exact .inr (e ▸ hz)
 ·rcases List.mem_append.1 h with h | h
  ·exact .inr h
  ·exact .inl (List.mem_singleton.1 h)
theorem Z5Y {x : ν} (h : Z6 l a = some x) : (a, x) ∈ l := by
 unfold Z6 at h
 obtain ⟨y, hy, rfl⟩ := Option.map_eq_some_iff.1 h
 have h1 := List.find?_some hy
 have h2 := List.mem_of_find?_eq_some hy
 have h3 : y.1 = a := by simpa using h1
 rw [← h3]; exact h2
theorem Z51 : Z6 l a = none ↔ a ∉ l.map (·.1) := by
 unfold Z6
 rw [Option.map_eq_none_iff, List.find?_eq_none]
 constructor
 ·intro h hm
  obtain ⟨y, hy, rfl⟩ := List.mem_map.1 hm
  exact h y hy (by simp)
 ·intro h y hy he
  have h3 : y.1 = a := by simpa using he
  exact h (h3 ▸ List.mem_map_of_mem hy)
theorem Z7F : (Z2r l a v).map (·.1) = if a ∈ l.map (·.1) then l.map (·.1) else l.map (·.1) ++ [a] := by
 unfold Z2r
 split
 ·rw [List.map_map]
  refine List.map_congr_left fun y _ => ?_
  show (if y.1 = a then (a, v) else y).1 = y.1
  split
  ·rename_i e; exact e.symm
  ·rfl
 ·simp
end
theorem Z4i : ∀ (n : Nat) (l : List Nat), l.Nodup → (∀ x ∈ l, x < n) → l.length ≤ n
 | 0, l, _, h => by
  cases l with
  | nil => simp
  | cons x l => exact absurd (h x (by simp)) (Nat.not_lt_zero _)
 | n + 1, l, hn, h => by
  have ih := Z4i n (l.erase n) (hn.erase n) fun x hx => by
   have h1 := (List.Nodup.mem_erase_iff hn).1 hx
   have h2 := h x h1.2
   have := h1.1
   omega
  by_cases hm : n ∈ l
  ·have := List.length_erase_of_mem hm; omega
  ·rw [List.erase_of_not_mem hm] at ih; omega
section
variable {last tm : Int} {lg : NmD → Bool} {M : Z9E} {e : Z8m} {L : List CeR} {c : CeR}
theorem EOk.nil : EOk [] := ⟨List.nodup_nil, by simp, by simp⟩
theorem EOk.put (h : EOk M) (hs : Z56 (Z8v e)) : EOk (Z2r M (Z8v e) e) := by
 refine ⟨?_, fun x hx => ?_, fun x hx => ?_⟩
 ·rw [Z7F]
  split
  ·exact h.nd
  ·rename_i q
   rw [List.nodup_append]
   exact ⟨h.nd, by simp, fun a ha b hb e => by rw [List.mem_singleton.1 hb] at e; exact q (e ▸ ha)⟩
 ·rcases Z6Y hx with rfl | hx
  ·rfl
  ·exact h.nm x hx
 ·rcases Z6Y hx with rfl | hx
  ·exact hs
  ·exact h.sm x hx
theorem EOk.step (h : EOk M) (hs : Z56 (Z8v e)) : EOk (stepE last tm lg M e) := by
 unfold stepE
 split
 ·exact h
 ·split
  ·exact h.put hs
  ·split
   ·exact h.put hs
   ·exact h
theorem EOk.len (h : EOk M) : M.length ≤ 12 := by
 have hm := Z4i 12 ((M.map (·.1)).map fun x => (x.cl * 4 + (x.sq - 1)).toNat) ?_ ?_
 ·simpa using hm
 ·rw [List.Nodup, List.pairwise_map]
  refine List.Pairwise.imp_of_mem ?_ h.nd
  intro a b ha hb hne e
  obtain ⟨x, hx, rfl⟩ := List.mem_map.1 ha
  obtain ⟨y, hy, rfl⟩ := List.mem_map.1 hb
  have hx' := h.sm x hx
  have hy' := h.sm y hy
  unfold Z56 at hx' hy'
  apply hne
  have h1 : x.1.cl = y.1.cl := by omega
  have h2 : x.1.sq = y.1.sq := by omega
  cases hx1 : x.1; cases hy1 : y.1
  simp_all
 ·intro z hz
  obtain ⟨a, ha, rfl⟩ := List.mem_map.1 hz
  obtain ⟨x, hx, rfl⟩ := List.mem_map.1 ha
  have := h.sm x hx
  unfold Z56 at this
  omega
theorem EOk.inj (h : EOk M) : ∀ a ∈ M.map (·.2), ∀ b ∈ M.map (·.2), Z8v a = Z8v b → a = b := fun a ha b hb e => by
 obtain ⟨x, hx, rfl⟩ := List.mem_map.1 ha
 obtain ⟨y, hy, rfl⟩ := List.mem_map.1 hb
 have e2 : x.1 = y.1 := by rw [h.nm x hx, h.nm y hy, e]
 obtain ⟨i, hi, hxi⟩ := List.mem_iff_getElem.1 hx
 obtain ⟨j, hj, hyj⟩ := List.mem_iff_getElem.1 hy
 have key : i = j := by
  have hp := List.pairwise_iff_getElem.1 h.nd
  rcases Nat.lt_trichotomy i j with q | q | q
  ·exact absurd (by rw [List.getElem_map, List.getElem_map, hxi, hyj, e2]) (hp i j (by simpa using hi) (by simpa using hj) q)
  ·exact q
  ·exact absurd (by rw [List.getElem_map, List.getElem_map, hxi, hyj, e2]) (hp j i (by simpa using hj) (by simpa using hi) q)
 subst key
 rw [← hxi, ← hyj]
end
section
variable {last tm : Int} {lg : NmD → Bool} {M M' : Z9E} {A C : List CeR} {P : List PrR} {i k : Nat} {w : World}
theorem Z3i (h : k < C.length) : C.getD k ce0 ∈ C := by
 rw [List.getD_eq_getElem?_getD, List.getElem?_eq_getElem h]; exact List.getElem_mem h
theorem Z8r (h : i < P.length) : P.getD i pr0 ∈ P := by
 rw [List.getD_eq_getElem?_getD, List.getElem?_eq_getElem h]; exact List.getElem_mem h
def PSm (P : List PrR) : Prop := ∀ p ∈ P, ∀ c ∈ p.C, CeSm c
theorem PSm.at (h : PSm P) (hi : i < P.length) (hk : k < (P.getD i pr0).C.length) : CeSm ((P.getD i pr0).C.getD k ce0) := h _ (Z8r hi) _ (Z3i hk)
theorem PSm.all (h : PSm P) : ∀ c ∈ P.flatMap (·.C), CeSm c := fun c hc => by
 obtain ⟨p, hp, hc⟩ := List.mem_flatMap.1 hc
 exact h p hp c hc
variable {LM : List (NmD × Bool)} {lg : NmD → Bool} {c : CeR} {v : Z8m}
end
section
variable {P : Program} {t : TypeId} {X : Type} [DecidableEq X]
variable {enc : X → List Value}
end
section
variable {P : Program} {n : Nat} {f : Nat → Value} {w : World} {dst : Option Tmp} {ty : TypeId} {pos : String} {aft : Array Edge} {gd : Option (Nat × Bool)}
end
instance : DecidableEq Z8m := fun a b =>
 if h : a.cl = b.cl ∧ a.sq = b.sq ∧ a.h = b.h ∧ a.t = b.t then .isTrue (by cases a; cases b; simp_all) else .isFalse (fun e => h (by rw [e]; simp))
theorem Z8f (a b : Int) : Instr.sameBits 10000 (.agg ⟨[.int .i64 a, .int .i64 b]⟩) (.agg ⟨[.int .i64 a, .int .i64 b]⟩) = true := by simp [Instr.sameBits]
theorem nmK : KeyTy Tryz.prog 24 nmV := KeyTy.deep (by kernel_rfl) (fun w em a => by cases em <;> kernel_rfl) (fun w x y => by
 simp only [Op.equal, Op.maxDepth, nmV, Z0T]
 simp [go_sem]
 obtain ⟨x1, x2⟩ := x
 obtain ⟨y1, y2⟩ := y
 by_cases h1 : x1 = y1 <;> by_cases h2 : x2 = y2 <;> simp_all) (fun a => Z8f _ _)
end Go.Proofs.YtoaifondpohniaaGreat

namespace Go.Proofs.YtoaifondpohniaaGreat
open Go.RowKit
def Z09 (g T n : Nat) (A : List Bool) : Ck where
 fp b := b = g
 ok w := A.length = n ∧ w.heap[g]? = some (.cells ⟨A.map Value.bool⟩ T (0, 0))
 stay h hb := ⟨h.1, (hb g rfl).trans h.2⟩
 lt h _ hk := hk ▸ Z0y h.2
section
variable {g T n : Nat} {A : List Bool} {w w0 w' : World} {G : List Ck}
theorem Z1Y (h : (Z09 g T n A).ok w) {i o : Nat} (hi : i < n) (ho : o = i) : w.cell? ⟨g, o, none⟩ = some (.bool (A.getD i false)) := by
 subst ho
 rw [Z0N h.2]
 simp [List.getD_eq_getElem?_getD, List.getElem?_eq_getElem (show o < A.length by rw [h.1]; exact hi)]
end
section
variable {P : Program} {n : Nat} {f : Nat → Value} {w w0 : World} {dst : Option Tmp} {ty : TypeId} {pos : String} {aft : Array Edge} {gd : Option (Nat × Bool)} {K : Act → World → Prop} {Q : Exit → Act → World → Prop} {G : List Ck}
theorem Z4k {T TA m : Nat} {A : List Bool} {g i : Nat} {x y : Operand} {z : Bool} {o : Nat} (hd : dst = none) (H : Sat w0 G w) (j : Nat) (hj : G[j]? = some (Z09 g TA m A)) (hx : ev n f x = .pointer (some ⟨g, o, none⟩)) (hy : ev n f y = .bool z) (hN : P.cellsOf T = 1) (ho : o = i) (hi : i < m)
  (kk : ∀ w', Sat w0 (G.set j (Z09 g TA m (A.set i z))) w' → K (fr n f) w') : WO P ⟨dst, .store T x y, ty, pos, aft, gd⟩ K Q n f w := by
 have h := H.at j hj
 subst ho
 have hil : o < A.length := by rw [h.1]; exact hi
 obtain ⟨w', hr, hb, he, hk⟩ := Z4m (P := P) (dst := dst) (ty := ty) (pos := pos) (aft := aft) (gd := gd) (vs := [.bool z]) hx hy rfl hN (by simp) h.2 (by simp; omega) (fun v hv => by rw [List.mem_singleton.1 hv]; rfl)
 refine Z50 hd hr (kk w' (H.set j hj he (fun b _ hne => hk b hne) ⟨by simp [h.1], ?_⟩ (fun b hb => .inl hb)))
 have e : Z14 (A.map Value.bool) o [Value.bool z] = (A.set o z).map Value.bool := by
  rw [List.set_eq_take_append_cons_drop, if_pos hil]
  simp [Z14]
 rw [← e]; exact hb
theorem Z6M {T e d m : Nat} (hd : dst = some d) (H : Sat w0 G w) (ht : P.underlying T = some (.slice e)) (hinfo : (P.info? e).map (fun i => (i.zero, i.size, i.bytes)) = some (some (.bool false), 1, 1)) {x y : Operand} {kx ky : IntKind} (hx : ev n f x = .int kx (m : Int)) (hy : ev n f y = .int ky (m : Int)) (hm : m ≤ 281474976710656)
  (kk : ∀ b w', Sat w0 (G ++ [Z09 b e m (List.replicate m false)]) w' → K (fr n (upd f d (.slice (some ⟨b, 0, none⟩) m m))) w') : WO P ⟨dst, .makeSlice T x y, ty, pos, aft, gd⟩ K Q n f w := by
 obtain ⟨i, hi, hzz⟩ := Option.map_eq_some_iff.1 hinfo
 simp only [Prod.mk.injEq] at hzz
 obtain ⟨hz, hs, hb⟩ := hzz
 have hr := run_make (P := P) w T e i _ ht hi hz kx ky (m : Int) (m : Int) (by omega) (Int.le_refl _) (by rw [hb]; omega) (by omega)
 simp only [Int.toNat_natCast, hs, Nat.mul_one] at hr
 have e1 : madeCells (Value.bool false).cells m = ⟨(List.replicate m false).map Value.bool⟩ := by
  refine Array.ext (by simp [madeCells]) fun j h1 h2 => ?_
  simp [madeCells, Value.cells, Nat.mod_one]
 rw [e1] at hr
 refine Z3m hd (v := .slice (some ⟨w.heap.size, 0, none⟩) m m) (w' := w.alloc (.cells ⟨(List.replicate m false).map Value.bool⟩ e)) ?_ (kk _ _ ?_)
 ·simp only [execOp, hx, hy]
  simp [hr, Result.andThen]
 ·exact H.add ⟨rfl, rfl, rfl, by simp⟩ (fun b hb => Below.heap_alloc w _ b hb) ⟨by simp, Z0L w _⟩ (fun b hb => Nat.le_of_eq hb.symm)
end
section
variable {κ ν : Type} [DecidableEq κ] {P : Program} {n : Nat} {f : Nat → Value} {w w0 : World} {dst : Option Tmp} {ty : TypeId} {pos : String} {aft : Array Edge} {gd : Option (Nat × Bool)} {Q : Exit → Act → World → Prop} {G : List Ck} {T kt et : TypeId} {b : Nat} {encK : κ → Value} {encV : ν → Value} {l : List (κ × ν)}
end
theorem Z5J (a : Bool) : ∀ (es : List MapEntry) (ks : List Bool) (n : Nat), es.map (·.key) = ks.map Value.bool →
  Instr.findNow .bool (.bool a) es n = some ((ks.idxOf? a).bind fun i => (es[i]?).map fun e => (n + i, e.val)) := by
 intro es
 induction es with
 | nil => intro ks n h; cases ks <;> simp_all [Instr.findNow]
 | cons e es ih =>
  intro ks n h
  cases ks with
  | nil => simp at h
  | cons x ks =>
   simp only [List.map_cons, List.cons.injEq] at h
   obtain ⟨h1, h2⟩ := h
   by_cases hax : a = x
   ·subst hax
    simp [Instr.findNow, h1, Instr.sameNow, List.idxOf?_cons]
   ·have hx : (x == a) = false := by simp; exact fun h => hax h.symm
    have hx' : (a == x) = false := by simpa using hax
    simp only [Instr.findNow, h1, Instr.sameNow, hx', ih ks (n + 1) h2, List.idxOf?_cons, hx, Bool.false_eq_true, if_false]
    cases hi : ks.idxOf? a with
    | none => simp
    | some i => simp [Nat.add_assoc, Nat.add_comm 1 i]
theorem KeyTy.bool {P : Program} {k : TypeId} (hk : P.underlying k = some .bool) : KeyTy P k Value.bool where
 check w em a := MapKept.run_checkKey (d := .bool) hk (by simp [MapKept.IsKey]) em 9999
 find w a es ks h := by
  simp [Instr.findKey, run_underlying hk, Z5J a es ks 0 h]
 same a := by simp [Instr.sameBits]
end Go.Proofs.YtoaifondpohniaaGreat
