/- WHAT IS PROVED: contracts and plain laws of MedMath, RightD, BatD, Small, Less, Sort12, SortU, IterU, CollU. Conditions: stated with each. -/
import Derived.Shelf.SlIter.Collect
import Derived.Test.YtoaifondpohniaaGreatPR04
import Derived.Test.YtoaifondpohniaaGreatPR05
import Derived.Test.YtoaifondpohniaaGreatPR06
import Derived.Test.YtoaifondpohniaaGreatPR07
import Derived.Test.YtoaifondpohniaaGreatPR08
import Derived.Test.YtoaifondpohniaaGreatPR10
set_option maxHeartbeats 4000000
set_option maxRecDepth 100000
namespace Go.Proofs.YtoaifondpohniaaGreat
def cLt (xs : List Int) (m : Int) : Nat := xs.countP fun x => decide (x < m)
def cLe (xs : List Int) (m : Int) : Nat := xs.countP fun x => decide (x ≤ m)
structure MedP (xs : List Int) (m : Int) : Prop where
 mem : m ∈ xs
 lt : cLt xs m ≤ xs.length / 2
 le : xs.length / 2 < cLe xs m
theorem Z8G {xs : List Int} {a b : Int} (h : a < b) : cLe xs a ≤ cLt xs b := List.countP_mono_left fun x _ hx => by simp at hx ⊢; omega
theorem MedP.uniq {xs : List Int} {a b : Int} (ha : MedP xs a) (hb : MedP xs b) : a = b := by
 rcases Int.lt_trichotomy a b with h | h | h
 ·have := Z8G (xs := xs) h; have := ha.le; have := hb.lt; omega
 ·exact h
 ·have := Z8G (xs := xs) h; have := hb.le; have := ha.lt; omega
theorem MedP.perm {xs ys : List Int} {a : Int} (h : MedP xs a) (hp : xs.Perm ys) : MedP ys a := by
 refine ⟨hp.mem_iff.1 h.mem, ?_, ?_⟩
 ·unfold cLt; rw [← hp.countP_eq, ← hp.length_eq]; exact h.lt
 ·unfold cLe; rw [← hp.countP_eq, ← hp.length_eq]; exact h.le
theorem MedP.of_srt {B : List Int} {m : Int} (hs : Srt (fun x y : Int => decide (x < y)) 0 B.length B) (hm : B[B.length / 2]? = some m) : MedP B m := by
 have hlt := (List.getElem?_eq_some_iff.1 hm).1
 have hsplit : B = B.take (B.length / 2) ++ B.drop (B.length / 2) := (List.take_append_drop _ _).symm
 have hsplit2 : B = B.take (B.length / 2 + 1) ++ B.drop (B.length / 2 + 1) := (List.take_append_drop _ _).symm
 refine ⟨List.mem_of_getElem? hm, ?_, ?_⟩
 ·have h0 : (B.drop (B.length / 2)).countP (fun x => decide (x < m)) = 0 := by
   rw [List.countP_eq_zero]
   intro x hx
   obtain ⟨i, hi, rfl⟩ := List.mem_iff_getElem.1 hx
   rw [List.length_drop] at hi
   rw [List.getElem_drop]
   simp only [decide_eq_true_eq, Int.not_lt]
   by_cases e : i = 0
   ·subst e
    have := (List.getElem?_eq_some_iff.1 hm).2
    simp only [Nat.add_zero, this]; exact Int.le_refl _
   ·have := hs (B.length / 2) (B.length / 2 + i) m _ (Nat.zero_le _) (by omega) (by omega) hm (List.getElem?_eq_getElem (by omega))
    simpa using this
  have h1 : cLt B m = (B.take (B.length / 2)).countP (fun x => decide (x < m)) := by
   unfold cLt
   conv => lhs; rw [hsplit]
   rw [List.countP_append, h0, Nat.add_zero]
  rw [h1]
  exact Nat.le_trans List.countP_le_length (by rw [List.length_take]; omega)
 ·have h0 : (B.take (B.length / 2 + 1)).countP (fun x => decide (x ≤ m)) = (B.take (B.length / 2 + 1)).length := by
   rw [List.countP_eq_length]
   intro x hx
   obtain ⟨i, hi, rfl⟩ := List.mem_iff_getElem.1 hx
   rw [List.length_take] at hi
   rw [List.getElem_take]
   simp only [decide_eq_true_eq]
   by_cases e : i = B.length / 2
   ·subst e
    exact Int.le_of_eq (List.getElem?_eq_some_iff.1 hm).2
   ·have := hs i (B.length / 2) _ m (Nat.zero_le _) (by omega) (by omega) (List.getElem?_eq_getElem (by omega)) hm
    simpa using this
  have h1 : (B.take (B.length / 2 + 1)).countP (fun x => decide (x ≤ m)) ≤ cLe B m := by
   unfold cLe
   conv => rhs; rw [hsplit2]
   rw [List.countP_append]; omega
  rw [h0, List.length_take] at h1
  omega
theorem Zc5 {xs : List Int} (h : xs.length % 2 = 1) : ∃ m, MedP xs m := by
 obtain ⟨B, hB⟩ : ∃ B, xs.mergeSort (fun a b => decide (a ≤ b)) = B := ⟨_, rfl⟩
 have hp : B.Perm xs := hB ▸ List.mergeSort_perm xs _
 have hs : B.Pairwise fun a b => decide (a ≤ b) = true := hB ▸ List.pairwise_mergeSort (by simp; omega) (by simp; omega) xs
 have hl := hp.length_eq
 have hlt : B.length / 2 < B.length := by omega
 refine ⟨B[B.length / 2], (MedP.of_srt (B := B) ?_ (List.getElem?_eq_getElem hlt)).perm hp⟩
 intro i j x y _ hij hj hx hy
 obtain ⟨h1, rfl⟩ := List.getElem?_eq_some_iff.1 hx
 obtain ⟨h2, rfl⟩ := List.getElem?_eq_some_iff.1 hy
 have := List.pairwise_iff_getElem.1 hs i j h1 h2 hij
 simp at this ⊢; omega
noncomputable def Z4R (xs : List Int) : Int := open Classical in if h : xs.length % 2 = 1 then Classical.choose (Zc5 h) else 0
theorem Z8V {xs : List Int} (h : xs.length % 2 = 1) : MedP xs (Z4R xs) := by
 unfold Z4R; rw [dif_pos h]; exact Classical.choose_spec (Zc5 h)
theorem Z8m {xs : List Int} {m : Int} (h : xs.length % 2 = 1) (hm : MedP xs m) : Z4R xs = m := (Z8V h).uniq hm
theorem Z3u {xs : List Int} (h : xs.length % 2 = 0) : Z4R xs = 0 := by
 unfold Z4R; rw [dif_neg (by omega)]
theorem Zax {xs ys : List Int} (hp : xs.Perm ys) : Z4R xs = Z4R ys := by
 rcases Nat.mod_two_eq_zero_or_one xs.length with h | h
 ·rw [Z3u h, Z3u (by rw [← hp.length_eq]; exact h)]
 ·exact Z8m h ((Z8V (by rw [← hp.length_eq]; exact h)).perm hp.symm)
def cEq (xs : List Int) (m : Int) : Nat := xs.countP fun x => decide (x = m)
theorem Z7a (xs : List Int) (m : Int) : cLe xs m = cLt xs m + cEq xs m := by
 unfold cLe cLt cEq
 induction xs with
 | nil => rfl
 | cons x xs ih =>
  simp only [List.countP_cons, ih]
  rcases Int.lt_trichotomy x m with h | h | h
  ·have a : x ≤ m := by omega
   have b : ¬ x = m := by omega
   simp [h, a, b]; omega
  ·subst h; simp; omega
  ·have a : ¬ x ≤ m := by omega
   have b : ¬ x = m := by omega
   have c : ¬ x < m := by omega
   simp [a, b, c]
theorem Z2J (p : Int → Bool) (xs : List Int) (k : Nat) (h : k < xs.length) : (xs.take (k + 1)).countP p = (xs.take k).countP p + if p (xs.getD k 0) = true then 1 else 0 := by
 rw [List.getD_eq_getElem?_getD, List.getElem?_eq_getElem h, List.take_add_one, List.getElem?_eq_getElem h, List.countP_append]
 simp only [Option.toList_some, List.countP_singleton, Option.getD_some]
theorem cLt_le (xs : List Int) (m : Int) : cLt xs m ≤ xs.length := List.countP_le_length
theorem cEq_le (xs : List Int) (m : Int) : cEq xs m ≤ xs.length := List.countP_le_length
theorem Z0y (p : Int → Bool) (xs : List Int) (k : Nat) : (xs.take k).countP p ≤ k := by
 have := List.countP_le_length (p := p) (l := xs.take k)
 rw [List.length_take] at this; omega
def Z5m (xs : List Int) (j : Nat) : Prop := ¬ (cLt xs (xs.getD j 0) ≤ xs.length / 2 ∧ xs.length / 2 < cLt xs (xs.getD j 0) + cEq xs (xs.getD j 0))
theorem Za4 {xs : List Int} {j : Nat} (h : j < xs.length) : xs.getD j 0 ∈ xs := by
 rw [List.getD_eq_getElem?_getD, List.getElem?_eq_getElem h]; exact List.getElem_mem h
theorem Zct {xs : List Int} {j : Nat} (h : xs.length % 2 = 1) (hj : j < xs.length) (h1 : cLt xs (xs.getD j 0) ≤ xs.length / 2) (h2 : xs.length / 2 < cLt xs (xs.getD j 0) + cEq xs (xs.getD j 0)) : Z4R xs = xs.getD j 0 :=
 Z8m h ⟨Za4 hj, h1, by rw [Z7a]; exact h2⟩
theorem Zcu {xs : List Int} (h : xs.length % 2 = 1) (hn : ∀ j, j < xs.length → Z5m xs j) : False := by
 have hm := Z8V h
 obtain ⟨j, hj, he⟩ := List.mem_iff_getElem.1 hm.mem
 refine hn j hj ?_
 have : xs.getD j 0 = Z4R xs := by rw [List.getD_eq_getElem?_getD, List.getElem?_eq_getElem hj]; exact he
 rw [this, ← Z7a]
 exact ⟨hm.lt, hm.le⟩
theorem Z5I {xs : List Int} {i : Nat} (h : ∀ j, j < i → Z5m xs j) (hn : Z5m xs i) : ∀ j, j < i + 1 → Z5m xs j := fun j hj => by
 rcases Nat.lt_or_ge j i with h1 | h1
 ·exact h j h1
 ·obtain rfl : j = i := by omega
  exact hn
theorem srt_le {B : List Int} (h : Srt (fun x y : Int => decide (x < y)) 0 B.length B) {m : Int} (hm : B[B.length / 2]? = some m) : MedP B m := MedP.of_srt h hm
end Go.Proofs.YtoaifondpohniaaGreat
namespace Go.Proofs.YtoaifondpohniaaGreat
open Go.RowKit
def inB (f r : Int) : Bool := decide (0 ≤ r) && decide (r < 3 * f + 1)
def Z0O (cn : Int) (x : Zg) : Bool := decide (0 ≤ x.cl) && decide (x.cl < cn) && decide (1 ≤ x.seq) && decide (x.seq ≤ 1048576) && decide (0 ≤ x.len) && decide (x.len ≤ 256)
def Z2e (cn : Int) (L : List Signed) (x : Zg) : Bool := Z0O cn x && decide (x.sb = IntKind.i64.wrap (1000 + x.cl)) && Z0p L x.sb x.sm (Zv x)
def Z0Y (f : Int) (L : List Signed) (s : Z5) : Bool := inB f s.r && decide (1 ≤ s.t) && decide (s.t < 18446744073709551615) && decide (s.sb = s.r) && Z0p L s.sb s.sm (Zz s)
def Z1Z (s : Z5) (x : Zg) : Bool := decide (s.cl = x.cl ∧ s.seq = x.seq) && decide (s.h = x.h)
def Z2P (f : Int) (L : List Signed) (x : Zg) (S : List Z5) (i : Nat) : Bool := (!decide ((i : Int) > 0) || !decide ((S.getD i Z9).r ≤ (S.getD (i - 1) Z9).r)) && Z1Z (S.getD i Z9) x && Z0Y f L (S.getD i Z9)
def Z06 (f cn : Int) (L : List Signed) (x : Zg) (S : List Z5) : Bool := Z2e cn L x && decide ((S.length : Int) = 2 * f + 1) && (List.range S.length).all (Z2P f L x S)
theorem Z5e {p : Nat → Bool} {n : Nat} (h : ∀ j, j < n → p j = true) : (List.range n).all p = true := by
 rw [List.all_eq_true]; intro j hj; exact h j (List.mem_range.1 hj)
theorem Z0T {p : Nat → Bool} {n i : Nat} (hi : i < n) (h : p i = false) : (List.range n).all p = false := by
 rw [Bool.eq_false_iff]; intro hc
 rw [List.all_eq_true] at hc
 rw [hc i (List.mem_range.2 hi)] at h; cases h
def Z32 (S : List Z5) : List Int := S.map (·.t)
noncomputable def ZK (S : List Z5) : Int := Z4R (Z32 S)
def Z8E (s : Z5) : Prop := s.r ≤ 9223372036854775807 ∧ s.cl ≤ 9223372036854775807 ∧ s.seq ≤ 9223372036854775807 ∧ 0 ≤ s.t ∧ s.t < 18446744073709551616
def ZbL (s : Zg) : Prop := s.cl ≤ 9223372036854775807 ∧ s.seq ≤ 9223372036854775807 ∧ s.len ≤ 9223372036854775807
theorem Z4l {n : Nat} {f : Nat → Value} {w : World} {dst : Option Tmp} {ty : TypeId} {pos : String} {aft : Array Edge} {gd : Option (Nat × Bool)} {x y : Operand} {T : TypeId} (a b c d : Int) (hx : ev n f x = .agg ⟨[.int .i64 a, .int .i64 b]⟩) (hy : ev n f y = .agg ⟨[.int .i64 c, .int .i64 d]⟩) :
  (execOp (ev n f) ⟨dst, .binOp .neq 24 x y T, ty, pos, aft, gd⟩).run Tryz.prog w = .ok (.value (.bool (!decide (a = c ∧ b = d)))) w := by
 simp only [execOp, hx, hy]
 simp [go_sem]
 by_cases h1 : a = c <;> by_cases h2 : b = d <;> simp_all
theorem Z6t (S : List Z5) {i : Nat} (h : i < S.length) : Z32 (S.take (i + 1)) = Z32 (S.take i) ++ [(S.getD i Z9).t] := by
 unfold Z32
 rw [List.take_add_one, List.getElem?_eq_getElem h, List.map_append, List.getD_eq_getElem?_getD, List.getElem?_eq_getElem h]
 rfl
theorem Z4C (S : List Z5) : (Z32 S).length = S.length := by simp [Z32]
def Zb0 (S : List Z5) : Prop := ∀ i, i < S.length → Z8E (S.getD i Z9)
def Z8 (v n : Int) : Int := if n < 1 then 0 else v % n
theorem Z33 (v n : Int) (h : 1 ≤ n) : 0 ≤ Z8 v n ∧ Z8 v n < n := by
 unfold Z8; rw [if_neg (by omega)]
 exact ⟨Int.emod_nonneg _ (by omega), Int.emod_lt_of_pos _ (by omega)⟩
structure NmD where
 cl : Int
 sq : Int
deriving DecidableEq
def Z1A (x : NmD) : List Value := [.int .i64 x.cl, .int .i64 x.sq]
theorem Z2V (x : NmD) : (Z1A x).length = 2 := rfl
theorem Z9Z (x : NmD) : (Z1A x).all (·.oneCell') = true := rfl
def nm0 : NmD := ⟨0, 0⟩
structure Z9F where
 cl : Int
 sq : Int
 h : Hash
 t : Int
def nmV (x : NmD) : Value := .agg ⟨Z1A x⟩
end Go.Proofs.YtoaifondpohniaaGreat
namespace Go.Proofs.YtoaifondpohniaaGreat
end Go.Proofs.YtoaifondpohniaaGreat
namespace Go.Proofs.YtoaifondpohniaaGreat
open Go.RowKit
def Hash.at (a : Hash) (i : Nat) : UInt8 := a.l.getD i 0
def LessH (a b : Hash) : Prop := ∃ i, i < 32 ∧ a.at i < b.at i ∧ ∀ j, j < i → a.at j = b.at j
def lessB (a b : Hash) : Bool := decide (Extern.BytealgCompare.cmp ⟨a.l.toArray⟩ ⟨b.l.toArray⟩ < 0)
theorem LessH.trans {a b c : Hash} (h : LessH a b) (k : LessH b c) : LessH a c := by
 obtain ⟨i, hi, h1, h2⟩ := h
 obtain ⟨j, hj, k1, k2⟩ := k
 rcases Nat.lt_trichotomy i j with e | e | e
 ·exact ⟨i, hi, by rw [← k2 i e]; exact h1, fun q hq => (h2 q hq).trans (k2 q (by omega))⟩
 ·subst e; exact ⟨i, hi, UInt8.lt_trans h1 k1, fun q hq => (h2 q hq).trans (k2 q hq)⟩
 ·exact ⟨j, hj, by rw [h2 j e]; exact k1, fun q hq => (h2 q (by omega)).trans (k2 q hq)⟩
section
variable {P : Program} {w : World}
end
section
variable {P : Program} {n : Nat} {f : Nat → Value} {w : World}
end
end Go.Proofs.YtoaifondpohniaaGreat
namespace Go.Proofs.YtoaifondpohniaaGreat
def ltEn (x y : Z9F) : Prop := x.t < y.t ∨ x.t = y.t ∧ (x.cl < y.cl ∨ x.cl = y.cl ∧ x.sq < y.sq)
instance (x y : Z9F) : Decidable (ltEn x y) := by unfold ltEn; exact inferInstance
end Go.Proofs.YtoaifondpohniaaGreat
namespace Go.Proofs.YtoaifondpohniaaGreat
open Go.RowKit
def Z3s (x : Int) : List Value := [.int .u64 x]
theorem Z27 (x : Int) : (Z3s x).length = 1 := rfl
theorem Z8N (x : Int) : (Z3s x).all (·.oneCell') = true := rfl
def ltU (x y : Int) : Bool := decide (x < y)
theorem swU : SW ltU := ⟨fun x y h => by simp [ltU] at h ⊢; omega, fun x y z h1 h2 => by simp [ltU] at h1 h2 ⊢; omega⟩
def Z3k (g n c : Nat) (A : List Int) : Ck := ZH 27 1 (.slice (some ⟨g, 0, none⟩) n c) n (A.flatMap Z3s)
theorem Z70 {g n c : Nat} {A : List Int} {w : World} (h : (Z3k g n c A).ok w) : A.length = n := by
 have := h.1
 rw [Z1u Z3s 1 Z27] at this
 omega
theorem Z4y {g n c o j : Nat} {A : List Int} {w : World} {x : Int} (h : (Z3k g n c A).ok w) (hx : A[j]? = some x) (ho : o = j) : w.cell? ⟨g, o, none⟩ = some (.int .u64 x) := by
 refine Z3O h rfl ?_
 have := Z3D Z3s 1 Z27 A j 0 x hx (by omega)
 rw [Nat.mul_one, Nat.add_zero] at this
 rw [ho]
 exact this
theorem Z8K {P : Program} {n : Nat} {f : Nat → Value} {w : World} {ty : TypeId} {pos : String} {aft : Array Edge} {gd : Option (Nat × Bool)} {w0 : World} {G : List Ck} {K : Act → World → Prop} {Q : Exit → Act → World → Prop} {dst : Option Tmp} {T : TypeId} {x y : Operand} {g m c o j : Nat} {A : List Int} {u : Int}
  (hd : dst = none) (H : Sat w0 G w) (i : Nat) (hi : G[i]? = some (Z3k g m c A)) (hx : ev n f x = .pointer (some ⟨g, o, none⟩)) (hy : ev n f y = .int .u64 u) (hT : P.cellsOf T = 1) (ho : o = j) (hj : j < A.length)
  (k : ∀ w', Sat w0 (G.set i (Z3k g m c (A.set j u))) w' → K (fr n f) w') : WO P ⟨dst, .store T x y, ty, pos, aft, gd⟩ K Q n f w :=
 Z6g hd H i hi rfl hx hy (vs := [.int .u64 u]) rfl hT (Nat.succ_pos _) (by rw [Z1u Z3s 1 Z27, ho]; show j + 1 ≤ _; omega) rfl (xs' := (A.set j u).flatMap Z3s) (by subst ho; have := Z8O Z3s 1 Z27 A o u hj; rw [Nat.mul_one] at this; exact this) k
end Go.Proofs.YtoaifondpohniaaGreat
namespace Go.Proofs.YtoaifondpohniaaGreat
open Go.RowKit Go.Maps Go.Sort Go.Shelf
theorem infoU : (Tryz.prog.info? 27).map (fun i => (i.zero, i.size, i.bytes)) = some (some ((Value.int .u64) 0), 1, 8) := by kernel_rfl
def Z6x (w : World) (a : Addr) (x : Int) : Prop := w.cell? a = some ((Value.int .u64) x)
def ZcB : Code := Code.region 2 #[{ dst := some 5, op := Op.assign (Operand.tmp 7), type := 27, pos := "iter.go:51", after := #[], guard := none }] false
def ZcC : Code := Code.block 1 (Code.region 3 #[{ dst := some 8, op := Op.load 48 (Operand.tmp 2), type := 48, pos := "iter.go:52", after := #[], guard := none },
 { dst := some 9, op := Op.move (Operand.tmp 5), type := 27, pos := "iter.go:52", after := #[], guard := none },
 { dst := some 10, op := Op.buildSlice 48 1 #[(0, Operand.tmp 9)], type := 48, pos := "iter.go:52", after := #[{ on := 1, ground := Ground.data }], guard := none },
 { dst := some 11, op := Op.call { callee := Callee.builtin Builtin.append, args := #[Operand.tmp 8, Operand.tmp 10], argTypes := #[48, 48] }, type := 48, pos := "iter.go:52", after := #[{ on := 0, ground := Ground.data }, { on := 2, ground := Ground.data }], guard := none },
 { dst := none, op := Op.store 48 (Operand.tmp 2) (Operand.tmp 11), type := 0, pos := "iter.go:52", after := #[{ on := 3, ground := Ground.data }, { on := 3, ground := Ground.chain }, { on := 0, ground := Ground.phase }, { on := 1, ground := Ground.phase }, { on := 2, ground := Ground.phase }, { on := 3, ground := Ground.phase }], guard := none }] false)
def Z5N (fn : FuncId) (sv : Value) (b d : Nat) (st : LoopState) : Loop :=
 { state := st, pending := none, fn, tmps := #[.slice none 0 0, sv, .pointer (some ⟨b, 0, none⟩), undef, .slice none 0 0, undef, sv, undef, undef, undef, undef, undef, undef], params := #[7], assign := ZcB, body := ZcC, defers := d }
structure Z8D (w0 : World) (fn : FuncId) (sv : Value) (b l d : Nat) (ss : List Int) (W : World) : Prop where
 box : ∃ v, W.heap[b]? = some (.cells #[v] 48 (0, 0)) ∧ W.ownsRow w0.heap.size 27 1 v ss.length (ss.map (Value.int .u64))
 lp : W.heap[l]? = some (.loop (Z5N fn sv b d .ready))
 dfr : W.heap[d]? = some (.deferred (some []))
 low : Below w0.heap.size w0 W
theorem ZaN (m : Nat) (w0 : World) (fn : FuncId) (sv : Value) (b l d : Nat) (hbl : b ≠ l) (hdl : d ≠ l) (hdb : d ≠ b) (h0b : w0.heap.size ≤ b) (h0l : w0.heap.size ≤ l) (ss : List Int) (x : Int) (W : World) (h : Z8D w0 fn sv b l d ss W) (hlen : ss.length < 1000000000) :
    YieldAt Fence.wide m Tryz.prog l #[(Value.int .u64) x] W fun e W' => e = .returned (.bool true) ∧ Z8D w0 fn sv b l d (ss ++ [x]) W' := by
  have mixed : Tryz.prog.follows .mixedOrders = true := by kernel_rfl
  have hne : (48 : TypeId) ≠ 27 := by decide
  obtain ⟨i0, hi, hz0, hz1, hz2⟩ := info_parts infoU
  obtain ⟨v, hv, hrow⟩ := h.box
  refine ⟨fn, #[.slice none 0 0, sv, .pointer (some ⟨b, 0, none⟩), undef, .slice none 0 0, undef, sv, (Value.int .u64) x, undef, undef, undef, undef, undef], ZcB, ZcC, by simpa [Z5N] using run_yield (P := Tryz.prog) (args := #[(Value.int .u64) x]) h.lp rfl, roundIn_of_wpIn trivial ?_⟩
  have hl : l < W.heap.size := Z0D h.lp
  have hbr := run_beginRound (P := Tryz.prog) h.lp rfl
  obtain ⟨W2, hW2⟩ : ∃ W2, W.putObj l (.loop { Z5N fn sv b d .ready with state := .busy }) = W2 := ⟨_, rfl⟩
  rw [hW2] at hbr
  have hg2 : W.grownBy W2 (some l) := by rw [← hW2]; exact grownBy_putObj_a _ _ _
  have hv2 : W2.heap[b]? = some (.cells #[v] 48 (0, 0)) := by rw [← hW2]; exact (World.putObj_heap_other hbl).trans hv
  have hd2 : W2.heap[d]? = some (.deferred (some [])) := by rw [← hW2]; exact (World.putObj_heap_other hdl).trans h.dfr
  have hL2 : W2.heap[l]? = some (.loop { Z5N fn sv b d .ready with state := .busy }) := by rw [← hW2]; exact World.putObj_heap_same hl
  have hrow2 : W2.ownsRow w0.heap.size 27 1 v ss.length (ss.map (Value.int .u64)) := hrow.kept hg2 (ownsRow_ne_a hrow h.lp (fun cur e => by cases e))
  have hb2 : Below w0.heap.size w0 W2 := h.low.grown hg2 h.low.size (fun k e => by cases e; exact h0l)
  obtain ⟨hc2, hf2⟩ := cell_of_box_a hv2
  have hblt : b < W2.heap.size := Z0D hv2
  have hl2 : l < W2.heap.size := Z0D hL2
  have hdlt : d < W2.heap.size := Z0D hd2
  have far : ∀ {j : Nat} {o : Obj}, W2.heap[j]? = some o → (∀ cur, o ≠ .cells cur 27 (0, 0)) → some j ≠ v.ownBlock := fun hj hno => by
    rcases ownsRow_ne_a hrow2 hj hno with e | e
    · rw [e]; simp
    · exact fun e' => e e'.symm
  have bne : ∀ cur, Obj.cells #[v] 48 (0, 0) ≠ .cells cur 27 (0, 0) := fun cur e => hne (Obj.cells.inj e).2.1
  clear hW2
  unfold ZcB
  gi_wp2_with gi_round_op_a
  unfold ZcC
  gi_wp2_with (first
    | (gi_at_builtin; refine wpListIn_append_own _ rfl _ _ 48 rfl w0.heap.size 27 i0 ((Value.int .u64) 0) 1 8 Tryz.underlying48 hi hz0 hz1 hz2 rfl (by decide) _ _ _ rfl (hrow2.alloc _) ⟨W2.heap.size, 0, none⟩ 1 1 [(Value.int .u64) x] rfl rfl (cell_one_new _ _ _) (by simp [Value.oneCell']) (by unfold maxLen; omega) (by omega) (by have := hb2.size; simp; omega) ?_; intro v' w3 hown' hg3 hnil3
       have hv3 : w3.heap[b]? = some (.cells #[v] 48 (0, 0)) := (hg3.block b (by simp; omega) (far hv2 bne)).trans ((Below.heap_alloc _ _ b hblt).trans hv2)
       obtain ⟨hc3, hf3⟩ := cell_of_box_a hv3
       obtain ⟨g', cap', hvs, _⟩ := Z58 hown' (by omega)
       subst hvs
       go_frame)
    | gi_round_op_a)
  have hg3' : (W2.alloc (.cells #[(Value.int .u64) x] 27)).grownBy w3 v.ownBlock := hg3
  have hL3 : w3.heap[l]? = some (.loop { Z5N fn sv b d .ready with state := .busy }) := (hg3'.block l (by simp; omega) (far hL2 (fun cur e => by cases e))).trans ((Below.heap_alloc _ _ l hl2).trans hL2)
  have hd3 : w3.heap[d]? = some (.deferred (some [])) := (hg3'.block d (by simp; omega) (far hd2 (fun cur e => by cases e))).trans ((Below.heap_alloc _ _ d hdlt).trans hd2)
  have hb3 : Below w0.heap.size w0 w3 := (hb2.alloc hb2.size _).grown hg3' (by have := hb2.size; simp; omega) (fun k e => (hrow2.lt k e).1)
  obtain ⟨w4, hw4⟩ : ∃ w4, w3.setCell ⟨b, 0, none⟩ (.slice (some ⟨g', 0, none⟩) (ss.length + 1) cap') = w4 := ⟨_, rfl⟩
  rw [hw4]
  have hg4 : w3.grownBy w4 (some b) := by rw [← hw4]; exact grownBy_setCell0_a _ _ _
  have hv4 : w4.heap[b]? = some (.cells #[.slice (some ⟨g', 0, none⟩) (ss.length + 1) cap'] 48 (0, 0)) := by rw [← hw4]; exact heap_setCell_box_a _ hv3
  have hL4 : w4.heap[l]? = some (.loop { Z5N fn sv b d .ready with state := .busy }) := (hg4.block l (Z0D hL3) (fun e => hbl (by cases e; rfl))).trans hL3
  have hd4 : w4.heap[d]? = some (.deferred (some [])) := (hg4.block d (Z0D hd3) (fun e => hdb (by cases e; rfl))).trans hd3
  have hrow4 := hown'.kept hg4 (ownsRow_ne_a hown' hv3 bne)
  have hb4 : Below w0.heap.size w0 w4 := hb3.grown hg4 hb3.size (fun k e => by cases e; exact h0b)
  have hl4 : l < w4.heap.size := Z0D hL4
  clear hw4
  refine ⟨_, _, run_endRound none hL4, rfl, ⟨⟨_, (World.putObj_heap_other hbl).trans hv4, ?_⟩, World.putObj_heap_same hl4, (World.putObj_heap_other hdl).trans hd4, hb4.grown (grownBy_putObj_a _ _ _) hb4.size (fun k e => by cases e; exact h0l)⟩⟩
  have := hrow4.kept (grownBy_putObj_a w4 l (.loop { { Z5N fn sv b d .ready with state := .busy } with state := if (none : Option Code).isNone then .ready else .done, pending := none })) (ownsRow_ne_a hrow4 hL4 (fun cur e => by cases e))
  simpa using this
theorem Z9x (n : Nat) (l c : Nat) (xs : List Int) (w0 : World) (v : Value) (hm : w0.cell? ⟨c, 0, none⟩ = some v) (hv : SliceOf Z6x 1 w0 v xs) (hxl : xs.length ≤ 1000000000) (J : List Int → World → Prop) (hJ : ∀ pre W, J pre W → Below w0.heap.size w0 W)
  (hY : ∀ pre x W, J pre W → pre.length < xs.length → YieldAt Fence.wide (n - 1) Tryz.prog l #[(Value.int .u64) x] W fun e W' => e = .returned (.bool true) ∧ J (pre ++ [x]) W') (W : World) (h0 : J [] W) :
  CallsIn Fence.wide n Tryz.prog 122 #[.func (.yield l) #[] #[], .pointer (some ⟨c, 0, none⟩)] W fun e W' => (∃ v, e = .returned v) ∧ J xs W' := by
 obtain ⟨a, cp, rfl⟩ := hv.len
 have hc : W.cell? ⟨c, 0, none⟩ = some (.slice a xs.length cp) := ((hJ [] W h0).cell (World.block_lt_of_cell? _ _ hm)).trans hm
 refine callsIn_of_wp Tryz.func122 rfl trivial ?_ rfl
 simp only [Tryz.ntmps122, List.size_toArray, List.length_cons, List.length_nil, Nat.reduceAdd, Nat.reduceSub, Array.replicate_succ, Array.replicate_zero, List.push_toArray, List.append_toArray, List.nil_append, List.cons_append]
 gi_wp2
 gi_loopw [7] (fun s wr => ∃ k : Nat, s = .int .i64 (k : Int) ∧ k ≤ xs.length ∧ J (xs.take k) wr) (fun s _ => xs.length - (intOf s).toNat)
 case atStart => exact ⟨0, rfl, Nat.zero_le _, by simpa using h0⟩
 case round =>
  obtain ⟨k, rfl, hk, hJk⟩ := hrel
  by_cases hlt : k < xs.length
  ·obtain ⟨b, off, cap, hvv, hcap, hall⟩ := hv.some (by omega)
   obtain ⟨rfl, _, rfl⟩ : a = some ⟨b, off, none⟩ ∧ xs.length = xs.length ∧ cp = cap := by simpa using hvv
   have hel0 : w0.cell? ⟨b, off + k, none⟩ = some ((Value.int .u64) xs[k]) := by
    have := hall k hlt
    simpa [Z6x] using this
   have hel : wr.cell? ⟨b, off + k, none⟩ = some ((Value.int .u64) xs[k]) := ((hJ _ _ hJk).cell (World.block_lt_of_cell? _ _ hel0)).trans hel0
   obtain ⟨x, hx⟩ : ∃ x, xs[k] = x := ⟨_, rfl⟩
   rw [hx] at hel
   obtain ⟨fn, tmps, assign, body, hy, hR⟩ := hY (xs.take k) x wr hJk (by rw [List.length_take]; omega)
   gi_wp2
   refine ⟨(fun h => by cases h), hR.mono ?_⟩
   rintro e W3 ⟨rfl, hJ3⟩
   gi_wp2
   go_roundw
   case rel => exact ⟨k + 1, by simp, by omega, by rw [List.take_add_one, List.getElem?_eq_getElem hlt, hx]; exact hJ3⟩
   case measure => simp [intOf]; omega
  ·gi_wp2
   go_end0
   exact ⟨⟨_, rfl⟩, by rwa [List.take_of_length_le (by omega)] at hJk⟩
theorem Z6B (c : Nat) (xs : List Int) (v : Value) (w : World) (hm : w.cell? ⟨c, 0, none⟩ = some v) (hv : SliceOf Z6x 1 w v xs) (hxl : xs.length ≤ 1000000000) :
    CallsIn Fence.wide 3 Tryz.prog 137 #[.slice none 0 0, .func (.func 122) #[] #[.pointer (some ⟨c, 0, none⟩)]] w fun e w' => ∃ u, e = .returned u ∧ w'.ownsRow w.heap.size 27 1 u xs.length (xs.map (Value.int .u64)) ∧ Below w.heap.size w w' := by
  have mixed : Tryz.prog.follows .mixedOrders = true := by kernel_rfl
  have hne : (48 : TypeId) ≠ 27 := by decide
  obtain ⟨i0, hi, hz0, hz1, hz2⟩ := info_parts infoU
  obtain ⟨sv, hsv⟩ : ∃ sv, Value.func (.func 122) #[] #[.pointer (some ⟨c, 0, none⟩)] = sv := ⟨_, rfl⟩
  refine callsIn_of_wp_marks Tryz.func137 rfl trivial ?_ rfl
  simp only [Tryz.ntmps137, List.size_toArray, List.length_cons, List.length_nil, Nat.reduceAdd, Nat.reduceSub, Array.replicate_succ, Array.replicate_zero, List.push_toArray, List.append_toArray, List.nil_append, List.cons_append]
  gi_wp2
  refine wpIn_rangeFunc ?_
  intro fn _
  obtain ⟨W0, hW0⟩ : ∃ W0, w.alloc (.cells #[.slice none 0 0] 48) = W0 := ⟨_, rfl⟩
  have hs0 : W0.heap.size = w.heap.size + 1 := by rw [← hW0]; simp
  have hv0 : W0.heap[w.heap.size]? = some (.cells #[.slice none 0 0] 48 (0, 0)) := by rw [← hW0]; exact World.alloc_heap_new w _
  have hb0 : Below w.heap.size w W0 := by rw [← hW0]; exact (Below.refl _ w).alloc (Nat.le_refl _) _
  rw [hW0]
  obtain ⟨W1, hW1⟩ : ∃ W1, (W0.alloc (.deferred (some []))).alloc (.loop (Z5N fn (.func (.func 122) #[] #[.pointer (some ⟨c, 0, none⟩)]) w.heap.size W0.heap.size .ready)) = W1 := ⟨_, rfl⟩
  have hold : ∀ k, k < W0.heap.size → W1.heap[k]? = W0.heap[k]? := fun k hk => by
    rw [← hW1]; exact (Below.heap_alloc _ _ k (by simp; omega)).trans (Below.heap_alloc _ _ k hk)
  have hb1 : Below w.heap.size w W1 := by rw [← hW1]; exact (hb0.alloc hb0.size _).alloc (by have := hb0.size; simp; omega) _
  have hM : Z8D w fn (.func (.func 122) #[] #[.pointer (some ⟨c, 0, none⟩)]) w.heap.size (W0.heap.size + 1) W0.heap.size [] W1 :=
    ⟨⟨_, (hold w.heap.size (by omega)).trans hv0, ⟨rfl, .inl ⟨rfl, rfl⟩⟩⟩,
     by rw [← hW1]; have := World.alloc_heap_new (W0.alloc (.deferred (some []))) (.loop (Z5N fn (.func (.func 122) #[] #[.pointer (some ⟨c, 0, none⟩)]) w.heap.size W0.heap.size .ready)); rwa [World.size_alloc] at this,
     by rw [← hW1]; exact (Below.heap_alloc _ _ _ (by simp)).trans (World.alloc_heap_new W0 _), hb1⟩
  refine ⟨W0.heap.size + 1, [{ target := .collected W0.heap.size, args := #[] }], W1, { target := .fn (.func 122) #[.pointer (some ⟨c, 0, none⟩)], args := #[.func (.yield (W0.heap.size + 1)) #[] #[]] }, W1, 122,
    #[.func (.yield (W0.heap.size + 1)) #[] #[], .pointer (some ⟨c, 0, none⟩)], W1, ?_, ?_, fun _ _ => trivial, ?_, (fun h => by cases h), ?_⟩
  · rw [← hW1]; exact run_enterLoop_outer _ _ _ _ _
  · simp [resolve, go_sem]
  · kernel_rfl
  · refine (Z9x 2 (W0.heap.size + 1) c xs w v hm hv hxl (Z8D w fn (.func (.func 122) #[] #[.pointer (some ⟨c, 0, none⟩)]) w.heap.size (W0.heap.size + 1) W0.heap.size) (fun _ _ h => h.low)
      (fun pre x W hJ hl => ZaN _ w fn _ w.heap.size (W0.heap.size + 1) W0.heap.size (by omega) (by omega) (by omega) (Nat.le_refl _) (by omega) pre x W hJ (by omega)) W1 hM).mono ?_
    rintro e W2 ⟨⟨v0, rfl⟩, h2⟩
    obtain ⟨u, hu, hrow⟩ := h2.box
    have hend := run_endLoop (P := Tryz.prog) h2.lp (by simp [Z5N])
    obtain ⟨W3, hW3⟩ : ∃ W3, W2.putObj (W0.heap.size + 1) (.loop { Z5N fn (.func (.func 122) #[] #[.pointer (some ⟨c, 0, none⟩)]) w.heap.size W0.heap.size .ready with state := .exhausted }) = W3 := ⟨_, rfl⟩
    rw [hW3] at hend
    have hg3 : W2.grownBy W3 (some (W0.heap.size + 1)) := by rw [← hW3]; exact grownBy_putObj_a _ _ _
    have hu3 : W3.heap[w.heap.size]? = some (.cells #[u] 48 (0, 0)) := by rw [← hW3]; exact (World.putObj_heap_other (by omega)).trans hu
    have hK3 : W3.heap[W0.heap.size]? = some (.deferred (some [])) := by rw [← hW3]; exact (World.putObj_heap_other (by omega)).trans h2.dfr
    have hrow3 := hrow.kept hg3 (ownsRow_ne_a hrow h2.lp (fun cur e => by cases e))
    have hb3 : Below w.heap.size w W3 := h2.low.grown hg3 h2.low.size (fun k e => by cases e; omega)
    obtain ⟨hc3, hf3⟩ := cell_of_box_a hu3
    clear hW3
    refine ⟨none, W3, hend, ?_⟩
    gi_wp2
    rw [← hs0]
    refine ⟨by simp, .inl ⟨_, _, rfl, run_takeDeferred hK3, ?_⟩⟩
    exact ⟨_, results_tmp rfl _ _ _, u, rfl, hrow3.kept (grownBy_putObj_a _ _ _) (ownsRow_ne_a hrow3 hK3 (fun cur e => by cases e)), hb3.grown (grownBy_putObj_a _ _ _) hb3.size (fun k e => by cases e; omega)⟩
end Go.Proofs.YtoaifondpohniaaGreat
namespace Go.Proofs.YtoaifondpohniaaGreat
open Go.RowKit
theorem Z8I {w : World} {e size n base : Nat} {v : Value} {xs : List Value} (h : w.ownsRow base e size v n xs) : (ZH e size v n xs).ok w ∧ ∀ b, v.ownBlock = some b → base ≤ b := by
 refine ⟨⟨h.1, ?_⟩, fun b hb => ?_⟩
 ·rcases h.2 with hn | ⟨g, cap, cur, hv, hb, rest⟩
  ·exact .inl hn
  ·exact .inr ⟨g, cap, cur, hv, Nat.zero_le _, rest⟩
 ·rcases h.2 with ⟨rfl, _⟩ | ⟨g, cap, cur, rfl, hg, _⟩
  ·simp [Value.ownBlock] at hb
  ·simp [Value.ownBlock] at hb; omega
theorem mapU (xs : List Int) : xs.map (Value.int .u64) = xs.flatMap Z3s := by
 induction xs with
 | nil => rfl
 | cons x xs ih => rw [List.map_cons, List.flatMap_cons, ih]; rfl
theorem Z5Z (w : World) (b : Nat) (v : Value) (xs : List Int) (hb : (Z0 b 48 [v]).ok w) (hv : ListAt Z3s 1 w v xs) (hx : xs.length ≤ 1000000000) :
  Calls Tryz.prog 137 #[.slice none 0 0, .func (.func 122) #[] #[.pointer (some ⟨b, 0, none⟩)]] w fun e w' => ∃ u, e = .returned u ∧ (ZH 27 1 u xs.length (xs.flatMap Z3s)).ok w' ∧ Upd [] w w' ∧ ∀ k, u.ownBlock = some k → w.heap.size ≤ k := by
 have hm : w.cell? ⟨b, 0, none⟩ = some v := by rw [Z19 hb 0]; rfl
 have hv' : SliceOf Z6x 1 w v xs := by
  rcases hv with h | ⟨h0, b', o, c', e, hc, h⟩
  ·exact .inl h
  ·exact .inr ⟨h0, b', o, c', e, hc, fun i hi => by have := h i hi 0 ((Value.int .u64) xs[i]) rfl; rw [Addr.add_lit] at this; exact this⟩
 refine (callsIn_wide.1 (Z6B b xs v w hm hv' hx)).mono ?_
 rintro e w' ⟨u, rfl, h, hl⟩
 obtain ⟨h1, h2⟩ := Z8I h
 exact ⟨u, rfl, mapU xs ▸ h1, Below.upd hl, h2⟩
end Go.Proofs.YtoaifondpohniaaGreat
