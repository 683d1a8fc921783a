/- WHAT IS PROVED: contracts and plain laws of Mem. Conditions: stated with each. -/
import Derived.Test.YtgigjkjdmalmaaaGreatRows
import Derived.WalkKit
import Derived.WideKeyRuns
import Derived.DeepKeys3
import Derived.Deep.Quiet
import Derived.BigQuiet
set_option maxHeartbeats 4000000
set_option maxRecDepth 100000
namespace Go.Proofs.YtgigjkjdmalmaaaGreat
open Go.RowKit
structure Upd (D : List Nat) (w w' : World) : Prop where
 os : w'.os = w.os
 tape : w'.tape = w.tape
 output : w'.output = w.output
 size : w.heap.size ≤ w'.heap.size
 block : ∀ k, k < w.heap.size → k ∉ D → w'.heap[k]? = w.heap[k]?
theorem Upd.refl (D : List Nat) (w : World) : Upd D w w := ⟨rfl, rfl, rfl, Nat.le_refl _, fun _ _ _ => rfl⟩
theorem Upd.trans {D : List Nat} {a b c : World} (h : Upd D a b) (k : Upd D b c) : Upd D a c :=
 ⟨k.os.trans h.os, k.tape.trans h.tape, k.output.trans h.output, Nat.le_trans h.size k.size, fun i hi hD => (k.block i (Nat.lt_of_lt_of_le hi h.size) hD).trans (h.block i hi hD)⟩
theorem Upd.mono {D E : List Nat} {w w' : World} (h : Upd D w w') (hs : ∀ k, k ∈ D → k ∈ E) : Upd E w w' := ⟨h.os, h.tape, h.output, h.size, fun k hk hE => h.block k hk fun hD => hE (hs k hD)⟩
theorem Upd.nil {E : List Nat} {w w' : World} (h : Upd [] w w') : Upd E w w' := h.mono (by simp)
theorem Upd.drew {D : List Nat} {a w : World} (h : Upd D a w) : Upd D a w.drew := ⟨h.os, h.tape, h.output, h.size, h.block⟩
theorem Upd.drewN {D : List Nat} {a w : World} (h : Upd D a w) (n : Nat) : Upd D a (w.drewN n) := ⟨h.os, h.tape, h.output, h.size, h.block⟩
theorem Upd.alloc {D : List Nat} {a w : World} (h : Upd D a w) (o : Obj) : Upd D a (w.alloc o) :=
 h.trans ⟨rfl, rfl, rfl, by simp, fun k hk _ => Below.heap_alloc _ _ _ hk⟩
theorem Upd.setCell {D : List Nat} {a w : World} (h : Upd D a w) {p : Addr} (hp : a.heap.size ≤ p.block ∨ p.block ∈ D) (u : Value) : Upd D a (w.setCell p u) :=
 ⟨h.os, h.tape, h.output, by simpa using h.size, fun k hk hD => (Below.heap_setCell _ _ _ _ (by rintro rfl; rcases hp with hp | hp; omega; exact hD hp)).trans (h.block k hk hD)⟩
theorem Upd.grown {D : List Nat} {a w w' : World} {row : Option Nat} (h : Upd D a w) (hg : w.grownBy w' row) (hr : ∀ k, row = some k → a.heap.size ≤ k ∨ k ∈ D) : Upd D a w' :=
 ⟨hg.os.trans h.os, hg.tape.trans h.tape, hg.output.trans h.output, Nat.le_trans h.size hg.size, fun k hk hD => (hg.block k (Nat.lt_of_lt_of_le hk h.size) (fun e => by rcases hr k e.symm with h1 | h1; omega; exact hD h1)).trans (h.block k hk hD)⟩
theorem Upd.below {D : List Nat} {a w w' : World} {B : Nat} (hb : Below B a w) (h : Upd D w w') (hD : ∀ k, k ∈ D → B ≤ k) (hB : B ≤ w.heap.size) : Below B a w' :=
 hb.trans ⟨h.os, h.tape, h.output, h.size, fun k hk => h.block k (by omega) (fun hd => by have := hD k hd; omega)⟩
theorem Upd.own {D E : List Nat} {a w w' : World} (h : Upd E a w) (k : Upd D w w') (hD : ∀ k, k ∈ D → a.heap.size ≤ k ∨ k ∈ E) : Upd E a w' :=
 ⟨k.os.trans h.os, k.tape.trans h.tape, k.output.trans h.output, Nat.le_trans h.size k.size, fun i hi hE => (k.block i (Nat.lt_of_lt_of_le hi h.size) (fun hd => by rcases hD i hd with h1 | h1; omega; exact hE h1)).trans (h.block i hi hE)⟩
theorem Upd.toBelow {D : List Nat} {w w' : World} (h : Upd D w w') (hD : ∀ k, k ∈ D → w.heap.size ≤ k) : Below w.heap.size w w' := Upd.below (Below.refl _ _) h hD (Nat.le_refl _)
theorem Below.upd {w w' : World} (h : Below w.heap.size w w') : Upd [] w w' := ⟨h.os, h.tape, h.output, h.size, fun k hk _ => h.block k hk⟩
theorem Upd.at {D : List Nat} {w w' : World} (h : Upd D w w') {b : Nat} {o : Obj} (hb : w.heap[b]? = some o) (hD : b ∉ D) : w'.heap[b]? = some o :=
 (h.block b (Array.getElem?_eq_some_iff.1 hb).1 hD).trans hb
theorem Upd.cell {D : List Nat} {w w' : World} (h : Upd D w w') {p : Addr} {v : Value} (hb : w.cell? p = some v) (hD : p.block ∉ D) : w'.cell? p = some v :=
 (World.cell?_of_block (h.block p.block (World.block_lt_of_cell? w p hb) hD)).trans hb
theorem Upd.rule {m : Nat} {w w' : World} (h : Upd [m] w w') : ∀ p : Addr, p.block < w.heap.size → p.block ≠ m → w'.cell? p = w.cell? p := fun p hp hm => World.cell?_of_block (h.block p.block hp (by simpa using hm))
theorem Z0J {w : World} {b : Nat} {o : Obj} (h : w.heap[b]? = some o) : b < w.heap.size := (Array.getElem?_eq_some_iff.1 h).1
theorem Z0C {w : World} {b : Nat} {cs : Array Value} {e : TypeId} {f : Nat × Nat} (h : w.heap[b]? = some (.cells cs e f)) (o : Nat) : w.cell? ⟨b, o, none⟩ = cs[o]? := by simp [World.cell?, h]
theorem Z4N {w : World} {b : Nat} {cs : Array Value} {e : TypeId} (h : w.heap[b]? = some (.cells cs e (0, 0))) (o : Nat) : w.frozen? ⟨b, o, none⟩ = false := by simp [World.frozen?, h]
theorem Z13 (w : World) (o : Obj) : (w.alloc o).heap[w.heap.size]? = some o := by show (w.heap.push o)[w.heap.size]? = _; simp
theorem Upd.args {D : List Nat} {w w' : World} (h : Upd D w w') (hD : ∀ k, k ∈ D → w.heap.size ≤ k) : ∀ p x, w.cell? p = some x → w'.cell? p = some x := fun p _ hx => h.cell hx (fun hd => by have := World.block_lt_of_cell? w p hx; have := hD _ hd; omega)
theorem Z6h {a b : ByteArray} (h : a.data.toList = b.data.toList) : a = b := by
 obtain ⟨⟨x⟩⟩ := a; obtain ⟨⟨y⟩⟩ := b; simp at h; subst h; rfl
theorem Z8W (a b : ByteArray) : (a == b) = decide (a = b) := by
 rw [beq_toListBytes, ByteArray.toList_eq, ByteArray.toList_eq, Bool.eq_iff_iff]
 simp only [beq_iff_eq, decide_eq_true_eq]
 exact ⟨Z6h, fun h => h ▸ rfl⟩
theorem Z4I (a b : ByteArray) : (a.toList == b.toList) = decide (a = b) := by rw [← beq_toListBytes, Z8W]
abbrev ZD (s : List UInt8) : Value := .string ⟨s.toArray⟩
theorem Za9 (a b : List UInt8) : ((⟨a.toArray⟩ : ByteArray).toList == (⟨b.toArray⟩ : ByteArray).toList) = decide (a = b) := by
 rw [Z4I, Bool.eq_iff_iff]
 simp only [decide_eq_true_eq]
 exact ⟨fun h => by injection h with h; simpa using h, fun h => h ▸ rfl⟩
theorem Zbg (a b : List UInt8) : ((⟨a.toArray⟩ : ByteArray) == (⟨b.toArray⟩ : ByteArray)) = decide (a = b) := by rw [beq_toListBytes, Za9]
def Z1W (x : UInt8) : Value := .int .u8 x.toNat
def SliceOf {α : Type} (R : World → Addr → α → Prop) (sz : Nat) (w : World) (v : Value) (xs : List α) : Prop :=
 (∃ a cap, v = .slice a 0 cap ∧ xs = [] ∧ cap ≤ maxLen ∧ (a = none → cap = 0)) ∨
 (0 < xs.length ∧ ∃ b off cap, v = .slice (some ⟨b, off, none⟩) xs.length cap ∧ (xs.length ≤ cap ∧ cap ≤ maxLen) ∧ ∀ i (h : i < xs.length), R w ⟨b, off + i * sz, none⟩ xs[i])
def Off (D : List Nat) (v : Value) : Prop := ∀ k, v.ownBlock = some k → k ∉ D
section
variable {α : Type} {R : World → Addr → α → Prop} {sz : Nat} {w w' : World} {v : Value} {xs : List α}
theorem SliceOf.len (h : SliceOf R sz w v xs) : ∃ a c, v = .slice a xs.length c := by
 rcases h with ⟨a, c, rfl, rfl, _⟩ | ⟨_, b, off, cap, rfl, _⟩
 ·exact ⟨a, c, rfl⟩
 ·exact ⟨_, cap, rfl⟩
theorem SliceOf.some (h : SliceOf R sz w v xs) (h0 : 0 < xs.length) : ∃ b off cap, v = .slice (some ⟨b, off, none⟩) xs.length cap ∧ (xs.length ≤ cap ∧ cap ≤ maxLen) ∧ ∀ i (h : i < xs.length), R w ⟨b, off + i * sz, none⟩ xs[i] := by
 rcases h with ⟨_, _, _, rfl, _⟩ | ⟨_, h⟩
 ·simp at h0
 ·exact h
theorem SliceOf.mono (h : SliceOf R sz w v xs) (hR : ∀ a x, R w a x → R w' a x) : SliceOf R sz w' v xs := by
 rcases h with h | ⟨h0, b, off, cap, rfl, hn, h⟩
 ·exact .inl h
 ·exact .inr ⟨h0, b, off, cap, rfl, hn, fun i hi => hR _ _ (h i hi)⟩
theorem SliceOf.mono_off (h : SliceOf R sz w v xs) (hR : ∀ k o x, v.ownBlock = Option.some k → R w ⟨k, o, none⟩ x → R w' ⟨k, o, none⟩ x) : SliceOf R sz w' v xs := by
 rcases h with h | ⟨h0, b, off, cap, rfl, hn, h⟩
 ·exact .inl h
 ·exact .inr ⟨h0, b, off, cap, rfl, hn, fun i hi => hR _ _ _ rfl (h i hi)⟩
theorem SliceOf.imp {R' : World → Addr → α → Prop} (h : SliceOf R sz w v xs) (hR : ∀ a x, R w a x → R' w a x) : SliceOf R' sz w v xs := by
 rcases h with h | ⟨h0, b, off, cap, rfl, hn, h⟩
 ·exact .inl h
 ·exact .inr ⟨h0, b, off, cap, rfl, hn, fun i hi => hR _ _ (h i hi)⟩
theorem SliceOf.nil : SliceOf R sz w (.slice none 0 0) [] := .inl ⟨none, 0, rfl, rfl, by simp [maxLen], fun _ => rfl⟩
theorem SliceOf.le (h : SliceOf R sz w v xs) : xs.length ≤ maxLen := by
 rcases h with ⟨_, _, _, rfl, _⟩ | ⟨_, _, _, _, _, hn, _⟩
 ·simp
 ·omega
theorem SliceOf.take {b off cap : Nat} (h : SliceOf R sz w (.slice (Option.some ⟨b, off, none⟩) xs.length cap) xs) (n : Nat) : SliceOf R sz w (.slice (Option.some ⟨b, off, none⟩) (min xs.length n) cap) (xs.take n) := by
 have hl : (xs.take n).length = min xs.length n := by rw [List.length_take, Nat.min_comm]
 rcases h with ⟨a, c, e, rfl, hc, ha⟩ | ⟨h0, b', off', cap', e, ⟨h1, h2⟩, h⟩
 ·simp only [Value.slice.injEq] at e
  obtain ⟨rfl, _, rfl⟩ := e
  exact .inl ⟨_, _, by simp, by simp, hc, ha⟩
 ·simp only [Value.slice.injEq, Option.some.injEq, Addr.mk.injEq] at e
  obtain ⟨⟨rfl, rfl, _⟩, _, rfl⟩ := e
  by_cases hn : n = 0
  ·subst hn
   exact .inl ⟨Option.some ⟨b, off, none⟩, cap, by simp, by simp, h2, by simp⟩
  ·refine .inr ⟨by rw [hl]; omega, b, off, cap, by rw [hl], ⟨by rw [hl]; omega, h2⟩, fun i hi => ?_⟩
   rw [List.getElem_take]
   exact h i (by rw [hl] at hi; omega)
end
def Zbm {α : Type} (R : World → Value → α → Prop) (w : World) (a : Addr) (x : α) : Prop := ∃ v, w.cell? a = Option.some v ∧ R w v x
def Z3A (w : World) (a : Addr) (x : UInt8) : Prop := w.cell? a = Option.some (Z1W x)
def Z8R (w : World) (a : Addr) (x : Int) : Prop := w.cell? a = Option.some (.int .i64 x)
def BytesAt (w : World) (v : Value) (s : List UInt8) : Prop := SliceOf Z3A 1 w v s
def IntsAt (w : World) (v : Value) (s : List Int) : Prop := (∀ n ∈ s, -9223372036854775808 ≤ n ∧ n ≤ 9223372036854775807) ∧ SliceOf Z8R 1 w v s
theorem BytesAt.mono {w w' : World} {v : Value} {s : List UInt8} (h : BytesAt w v s) (hc : ∀ p x, w.cell? p = some x → w'.cell? p = some x) : BytesAt w' v s := SliceOf.mono h fun _ _ hx => hc _ _ hx
theorem BytesAt.len {w : World} {v : Value} {s : List UInt8} (h : BytesAt w v s) : ∃ a c, v = .slice a s.length c := SliceOf.len h
theorem BytesAt.some {w : World} {v : Value} {s : List UInt8} (h : BytesAt w v s) (h0 : 0 < s.length) : ∃ b off cap, v = .slice (some ⟨b, off, none⟩) s.length cap ∧ (s.length ≤ cap ∧ cap ≤ maxLen) ∧ ∀ i, i < s.length → w.cell? ⟨b, off + i, none⟩ = some (.int .u8 (s.getD i 0).toNat) := by
 obtain ⟨b, off, cap, e, hn, h⟩ := SliceOf.some h h0
 refine ⟨b, off, cap, e, hn, fun i hi => ?_⟩
 have := h i hi
 simp only [Z3A, Nat.mul_one, Z1W] at this
 simpa [List.getD, List.getElem?_eq_getElem hi] using this
theorem BytesAt.upd {D : List Nat} {w w' : World} {v : Value} {s : List UInt8} (h : BytesAt w v s) (hu : Upd D w w') (hD : Off D v) : BytesAt w' v s :=
 SliceOf.mono_off h fun k _ _ hk hx => hu.cell hx (hD k hk)
theorem IntsAt.mono {w w' : World} {v : Value} {s : List Int} (h : IntsAt w v s) (hc : ∀ p x, w.cell? p = some x → w'.cell? p = some x) : IntsAt w' v s := ⟨h.1, SliceOf.mono h.2 fun _ _ hx => hc _ _ hx⟩
def TextsAt (w : World) (v : Value) (xs : List (List UInt8)) : Prop := SliceOf (Zbm BytesAt) 1 w v xs
theorem TextsAt.some {w : World} {v : Value} {s : List (List UInt8)} (h : TextsAt w v s) (h0 : 0 < s.length) : ∃ b off cap, v = .slice (some ⟨b, off, none⟩) s.length cap ∧ ∀ i, i < s.length → ∃ u, w.cell? ⟨b, off + i, none⟩ = some u ∧ BytesAt w u (s.getD i []) := by
 obtain ⟨b, off, cap, e, hn, h⟩ := SliceOf.some h h0
 refine ⟨b, off, cap, e, fun i hi => ?_⟩
 have := h i hi
 simp only [Zbm, Nat.mul_one] at this
 simpa [List.getD, List.getElem?_eq_getElem hi] using this
theorem IntsAt.len {w : World} {v : Value} {s : List Int} (h : IntsAt w v s) : ∃ a c, v = .slice a s.length c := SliceOf.len h.2
theorem IntsAt.some {w : World} {v : Value} {s : List Int} (h : IntsAt w v s) (h0 : 0 < s.length) : ∃ b off cap, v = .slice (some ⟨b, off, none⟩) s.length cap ∧ (s.length ≤ cap ∧ cap ≤ maxLen) ∧ ∀ i, i < s.length → w.cell? ⟨b, off + i, none⟩ = some (.int .i64 (s.getD i 0)) := by
 obtain ⟨b, off, cap, e, hn, h⟩ := SliceOf.some h.2 h0
 refine ⟨b, off, cap, e, hn, fun i hi => ?_⟩
 have := h i hi
 simp only [Z8R, Nat.mul_one] at this
 simpa [List.getD, List.getElem?_eq_getElem hi] using this
theorem Z3Y {P : Program} {w : World} {v : Value} {s : List UInt8} (h : BytesAt w v s) {src dst e : TypeId} (hs : P.underlying src = some (.slice e)) (he : P.underlying e = some (.int .u8)) (hd : P.underlying dst = some .string) :
  (convert src dst v).run P w = .ok (ZD s) w := by
 rcases Nat.eq_zero_or_pos s.length with h0 | h0
 ·obtain rfl : s = [] := List.eq_nil_of_length_eq_zero h0
  obtain ⟨a, c, rfl⟩ := h.len
  cases a with
  | none => exact run_convert_bytes_nil w src e hs he _ _ dst hd
  | some a =>
   rw [run_convert_bytes_string w src dst e _ _ c hs he hd, run_bytesToString w _ _ c [] (by simp [loadCells, loadCellsFrom])]
   rfl
 ·obtain ⟨b, off, cap, rfl, _, hc⟩ := h.some h0
  have hl : (s.map fun x : UInt8 => (x.toNat : Int)).length = s.length := List.length_map _
  rw [run_convert_bytes_arg w src e hs he b off s.length cap (s.map fun x : UInt8 => (x.toNat : Int)) hl (fun i hi => by
   rw [hc i hi]
   simp [List.getD, List.getElem?_map, List.getElem?_eq_getElem hi]) dst hd]
  unfold ZD
  congr 2
  refine Z6h ?_
  rw [strOfNums_data, List.map_map]
  simp [Function.comp_def]
theorem Upd.cells {w w' : World} (h : Upd [] w w') : ∀ p x, w.cell? p = some x → w'.cell? p = some x := fun _ _ hx => h.cell hx (by simp)
theorem Below.cells {w w' : World} (h : Below w.heap.size w w') : ∀ p x, w.cell? p = some x → w'.cell? p = some x := fun p _ hx => (h.cell (World.block_lt_of_cell? w p hx)).trans hx
theorem Z6W {w : World} {base e size n : Nat} {v : Value} {xs : List Value} (h : w.ownsRow base e size v n xs) (hn : 0 < n) : ∃ g cap, v = .slice (some ⟨g, 0, none⟩) n cap ∧ base ≤ g ∧ n ≤ cap ∧
  (∀ j u, xs[j]? = some u → w.cell? ⟨g, j, none⟩ = some u) ∧ ∀ j, w.frozen? ⟨g, j, none⟩ = false := by
 rcases h.2 with ⟨rfl, rfl⟩ | ⟨g, cap, cur, rfl, hb, hgg, hc, _, hcs, htake⟩
 ·omega
 ·refine ⟨g, cap, rfl, hb, hc, fun j u hu => ?_, fun j => Z4N hgg j⟩
  rw [Z0C hgg]
  rw [← htake, List.getElem?_take] at hu
  split at hu
  ·simpa using hu
  ·cases hu
theorem Z6V {w : World} {base base' e size n : Nat} {v : Value} {xs : List Value} (h : w.ownsRow base e size v n xs) (hb : base' ≤ base) : w.ownsRow base' e size v n xs := by
 refine ⟨h.1, ?_⟩
 rcases h.2 with hn | ⟨g, cap, cur, rfl, hbg, rest⟩
 ·exact .inl hn
 ·exact .inr ⟨g, cap, cur, rfl, by omega, rest⟩
theorem Z4S {P : Program} (w : World) (base : Nat) (t ty e : TypeId) (i : TypeInfo) (z : Value) (size bytes : Nat) (ht : P.underlying t = some (.slice e)) (hi : P.info? e = some i) (hz : i.zero = some z)
  (hsize : i.size = size) (hby : i.bytes = bytes) (hzs : z.cells.size = size) (hsz : 0 < size)
  (v : Value) (n : Nat) (xs : List Value) (hown : w.ownsRow base e size v n xs)
  (a : Addr) (m c : Nat) (news : List Value) (hl : news.length = m * size) (hnews : ∀ j u, news[j]? = some u → w.cell? (a.add j) = some u) (h1 : ∀ u ∈ news, u.oneCell' = true)
  (h63 : n + m ≤ maxLen) (hbytes : (n + m) * bytes ≤ 140737488355328) (hbase : base ≤ w.heap.size) :
  ∃ v' w', (Builtin.append_ #[t, t] ty #[v, .slice (some a) m c]).run P w = .ok v' w' ∧ w'.ownsRow base e size v' (n + m) (xs ++ news) ∧ w.grownBy w' v.ownBlock ∧
   ∀ b, v'.ownBlock = some b → v.ownBlock = some b ∨ w.heap.size ≤ b := by
 rcases hown.2 with ⟨rfl, rfl⟩ | ⟨g, cap, cur, rfl, hbg, hg, hnc, hcm, hcs, htake⟩
 ·have hx : xs = [] := List.eq_nil_of_length_eq_zero (by simpa using hown.1)
  subst hx
  obtain ⟨v', w', h2, h3, h4, _⟩ := run_append_own w w.heap.size t ty e i z size bytes ht hi hz hsize hby hzs hsz _ 0 [] (World.ownsRow_nil w _ e size) a m c news hl hnews h1 h63 hbytes (Nat.le_refl _)
  exact ⟨v', w', h2, Z6V h3 hbase, h4, fun b hb => .inr (h3.lt b hb).1⟩
 ·obtain ⟨v', w', h2, h3, h4, _⟩ := run_append_own w base t ty e i z size bytes ht hi hz hsize hby hzs hsz _ n xs hown a m c news hl hnews h1 h63 hbytes hbase
  refine ⟨v', w', h2, h3, h4, fun b hb => ?_⟩
  subst hsize hby
  by_cases hroom : n + m ≤ cap
  ·have hfit : n * i.size + news.length ≤ cur.size := by rw [hl, hcs, ← Nat.add_mul]; exact Nat.mul_le_mul_right _ hroom
   have hr := run_append_room (P := P) w t ty e i ht hi g n cap cur hg a m c news hl hnews h1 hroom hfit
   rw [hr] at h2
   injection h2 with h5 _
   subst h5
   exact .inl hb
  ·have holds : ∀ j u, xs[j]? = some u → w.cell? ((⟨g, 0, none⟩ : Addr).add j) = some u := hown.cells (g := g) rfl
   simp only [maxLen] at h63
   have hr := run_append_grow (P := P) w t ty e i z ht hi hz ⟨g, 0, none⟩ n cap xs hown.1 holds a m c news hl hnews (by omega) (by omega) (growslice_fits (by omega) hbytes)
   rw [hr] at h2
   injection h2 with h5 _
   subst h5
   right
   simp [Value.ownBlock] at hb
   omega
theorem Ze {w : World} {base e size n : Nat} {v : Value} {xs : List Value} (h : w.ownsRow base e size v n xs) : ∃ a c, v = .slice a n c := by
 rcases h.2 with ⟨rfl, rfl⟩ | ⟨g, cap, cur, rfl, _⟩
 ·exact ⟨_, _, rfl⟩
 ·exact ⟨_, _, rfl⟩
structure KeyTy (P : Program) (k : TypeId) {κ : Type} [DecidableEq κ] (enc : κ → Value) : Prop where
 check : ∀ (w : World) (em : Bool) (a : κ), (Instr.checkKey em 10000 k (enc a)).run P w = .ok () w
 find : ∀ (w : World) (a : κ) (es : List MapEntry) (ks : List κ), es.map (·.key) = ks.map enc →
  (Instr.findKey k (enc a) es).run P w = .ok ((ks.idxOf? a).bind fun i => (es[i]?).map fun e => (i, e.val)) w
 same : ∀ a : κ, Instr.sameBits 10000 (enc a) (enc a) = true
theorem Z4M {P : Program} {k : TypeId} {κ : Type} [DecidableEq κ] {enc : κ → Value} (w : World) (heq : ∀ a b, (Op.equal k (enc a) (enc b)).run P w = .ok (decide (a = b)) w) (a : κ) :
  ∀ (es : List MapEntry) (ks : List κ) (n : Nat), es.map (·.key) = ks.map enc →
   (Instr.findAsking k (enc a) es n).run P w = .ok ((ks.idxOf? a).bind fun i => (es[i]?).map fun e => (n + i, e.val)) w := by
 intro es
 induction es with
 | nil => intro ks n h; cases ks <;> simp_all [Instr.findAsking]
 | cons e es ih =>
  intro ks n h
  cases ks with
  | nil => simp at h
  | cons x ks =>
   simp only [List.map_cons, List.cons.injEq] at h
   obtain ⟨h1, h2⟩ := h
   by_cases hax : a = x
   ·subst hax
    simp [Instr.findAsking, h1, heq, List.idxOf?_cons]
   ·have hx : (x == a) = false := by simp; exact fun h => hax h.symm
    simp only [Instr.findAsking, h1, Sem.run_bind, heq, Result.andThen_ok, hax, decide_false, Bool.false_eq_true, if_false, ih ks (n + 1) h2]
    simp only [List.idxOf?_cons, hx, Bool.false_eq_true, if_false]
    cases hi : ks.idxOf? a with
    | none => simp
    | some i => simp [Nat.add_assoc, Nat.add_comm 1 i]
theorem KeyTy.deep {P : Program} {k : TypeId} {κ : Type} [DecidableEq κ] {enc : κ → Value} (hwide : (match P.underlying k with | some (.array _ _) | some (.struct _) => true | _ => false) = true)
  (hc : ∀ (w : World) (em : Bool) (a : κ), (Instr.checkKey em 10000 k (enc a)).run P w = .ok () w)
  (heq : ∀ (w : World) (a b : κ), (Op.equal k (enc a) (enc b)).run P w = .ok (decide (a = b)) w) (hsame : ∀ a : κ, Instr.sameBits 10000 (enc a) (enc a) = true) : KeyTy P k enc where
 check := hc
 find w a es ks h := by
  rw [run_findKey_eq w hwide, Z4M w (heq w) a es ks 0 h]
  simp
 same := hsame
theorem Z7r (a : Int) : ∀ (es : List MapEntry) (ks : List Int) (n : Nat), es.map (·.key) = ks.map (Value.int .i64) →
  Instr.findNow (.int .i64) (.int .i64 a) es n = some ((ks.idxOf? a).bind fun i => (es[i]?).map fun e => (n + i, e.val)) := by
 intro es
 induction es with
 | nil => intro ks n h; cases ks <;> simp_all [Instr.findNow]
 | cons e es ih =>
  intro ks n h
  cases ks with
  | nil => simp at h
  | cons x ks =>
   simp only [List.map_cons, List.cons.injEq] at h
   obtain ⟨h1, h2⟩ := h
   by_cases hax : a = x
   ·subst hax
    simp [Instr.findNow, h1, Instr.sameNow, List.idxOf?_cons]
   ·have hx : (x == a) = false := by simp; exact fun h => hax h.symm
    have hx' : (a == x) = false := by simpa using hax
    simp only [Instr.findNow, h1, Instr.sameNow, if_true, hx', ih ks (n + 1) h2, List.idxOf?_cons, hx, Bool.false_eq_true, if_false]
    cases hi : ks.idxOf? a with
    | none => simp
    | some i => simp [Nat.add_assoc, Nat.add_comm 1 i]
theorem KeyTy.int {P : Program} {k : TypeId} (hk : P.underlying k = some (.int .i64)) : KeyTy P k (Value.int .i64) where
 check w em a := MapKept.run_checkKey (d := .int .i64) hk (by simp [MapKept.IsKey]) em 9999
 find w a es ks h := by
  simp [Instr.findKey, run_underlying hk, Z7r a es ks 0 h]
 same a := by simp [Instr.sameBits]
def MapAt {κ ν : Type} (w : World) (b : Nat) (encK : κ → Value) (encV : ν → Value) (l : List (κ × ν)) : Prop :=
 ∃ es clock, w.heap[b]? = some (.map es clock) ∧ es.toList.map (fun e => (e.key, e.val)) = l.map (fun x => (encK x.1, encV x.2)) ∧ (l.map (·.1)).Nodup ∧
  (es.toList.map (·.born)).Pairwise (· < ·) ∧ ∀ e ∈ es.toList, e.born < clock
section
variable {κ ν : Type} [DecidableEq κ] {encK : κ → Value} {encV : ν → Value} {P : Program} {k : TypeId} {w : World} {b : Nat} {l : List (κ × ν)}
omit [DecidableEq κ] in
theorem MapAt.lt (h : MapAt w b encK encV l) : b < w.heap.size := by obtain ⟨es, clock, hb, _⟩ := h; exact Z0J hb
omit [DecidableEq κ] in
omit [DecidableEq κ] in
theorem MapAt.stay {w' : World} (h : MapAt w b encK encV l) (hb : w'.heap[b]? = w.heap[b]?) : MapAt w' b encK encV l := by
 obtain ⟨es, clock, h1, h2⟩ := h; exact ⟨es, clock, hb.trans h1, h2⟩
omit [DecidableEq κ] in
theorem MapAt.upd {D : List Nat} {w' : World} (h : MapAt w b encK encV l) (hu : Upd D w w') (hD : b ∉ D) : MapAt w' b encK encV l := h.stay (hu.block b h.lt hD)
omit [DecidableEq κ] in
theorem MapAt.alloc (h : MapAt w b encK encV l) (o : Obj) : MapAt (w.alloc o) b encK encV l := h.stay (Below.heap_alloc w o b h.lt)
omit [DecidableEq κ] in
theorem MapAt.made (w : World) : MapAt (w.alloc (.map #[] 0)) w.heap.size encK encV [] := ⟨#[], 0, Z13 w _, rfl, by simp, by simp, by simp⟩
def Zn (l : List (κ × ν)) (a : κ) : Option ν := (l.find? fun x => x.1 == a).map (·.2)
def Z2Y (l : List (κ × ν)) (a : κ) (v : ν) : List (κ × ν) := if a ∈ l.map (·.1) then l.map fun x => if x.1 = a then (a, v) else x else l ++ [(a, v)]
theorem Z6Q (l : List (κ × ν)) (a : κ) : Zn l a = ((l.map (·.1)).idxOf? a).bind fun i => (l[i]?).map (·.2) := by
 unfold Zn
 induction l with
 | nil => simp
 | cons x l ih =>
  simp only [List.map_cons, List.idxOf?_cons, List.find?_cons]
  by_cases h : (x.1 == a) = true
  ·simp [h]
  ·simp only [h, Bool.false_eq_true, if_false, ih]
   cases (l.map (·.1)).idxOf? a <;> simp
omit [DecidableEq κ] in
theorem MapAt.keys {es : Array MapEntry} (h : es.toList.map (fun e => (e.key, e.val)) = l.map (fun x => (encK x.1, encV x.2))) : es.toList.map (·.key) = (l.map (·.1)).map encK := by
 have := congrArg (List.map (·.1)) h; simpa [List.map_map, Function.comp_def] using this
omit [DecidableEq κ] in
theorem MapAt.vals {es : Array MapEntry} (h : es.toList.map (fun e => (e.key, e.val)) = l.map (fun x => (encK x.1, encV x.2))) (i : Nat) : (es.toList[i]?).map (·.val) = (l[i]?).map fun x => encV x.2 := by
 have := congrArg (fun m => (m[i]?).map (·.2)) h
 simpa [List.getElem?_map, Option.map_map, Function.comp_def] using this
theorem MapAt.findKey (K : KeyTy P k encK) (w' : World) {es : Array MapEntry} (h : es.toList.map (fun e => (e.key, e.val)) = l.map (fun x => (encK x.1, encV x.2))) (a : κ) :
  ∃ r, (Instr.findKey k (encK a) es.toList).run P w' = .ok r w' ∧ r = (((l.map (·.1)).idxOf? a).bind fun i => (es.toList[i]?).map fun e => (i, e.val)) :=
 ⟨_, K.find w' a es.toList _ (MapAt.keys h), rfl⟩
theorem MapAt.lookup (K : KeyTy P k encK) {t e : TypeId} (ht : P.underlying t = some (.map k e)) {z : Value} (hz : ∀ w, (zeroValue e).run P w = .ok z w) (h : MapAt w b encK encV l) (a : κ) (ok : Bool) :
  (Instr.lookup t (.map (some b)) (encK a) ok).run P w =
   .ok (if ok then .tuple #[((Zn l a).map encV).getD z, .bool (Zn l a).isSome] else ((Zn l a).map encV).getD z) w := by
 obtain ⟨es, clock, hb, he, _⟩ := h
 have hf := K.find w a es.toList _ (MapAt.keys he)
 rw [Z6Q]
 cases hi : (l.map (·.1)).idxOf? a with
 | none =>
  rw [hi] at hf
  cases ok <;> simp [Instr.lookup, run_underlying ht, MapKept.run_getObj_map hb, Result.andThen, K.check, hf, hz]
 | some i =>
  rw [hi] at hf
  have hv := MapAt.vals he i
  have hlt : i < l.length := by
   have := List.idxOf?_eq_some_iff.1 hi
   obtain ⟨h1, _⟩ := this
   simpa using h1
  have hes : i < es.toList.length := by have := congrArg List.length he; simp at this; simpa [this] using hlt
  simp only [List.getElem?_eq_getElem hes, List.getElem?_eq_getElem hlt, Option.map_some, Option.some.injEq] at hv
  simp only [Option.bind_some, List.getElem?_eq_getElem hes, Option.map_some] at hf
  cases ok <;> simp [Instr.lookup, run_underlying ht, MapKept.run_getObj_map hb, Result.andThen, K.check, hf, List.getElem?_eq_getElem hlt] <;> simpa using hv
omit [DecidableEq κ] in
theorem MapAt.len (h : MapAt w b encK encV l) {t e : TypeId} (ht : P.underlying t = some (.map k e)) (ty : TypeId) : (Builtin.len_ #[t] ty #[.map (some b)]).run P w = .ok (.int .i64 l.length) w := by
 obtain ⟨es, clock, hb, he, _⟩ := h
 have := congrArg List.length he
 simp at this
 simp [Builtin.len_, run_underlying ht, MapKept.run_getObj_map hb, Result.andThen, goInt, this]
theorem Z3F (a : κ) (l : List (κ × ν)) : (l.map (·.1)).idxOf? a = none ↔ a ∉ l.map (·.1) := by
 simp [List.idxOf?_eq_none_iff]
theorem Z8w {i : Nat} {a : κ} (hn : (l.map (·.1)).Nodup) (hi : (l.map (·.1)).idxOf? a = some i) (v : ν) : (l.map fun x => if x.1 = a then (a, v) else x) = l.set i (a, v) := by
 obtain ⟨h1, h2, h3⟩ := List.idxOf?_eq_some_iff.1 hi
 have h1' : i < l.length := by simpa using h1
 refine List.ext_getElem (by simp) fun j hj1 hj2 => ?_
 simp only [List.length_map] at hj1
 rw [List.getElem_map, List.getElem_set]
 by_cases hij : i = j
 ·subst hij
  have : l[i].1 = a := by simpa using h2
  simp [this]
 ·have hne : l[j].1 ≠ a := by
   intro h
   have h4 : (l.map (·.1))[i] = (l.map (·.1))[j]'(by simpa using hj1) := by
    have h2' : (l.map (·.1))[i] = a := by simpa using h2
    rw [h2']; simp [h]
   exact hij ((List.getElem_inj hn).1 h4)
  simp [hne, hij]
theorem Z6U (hn : (l.map (·.1)).Nodup) (a : κ) (v : ν) : ((Z2Y l a v).map (·.1)).Nodup := by
 unfold Z2Y
 split
 ·have : (l.map fun x => if x.1 = a then (a, v) else x).map (·.1) = l.map (·.1) := by
   rw [List.map_map]
   refine List.map_congr_left fun x _ => ?_
   simp only [Function.comp]
   split <;> simp_all
  rw [this]; exact hn
 ·rename_i h
  rw [List.map_append]
  refine List.nodup_append.2 ⟨hn, by simp, ?_⟩
  intro x hx y hy
  simp at hy
  subst hy
  intro e
  subst e
  exact h hx
theorem MapAt.update (K : KeyTy P k encK) {t e : TypeId} (ht : P.underlying t = some (.map k e)) (h : MapAt w b encK encV l) (a : κ) (v : ν) :
  ∃ w', (Instr.mapUpdate t (.map (some b)) (encK a) (encV v)).run P w = .ok () w' ∧ MapAt w' b encK encV (Z2Y l a v) ∧ Upd [b] w w' ∧ w'.heap.size = w.heap.size := by
 obtain ⟨es, clock, hb, he, hn, hp, hc⟩ := h
 have hf := K.find w a es.toList _ (MapAt.keys he)
 have hst : (Instr.keyThatStays (encK a) (encK a)).run P w = .ok (encK a) w := by simp [Instr.keyThatStays, K.same]
 have upd : ∀ o, Upd [b] w (ChangeMaps.setBlock w b o) := fun o => ⟨rfl, rfl, rfl, by simp [ChangeMaps.setBlock], fun j _ hj => ChangeMaps.heap_setBlock_other hb _ (by simpa using hj)⟩
 have hlen : es.toList.length = l.length := by have := congrArg List.length he; simpa using this
 cases hi : (l.map (·.1)).idxOf? a with
 | none =>
  rw [hi] at hf
  have hnot : a ∉ l.map (·.1) := (Z3F a l).1 hi
  refine ⟨ChangeMaps.setBlock w b (.map (es.push { key := encK a, val := encV v, born := clock }) (clock + 1)), ?_, ?_, upd _, by simp [ChangeMaps.setBlock]⟩
  ·simp [Instr.mapUpdate, run_underlying ht, MapKept.run_getObj_map hb, Result.andThen, K.check, hf, MapKept.run_setObj_map _ hb, ChangeMaps.setBlock]
  ·refine ⟨_, _, ChangeMaps.heap_setBlock_same hb _, ?_, Z6U hn a v, ?_, ?_⟩
   ·unfold Z2Y; rw [if_neg hnot]; simp [he]
   ·simp only [Array.toList_push, List.map_append, List.map_cons, List.map_nil]
    refine List.pairwise_append.2 ⟨hp, by simp, ?_⟩
    intro x hx y hy
    simp at hy
    subst hy
    obtain ⟨e0, he0, rfl⟩ := List.mem_map.1 hx
    exact hc e0 he0
   ·intro e0 he0
    simp only [Array.toList_push, List.mem_append, List.mem_singleton] at he0
    rcases he0 with he0 | rfl
    ·have := hc e0 he0; omega
    ·simp
 | some i =>
  rw [hi] at hf
  have hmem : a ∈ l.map (·.1) := by
   have hne : (l.map (·.1)).idxOf? a ≠ none := by rw [hi]; simp
   exact Decidable.not_not.1 (fun h => hne ((Z3F a l).2 h))
  obtain ⟨h1, h2, _⟩ := List.idxOf?_eq_some_iff.1 hi
  have hlt : i < l.length := by simpa using h1
  have hes : i < es.size := by simpa [← hlen] using hlt
  have hkey : es[i].key = encK a := by
   have h3 := congrArg (fun m => m[i]?) (MapAt.keys he)
   simp only [List.getElem?_map, List.getElem?_eq_getElem hlt, Option.map_some] at h3
   have h4 : l[i].1 = a := by simpa using h2
   rw [h4] at h3
   simpa [hes] using h3
  have hli : i < es.toList.length := by simpa using hes
  simp only [Option.bind_some, List.getElem?_eq_getElem hli, Option.map_some] at hf
  refine ⟨ChangeMaps.setBlock w b (.map (es.modify i fun e => { e with key := encK a, val := encV v }) clock), ?_, ?_, upd _, by simp [ChangeMaps.setBlock]⟩
  ·simp [Instr.mapUpdate, run_underlying ht, MapKept.run_getObj_map hb, Result.andThen, K.check, hf, hkey, hst, hes, MapKept.run_setObj_map _ hb, ChangeMaps.setBlock]
  ·refine ⟨_, _, ChangeMaps.heap_setBlock_same hb _, ?_, Z6U hn a v, ?_, ?_⟩
   ·unfold Z2Y
    rw [if_pos hmem, Z8w hn hi, Array.toList_modify]
    refine List.ext_getElem (by simp [hlen]) fun j hj1 hj2 => ?_
    have h5 := congrArg (fun m => m[j]?) he
    simp only [List.length_map, List.length_modify] at hj1
    have hjl : j < l.length := by rw [← hlen]; exact hj1
    simp only [List.getElem?_map, List.getElem?_eq_getElem hj1, List.getElem?_eq_getElem hjl, Option.map_some, Option.some.injEq] at h5
    simp only [List.getElem_map, List.getElem_modify, List.getElem_set]
    by_cases hij : i = j
    ·simp [hij]
    ·simpa [hij] using h5
   ·have : (es.modify i fun e => { e with key := encK a, val := encV v }).toList.map (·.born) = es.toList.map (·.born) := by
     rw [Array.toList_modify]
     refine List.ext_getElem (by simp) fun j hj1 hj2 => ?_
     simp only [List.getElem_map, List.getElem_modify]
     split <;> simp
    rw [this]; exact hp
   ·intro e0 he0
    rw [Array.toList_modify] at he0
    obtain ⟨j, hj, rfl⟩ := List.mem_iff_getElem.1 he0
    rw [List.getElem_modify]
    simp only [List.length_modify] at hj
    have := hc es.toList[j] (List.getElem_mem _)
    split <;> simpa using this
end
end Go.Proofs.YtgigjkjdmalmaaaGreat
