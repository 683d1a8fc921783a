/- WHAT IS PROVED: contracts and plain laws of TxtD, SortMath. Conditions: stated with each. -/
import Derived.Laws.IdiomStrings
import Derived.Calls
import Derived.Test.YtenihpghfdcpkaaGreatPO02
import Derived.Test.YtenihpghfdcpkaaGreatPO04
import Derived.Test.YtenihpghfdcpkaaGreatPO06
set_option maxHeartbeats 4000000
set_option maxRecDepth 100000
namespace Go.Proofs.YtenihpghfdcpkaaGreat
open Go.RowKit
def Z9T (v : Value) : List Value := [v]
theorem Z1Q (v : Value) : (Z9T v).length = 1 := rfl
section
variable {w w' w0 : World} {v : Value} {s : List UInt8} {vs : List Value} {ss : List (List UInt8)} {G : List Ck}
structure Parts (w : World) (vs : LV) (ss : List (List UInt8)) : Prop where
 len : vs.length = ss.length
 get : ∀ i, i < vs.length → ListAt Zr 1 w (vs.getD i undef) (ss.getD i [])
theorem Parts.nil : Parts w [] [] := ⟨rfl, fun i h => by simp at h⟩
theorem Parts.cons (h : ListAt Zr 1 w v s) (t : Parts w vs ss) : Parts w (v :: vs) (s :: ss) := ⟨by simp [t.len], fun i hi => by
 cases i with
 | zero => exact h
 | succ i => exact t.get i (by simpa using hi)⟩
theorem Z9l (ss : List (List UInt8)) {i : Nat} (h : i < ss.length) : (ss.take (i + 1)).flatten = (ss.take i).flatten ++ ss.getD i [] := by
 rw [List.take_add_one, List.getElem?_eq_getElem h, List.flatten_append, List.getD_eq_getElem?_getD, List.getElem?_eq_getElem h]
 simp
theorem Zda (ss : List (List UInt8)) {i : Nat} (h : i < ss.length) : (ss.take i).flatten.length + (ss.getD i []).length ≤ ss.flatten.length := by
 have h1 := congrArg List.length (Z9l ss h)
 have h2 : ss.flatten = (ss.take (i + 1)).flatten ++ (ss.drop (i + 1)).flatten := by rw [← List.flatten_append, List.take_append_drop]
 rw [List.length_append] at h1
 rw [h2, List.length_append]; omega
def Z1t (v : Value) (s : List UInt8) : Ck where
 fp b := 0 < s.length ∧ v.ownBlock = some b
 ok w := BytesAt w v s
 stay {w w'} h hb := by
  rcases h with h | ⟨h0, b, off, cap, rfl, hn, h⟩
  ·exact .inl h
  ·refine .inr ⟨h0, b, off, cap, rfl, hn, fun i hi => ?_⟩
   have := h i hi
   unfold Z7Q World.cell? at this ⊢
   rw [hb b ⟨h0, rfl⟩]; exact this
 lt {w} h b hb := by
  obtain ⟨h0, hb⟩ := hb
  obtain ⟨b', off, cap, rfl, _, h⟩ := SliceOf.some h h0
  have := h 0 h0
  simp only [Value.ownBlock, Option.some.injEq] at hb
  subst hb
  unfold Z7Q World.cell? at this
  by_cases hl : b' < w.heap.size
  ·exact hl
  ·rw [Array.getElem?_eq_none (show w.heap.size ≤ b' by omega)] at this; simp at this
theorem ListAt.ofTxt (h : (Z1t v s).ok w) : ListAt Zr 1 w v s := Z7R h
theorem ListAt.ofHash {x : Hash} {b o c : Nat} (h : Z4h w ⟨b, o, none⟩ (hc x)) (hc' : 32 ≤ c ∧ c ≤ maxLen) : ListAt Zr 1 w (.slice (some ⟨b, o, none⟩) 32 c) x.l := by
 refine Z7R (.inr ⟨by rw [x.len]; decide, b, o, c, by rw [x.len], by rw [x.len]; exact hc', fun i hi => ?_⟩)
 have := h i (Z45 x.l[i]) (by rw [Z8p, List.getElem?_map, List.getElem?_eq_getElem hi]; rfl)
 rw [Addr.add_lit] at this
 unfold Z7Q; rw [Nat.mul_one]; exact this
theorem Z3N {w : World} {b T o : Nat} {cs us : List Value} (h : (Z0 b T cs).ok w) (hu : (cs.drop o).take us.length = us) : Z4h w ⟨b, o, none⟩ us := by
 intro j v hj
 rw [Addr.add_lit, Z19 h]
 rw [← hu, List.getElem?_take] at hj
 split at hj
 ·rw [List.getElem?_drop] at hj; simpa using hj
 ·cases hj
theorem Sat.offP {A : Ck} {B : List Ck} (H : Sat w0 G w) (is : List Nat) (t : Nat) (hB : (is.filterMap fun i => G[i]?) = B) (ht : G[t]? = some A) (hne : is.all (fun i => !Nat.beq t i) = true) {b : Nat} (hb : A.fp b) : ¬ (Z04 B).fp b := by
 rintro ⟨C, hC, hfp⟩
 rw [← hB] at hC
 obtain ⟨i, him, hiC⟩ := List.mem_filterMap.1 hC
 have := List.all_eq_true.1 hne i him
 exact H.apart t i ht hiC (by simpa using this) b hb hfp
theorem Z5d {B : List Ck} {n c : Nat} {a : Option Addr} (h : ∀ b, (Z1t (.slice a n c) s).fp b → ¬ (Z04 B).fp b) : 0 < s.length → ∀ ad, a = some ad → ¬ (Z04 B).fp ad.block := fun h0 ad ha => h _ ⟨h0, by subst ha; rfl⟩
end
section
variable {P : Program} {n : Nat} {f : Nat → Value} {w w0 : World} {dst : Option Tmp} {ty : TypeId} {pos : String} {aft : Array Edge} {gd : Option (Nat × Bool)} {K : Act → World → Prop} {Q : Exit → Act → World → Prop} {G : List Ck}
theorem Zd1 {S D e : TypeId} {x : Operand} {d : Nat} {s : List UInt8} (hd : dst = some d) (H : Sat w0 G w) (hs : P.underlying S = some .string) (hD : P.underlying D = some (.slice e)) (he : P.underlying e = some (.int .u8)) (hx : ev n f x = Z5Q s) (hl : s.length ≤ 1000000) (h0 : 0 < s.length)
  (kk : ∀ b c w', Sat w0 (G ++ [Z1t (.slice (some ⟨b, 0, none⟩) s.length c) s]) w' → K (fr n (upd f d (.slice (some ⟨b, 0, none⟩) s.length c))) w') : WO P ⟨dst, .convert S D x, ty, pos, aft, gd⟩ K Q n f w := by
 have hsz : (⟨s.toArray⟩ : ByteArray).size = s.length := by simp [ByteArray.size]
 have hr := run_bytes_of_string (P := P) w S D e ⟨s.toArray⟩ hs hD he
 rw [hsz] at hr
 obtain ⟨C, hC⟩ : ∃ C, C = Obj.cells (bytesRow ⟨s.toArray⟩ (grownCap w s.length 0 e)) e ((bytesRow ⟨s.toArray⟩ (grownCap w s.length 0 e)).size, (bytesRow ⟨s.toArray⟩ (grownCap w s.length 0 e)).size + 1) := ⟨_, rfl⟩
 obtain ⟨w1, hw⟩ : ∃ w1 : World, w1 = w.drew.alloc C := ⟨_, rfl⟩
 rw [← hC, ← hw] at hr
 have hh : w1.heap = w.heap.push C := by rw [hw]; rfl
 refine Z4s hd (v := .slice (some ⟨w.heap.size, 0, none⟩) s.length (grownCap w s.length 0 e)) (w' := w1) (by simp [execOp, hx, Z5Q, hr, Result.andThen]) (kk _ _ _ (H.add ⟨by rw [hw]; rfl, by rw [hw]; rfl, by rw [hw]; rfl, by rw [hh]; simp⟩ (fun b hb => by rw [hh, Array.getElem?_push]; simp; omega) ?_ (fun b hb => ?_)))
 ·refine .inr ⟨h0, _, 0, _, rfl, ⟨grownCap_ge _ _ _ _, grownCap_le_maxLen _ _ _ _ (by unfold maxLen; omega)⟩, fun i hi => ?_⟩
  unfold Z7Q World.cell?
  simp only [hh, Array.getElem?_push, if_true, Nat.zero_add, Nat.mul_one, hC]
  simp [bytesRow, Array.getElem?_append, hi, Z45]
 ·simp only [Z1t, Value.ownBlock, Option.some.injEq] at hb; omega
theorem Z1l {S e : TypeId} {x : Operand} {d : Nat} {s : List UInt8} {g c : Nat} (hd : dst = some d) (H : Sat w0 G w) (i : Nat) (hi : G[i]? = some (Zh e 1 (.slice (some ⟨g, 0, none⟩) s.length c) s.length (s.flatMap Zr))) (hS : P.underlying S = some (.slice e)) (he : P.underlying e = some (.int .u8)) (hx : ev n f x = .slice (some ⟨g, 0, none⟩) s.length c)
  (kk : ∀ w', Sat w0 (G.set i (Z1t (.slice (some ⟨g, 0, none⟩) s.length c) s)) w' → K (fr n (upd f d (.slice (some ⟨g, 0, none⟩) s.length c))) w') : WO P ⟨dst, .convert S S x, ty, pos, aft, gd⟩ K Q n f w := by
 have hok := H.at i hi
 have hL := ListAt.row (enc := Zr) (sz := 1) (xs := s) Zs (by decide) hok
 rcases hok.2 with ⟨hv, _⟩ | ⟨g', cap, cur, hv, _, hgg, hcap, hm, hcs, htake⟩
 ·simp at hv
 simp only [Value.slice.injEq, Option.some.injEq, Addr.mk.injEq] at hv
 obtain ⟨⟨rfl, _⟩, _, rfl⟩ := hv
 have hsh : w.shape? g = some (e, cur.size) := by unfold World.shape?; rw [hgg]
 have hlt := Z1w hgg
 have hr : (convert S S (.slice (some ⟨g, 0, none⟩) s.length c)).run P w = .ok (.slice (some ⟨g, 0, none⟩) s.length c) (w.freeze ⟨g, cur.size, none⟩ 1) := by
  simp [convert, run_underlying hS, run_underlying he, markStringish, hsh]
 have hh : (w.freeze ⟨g, cur.size, none⟩ 1).heap = w.heap.modify g fun
   | .cells c elem (lo, hi) => .cells c elem (if lo == hi then (cur.size, cur.size + 1) else (min lo cur.size, max hi (cur.size + 1)))
   | o => o := by unfold World.freeze; rw [if_neg (by decide)]; rfl
 have hne : ∀ b, b ≠ g → (w.freeze ⟨g, cur.size, none⟩ 1).heap[b]? = w.heap[b]? := fun b hb => by
  rw [hh, Array.getElem?_modify, if_neg (fun h => hb h.symm)]
 have hcell : ∀ p, (w.freeze ⟨g, cur.size, none⟩ 1).cell? p = w.cell? p := fun p => by
  unfold World.cell?
  by_cases hb : p.block = g
  ·rw [hb, hh, Array.getElem?_modify, if_pos rfl, hgg]; rfl
  ·rw [hne _ hb]
 refine Z4s hd (w' := w.freeze ⟨g, cur.size, none⟩ 1) (by simp [execOp, hx, hr, Result.andThen]) (kk _ (H.set i hi ⟨by unfold World.freeze; rw [if_neg (by decide)], by unfold World.freeze; rw [if_neg (by decide)], by unfold World.freeze; rw [if_neg (by decide)], by rw [hh]; simp⟩ (fun b _ hb => hne b fun h => hb (by subst h; rfl)) ?_ (fun b hb => .inl ?_)))
 ·exact Z29 (hL.mono fun p x hx => by rw [hcell]; exact hx)
 ·obtain ⟨_, hb⟩ := hb
  exact hb
end
structure Z9 where
 r : Int
 cl : Int
 seq : Int
 h : Hash
 t : Int
 sb : Int
 sm : Int
structure Zg where
 cl : Int
 seq : Int
 h : Hash
 len : Int
 sb : Int
 sm : Int
def Z1T (s : Z9) : List Value := [i6 s.r, i6 s.cl, i6 s.seq] ++ hc s.h ++ [u6 s.t, i6 s.sb, i6 s.sm]
theorem Z3U (s : Z9) : (Z1T s).length = 38 := by simp [Z1T]
theorem Z7p (s : Z9) : (Z1T s).all (·.oneCell') = true := by
 simp only [Z1T, List.all_append, Z8p]
 simp [Value.oneCell', Z45]
def Zi : Z9 := ⟨0, 0, 0, ZC, 0, 0, 0⟩
def Zax (s : Zg) : List Value := [i6 s.cl, i6 s.seq] ++ hc s.h ++ [i6 s.len, i6 s.sb, i6 s.sm]
def Z4 (n : Int) : List UInt8 := Z1A (max 0 n).toNat
def Zj (s : List UInt8) : List UInt8 := Z1A s.length ++ s
def Z0l (a b : Int) : List UInt8 := [Z4 a, Z4 b].flatten
def Z28 (s : Z9) : List UInt8 := [Z4 s.r, Z0l s.cl s.seq, s.h.l, Z1A s.t.toNat].flatten
def Zx (s : Z9) : List UInt8 := [Zj zq2, Z28 s].flatten
def Zp (s : Zg) : List UInt8 := [Zj zq0, Z4 s.cl, Z4 s.seq, s.h.l, Z4 s.len].flatten
theorem Z2U (n : Nat) : (Z1A n).length ≤ 10 := Zbp 10 n
theorem Zv (n : Int) : (Z4 n).length ≤ 10 := Zbp 10 _
theorem Z32 (a b : Int) : (Z0l a b).length ≤ 20 := by
 have h1 := Zv a; have h2 := Zv b
 simp only [Z0l, List.flatten_cons, List.flatten_nil, List.length_append, List.length_nil]; omega
theorem Z4v (s : Z9) : (Z28 s).length ≤ 72 := by
 have h1 := Zv s.r; have h2 := Z32 s.cl s.seq; have h3 := s.h.len; have h4 := Z2U s.t.toNat
 simp only [Z28, List.flatten_cons, List.flatten_nil, List.length_append, List.length_nil]; omega
theorem Z0A (s : List UInt8) : (Zj s).length ≤ 10 + s.length := by
 have := Z2U s.length
 simp only [Zj, List.length_append]; omega
end Go.Proofs.YtenihpghfdcpkaaGreat
namespace Go.Proofs.YtenihpghfdcpkaaGreat
structure SW {α : Type} (lt : α → α → Bool) : Prop where
 asym : ∀ x y, lt x y = true → lt y x = false
 neg : ∀ x y w, lt x y = false → lt y w = false → lt x w = false
section
variable {α : Type} {lt : α → α → Bool} {A B C D : List α} {a b c d i j k m : Nat} {x y z : α}
theorem SW.irrefl (h : SW lt) (x : α) : lt x x = false := by
 cases e : lt x x
 ·rfl
 ·exact absurd (h.asym x x e) (by simp [e])
inductive SegP (a b : Nat) (A : List α) : List α → Prop
 | refl : SegP a b A A
 | swap {B : List α} {i j : Nat} {x y : α} : SegP a b A B → a ≤ i → i < b → a ≤ j → j < b → B[i]? = some x → B[j]? = some y → SegP a b A ((B.set i y).set j x)
theorem ZfV (h : A[i]? = some x) : i < A.length := (List.getElem?_eq_some_iff.1 h).1
theorem Z3D (hx : A[i]? = some x) (hy : A[j]? = some y) (k : Nat) : ((A.set i y).set j x)[k]? = if k = j then some x else if k = i then some y else A[k]? := by
 have h1 := ZfV hx
 have h2 := ZfV hy
 rw [List.getElem?_set, List.getElem?_set, List.length_set]
 by_cases e1 : j = k
 ·subst e1; simp [h2]
 ·rw [if_neg e1, if_neg (Ne.symm e1)]
  by_cases e2 : i = k
  ·subst e2; simp [h1]
  ·rw [if_neg e2, if_neg (Ne.symm e2)]
theorem SegP.len (h : SegP a b A B) : B.length = A.length := by
 induction h with
 | refl => rfl
 | swap _ _ _ _ _ _ _ ih => simpa using ih
theorem SegP.perm (h : SegP a b A B) : B.Perm A := by
 induction h with
 | refl => exact List.Perm.refl _
 | @swap B i j x y _ _ _ _ _ hx hy ih =>
  refine List.Perm.trans ?_ ih
  obtain ⟨h1, rfl⟩ := List.getElem?_eq_some_iff.1 hx
  obtain ⟨h2, rfl⟩ := List.getElem?_eq_some_iff.1 hy
  exact List.set_set_perm h1 h2
theorem SegP.out (h : SegP a b A B) (hk : k < a ∨ b ≤ k) : B[k]? = A[k]? := by
 induction h with
 | refl => rfl
 | @swap B i j x y _ h1 h2 h3 h4 hx hy ih => rw [Z3D hx hy, if_neg (by omega), if_neg (by omega), ih]
theorem SegP.mono (h : SegP a b A B) (ha : c ≤ a) (hb : b ≤ d) : SegP c d A B := by
 induction h with
 | refl => exact .refl
 | swap _ h1 h2 h3 h4 hx hy ih => exact ih.swap (by omega) (by omega) (by omega) (by omega) hx hy
theorem SegP.trans (h : SegP a b A B) (k : SegP a b B C) : SegP a b A C := by
 induction k with
 | refl => exact h
 | swap _ h1 h2 h3 h4 hx hy ih => exact ih.swap h1 h2 h3 h4 hx hy
theorem SegP.of_swap (h1 : a ≤ i) (h2 : i < b) (h3 : a ≤ j) (h4 : j < b) (hx : A[i]? = some x) (hy : A[j]? = some y) : SegP a b A ((A.set i y).set j x) := SegP.refl.swap h1 h2 h3 h4 hx hy
def Z8f (p : α → Prop) (c d : Nat) (A : List α) : Prop := ∀ k x, c ≤ k → k < d → A[k]? = some x → p x
theorem SegP.all {p : α → Prop} (h : SegP a b A B) (hc : c ≤ a) (hd : b ≤ d) (hA : Z8f p c d A) : Z8f p c d B := by
 induction h with
 | refl => exact hA
 | @swap B i j x y _ h1 h2 h3 h4 hx hy ih =>
  intro k u hk hk2 hu
  rw [Z3D hx hy] at hu
  split at hu
  ·cases hu; exact ih i x (by omega) (by omega) hx
  split at hu
  ·cases hu; exact ih j y (by omega) (by omega) hy
  ·exact ih k u hk hk2 hu
def Srt (lt : α → α → Bool) (a b : Nat) (A : List α) : Prop := ∀ i j x y, a ≤ i → i < j → j < b → A[i]? = some x → A[j]? = some y → lt y x = false
def Le2 (lt : α → α → Bool) (a b c d : Nat) (A : List α) : Prop := ∀ i j x y, a ≤ i → i < b → c ≤ j → j < d → A[i]? = some x → A[j]? = some y → lt y x = false
theorem Srt.short (h : b ≤ a + 1) : Srt lt a b A := fun i j _ _ h1 h2 h3 _ _ => by omega
theorem Srt.out (hs : Srt lt a b A) (h : SegP c d A B) (hcd : b ≤ c ∨ d ≤ a) : Srt lt a b B := by
 intro i j x y h1 h2 h3 hx hy
 rw [h.out (by omega)] at hx hy
 exact hs i j x y h1 h2 h3 hx hy
theorem Srt.join (h1 : Srt lt a m A) (h2 : Srt lt m b A) (h3 : Le2 lt a m m b A) : Srt lt a b A := by
 intro i j x y ha hij hb hx hy
 by_cases e1 : j < m
 ·exact h1 i j x y ha hij e1 hx hy
 ·by_cases e2 : i < m
  ·exact h3 i j x y ha e2 (by omega) hb hx hy
  ·exact h2 i j x y (by omega) hij hb hx hy
theorem Le2.left (hl : Le2 lt a b c d A) (h : SegP i j A B) (h1 : a ≤ i) (h2 : j ≤ b) (h3 : b ≤ c) : Le2 lt a b c d B := by
 intro p q x y hp1 hp2 hq1 hq2 hx hy
 rw [h.out (by omega)] at hy
 exact h.all (p := fun x => lt y x = false) h1 h2 (fun k u hk hk2 hu => hl k q u y hk hk2 hq1 hq2 hu hy) p x hp1 hp2 hx
theorem Le2.right (hl : Le2 lt a b c d A) (h : SegP i j A B) (h1 : c ≤ i) (h2 : j ≤ d) (h3 : b ≤ c) : Le2 lt a b c d B := by
 intro p q x y hp1 hp2 hq1 hq2 hx hy
 rw [h.out (by omega)] at hx
 exact h.all (p := fun y => lt y x = false) h1 h2 (fun k u hk hk2 hu => hl p k x u hp1 hp2 hk hk2 hx hu) q y hq1 hq2 hy
theorem Le2.sub (hl : Le2 lt a b c d A) {a' b' c' d' : Nat} (h1 : a ≤ a') (h2 : b' ≤ b) (h3 : c ≤ c') (h4 : d' ≤ d) : Le2 lt a' b' c' d' A :=
 fun p q x y hp1 hp2 hq1 hq2 hx hy => hl p q x y (by omega) (by omega) (by omega) (by omega) hx hy
theorem Srt.sub (h : Srt lt a b A) {a' b' : Nat} (h1 : a ≤ a') (h2 : b' ≤ b) : Srt lt a' b' A := fun i j x y h3 h4 h5 hx hy => h i j x y (by omega) h4 (by omega) hx hy
structure Ins (lt : α → α → Bool) (a i j : Nat) (B : List α) : Prop where
 lo : Srt lt a j B
 hi : Srt lt j (i + 1) B
 cr : Le2 lt a j (j + 1) (i + 1) B
theorem Ins.start (h : Srt lt a i B) : Ins lt a i i B := ⟨h, Srt.short (by omega), fun p q _ _ _ _ h3 h4 _ _ => by omega⟩
theorem Ins.step (hw : SW lt) (h : Ins lt a i j B) (ha : a < j) (_hj : j ≤ i) (hx : B[j]? = some x) (hy : B[j - 1]? = some y) (hl : lt x y = true) : Ins lt a i (j - 1) ((B.set j y).set (j - 1) x) := by
 have g := Z3D hx hy
 refine ⟨?_, ?_, ?_⟩
 ·intro p q u v h1 h2 h3 hu hv
  rw [g, if_neg (by omega), if_neg (by omega)] at hu hv
  exact h.lo p q u v h1 h2 (by omega) hu hv
 ·intro p q u v h1 h2 h3 hu hv
  rw [g] at hu hv
  by_cases e1 : p = j - 1
  ·rw [if_pos e1] at hu; cases hu
   rw [if_neg (by omega)] at hv
   by_cases e2 : q = j
   ·rw [if_pos e2] at hv; cases hv; exact hw.asym _ _ hl
   ·rw [if_neg e2] at hv
    exact h.hi j q x v (by omega) (by omega) (by omega) hx hv
  ·rw [if_neg e1] at hu
   rw [if_neg (by omega)] at hv
   rw [if_neg (by omega)] at hv
   by_cases e2 : p = j
   ·rw [if_pos e2] at hu; cases hu
    exact h.cr (j - 1) q y v (by omega) (by omega) (by omega) (by omega) hy hv
   ·rw [if_neg e2] at hu
    exact h.hi p q u v (by omega) h2 h3 hu hv
 ·intro p q u v h1 h2 h3 h4 hu hv
  rw [g, if_neg (by omega), if_neg (by omega)] at hu
  rw [g, if_neg (by omega)] at hv
  by_cases e : q = j
  ·rw [if_pos e] at hv; cases hv
   exact h.lo p (j - 1) u y h1 (by omega) (by omega) hu hy
  ·rw [if_neg e] at hv
   exact h.cr p q u v h1 (by omega) (by omega) h4 hu hv
theorem Ins.low (h : Ins lt a i a B) : Srt lt a (i + 1) B := h.hi
theorem Ins.stop (hw : SW lt) (h : Ins lt a i j B) (ha : a < j) (hj : j ≤ i) (hx : B[j]? = some x) (hy : B[j - 1]? = some y) (hl : lt x y = false) : Srt lt a (i + 1) B := by
 refine h.lo.join h.hi ?_
 intro p q u v h1 h2 h3 h4 hu hv
 by_cases e : q = j
 ·subst e; rw [hx] at hv; cases hv
  by_cases e2 : p = q - 1
  ·subst e2; rw [hy] at hu; cases hu; exact hl
  ·exact hw.neg _ _ _ hl (h.lo p (q - 1) u y h1 (by omega) (by omega) hu hy)
 ·exact h.cr p q u v h1 h2 (by omega) h4 hu hv
def Kid (r c : Nat) : Prop := c = 2 * r + 1 ∨ c = 2 * r + 2
def Heap (lt : α → α → Bool) (f lo hi : Nat) (B : List α) : Prop := ∀ r c x y, lo ≤ r → Kid r c → c < hi → B[f + r]? = some x → B[f + c]? = some y → lt x y = false
structure Sift (lt : α → α → Bool) (f lo hi root : Nat) (B : List α) : Prop where
 oth : ∀ r c x y, lo ≤ r → r ≠ root → Kid r c → c < hi → B[f + r]? = some x → B[f + c]? = some y → lt x y = false
 up : ∀ r c x y, lo ≤ r → Kid r root → Kid root c → c < hi → B[f + r]? = some x → B[f + c]? = some y → lt x y = false
theorem Sift.start {f lo hi : Nat} (h : Heap lt f (lo + 1) hi B) : Sift lt f lo hi lo B :=
 ⟨fun r c x y h1 h2 h3 h4 hx hy => h r c x y (by omega) h3 h4 hx hy, fun r c x y h1 h2 _ _ _ _ => by unfold Kid at h2; omega⟩
theorem Sift.step (hw : SW lt) {f lo hi root ch : Nat} (h : Sift lt f lo hi root B) (hlo : lo ≤ root) (hk : Kid root ch) (hc : ch < hi) (hx : B[f + root]? = some x) (hy : B[f + ch]? = some y) (hl : lt x y = true)
  (hmax : ∀ c z, Kid root c → c < hi → B[f + c]? = some z → lt y z = false) : Sift lt f lo hi ch ((B.set (f + root) y).set (f + ch) x) := by
 have g := Z3D hx hy
 unfold Kid at hk
 refine ⟨?_, ?_⟩
 ·intro r c u v h1 h2 h3 h4 hu hv
  rw [g] at hu hv
  rw [if_neg (by omega)] at hu
  by_cases e : r = root
  ·subst e
   rw [if_pos rfl] at hu; cases hu
   by_cases e2 : c = ch
   ·subst e2; rw [if_pos rfl] at hv; cases hv; exact hw.asym _ _ hl
   ·unfold Kid at h3
    rw [if_neg (by omega), if_neg (by omega)] at hv
    exact hmax c v (by unfold Kid; omega) h4 hv
  ·rw [if_neg (by omega)] at hu
   unfold Kid at h3
   rw [if_neg (by omega)] at hv
   by_cases e2 : c = root
   ·subst e2
    rw [if_pos rfl] at hv; cases hv
    exact h.up r ch u y h1 (by unfold Kid; omega) (by unfold Kid; omega) hc hu hy
   ·rw [if_neg (by omega)] at hv
    exact h.oth r c u v h1 e (by unfold Kid; omega) h4 hu hv
 ·intro r c u v h1 h2 h3 h4 hu hv
  unfold Kid at h2 h3
  obtain rfl : r = root := by omega
  rw [g] at hu hv
  rw [if_neg (by omega), if_pos rfl] at hu; cases hu
  rw [if_neg (by omega), if_neg (by omega)] at hv
  exact h.oth ch c y v (by omega) (by omega) (by unfold Kid; omega) h4 hy hv
theorem Sift.stop (hw : SW lt) {f lo hi root ch : Nat} (h : Sift lt f lo hi root B) (hx : B[f + root]? = some x) (hl : lt x y = false) (_hy : B[f + ch]? = some y)
  (hmax : ∀ c z, Kid root c → c < hi → B[f + c]? = some z → lt y z = false) : Heap lt f lo hi B := by
 intro r c u v h1 h2 h3 hu hv
 by_cases e : r = root
 ·subst e
  rw [hx] at hu; cases hu
  exact hw.neg _ _ _ hl (hmax c v h2 h3 hv)
 ·exact h.oth r c u v h1 e h2 h3 hu hv
theorem Heap.max (hw : SW lt) {f hi : Nat} (h : Heap lt f 0 hi B) (hb : f + hi ≤ B.length) (hx : B[f]? = some x) : ∀ k y, k < hi → B[f + k]? = some y → lt x y = false := by
 intro k
 induction k using Nat.strongRecOn with
 | _ k ih =>
  intro y hk hy
  by_cases e : k = 0
  ·subst e; rw [Nat.add_zero, hx] at hy; cases hy; exact hw.irrefl _
  ·have hp : f + (k - 1) / 2 < B.length := by omega
   have h1 := ih ((k - 1) / 2) (by omega) _ (by omega) (List.getElem?_eq_getElem hp)
   exact hw.neg _ _ _ h1 (h ((k - 1) / 2) k _ y (Nat.zero_le _) (by unfold Kid; omega) hk (List.getElem?_eq_getElem hp) hy)
structure Pop (lt : α → α → Bool) (f i hi : Nat) (B : List α) : Prop where
 heap : Heap lt f 0 i B
 srt : Srt lt (f + i) (f + hi) B
 le : Le2 lt f (f + i) (f + i) (f + hi) B
theorem Pop.start {f hi : Nat} (h : Heap lt f 0 hi B) : Pop lt f hi hi B := ⟨h, Srt.short (by omega), fun p q _ _ _ _ h3 h4 _ _ => by omega⟩
theorem Pop.swap (hw : SW lt) {f hi : Nat} (h : Pop lt f (i + 1) hi B) (hi' : i < hi) (hb : f + hi ≤ B.length) (hx : B[f]? = some x) (hy : B[f + i]? = some y) :
  Heap lt f 1 i ((B.set f y).set (f + i) x) ∧ Srt lt (f + i) (f + hi) ((B.set f y).set (f + i) x) ∧ Le2 lt f (f + i) (f + i) (f + hi) ((B.set f y).set (f + i) x) := by
 have g := Z3D hx hy
 have hm := h.heap.max hw (by omega) hx
 have hS : SegP f (f + i + 1) B ((B.set f y).set (f + i) x) := SegP.of_swap (by omega) (by omega) (by omega) (by omega) hx hy
 have hle : Le2 lt f (f + (i + 1)) (f + (i + 1)) (f + hi) ((B.set f y).set (f + i) x) := h.le.left hS (Nat.le_refl _) (by omega) (Nat.le_refl _)
 refine ⟨?_, ?_, ?_⟩
 ·intro r c u v h1 h2 h3 hu hv
  unfold Kid at h2
  rw [g, if_neg (by omega), if_neg (by omega)] at hu hv
  exact h.heap r c u v (by omega) (by unfold Kid; omega) (by omega) hu hv
 ·refine Srt.join (m := f + (i + 1)) (Srt.short (by omega)) (h.srt.out hS (.inr (by omega))) (hle.sub (by omega) (Nat.le_refl _) (Nat.le_refl _) (Nat.le_refl _))
 ·intro p q u v h1 h2 h3 h4 hu hv
  by_cases e : q = f + i
  ·subst e
   rw [g, if_pos rfl] at hv; cases hv
   rw [g, if_neg (by omega)] at hu
   by_cases e2 : p = f
   ·rw [if_pos e2] at hu; cases hu
    exact hm i y (by omega) hy
   ·rw [if_neg e2] at hu
    obtain ⟨k, rfl⟩ : ∃ k, p = f + k := ⟨p - f, by omega⟩
    exact hm k u (by omega) hu
  ·exact hle p q u v h1 (by omega) (by omega) h4 hu hv
structure Cut3 (lt : α → α → Bool) (a m b : Nat) (B : List α) : Prop where
 lo : ∀ k x y, a ≤ k → k < m → B[k]? = some x → B[m]? = some y → lt y x = false
 hi : ∀ k x y, m < k → k < b → B[k]? = some x → B[m]? = some y → lt x y = false
structure Part (lt : α → α → Bool) (a i j b : Nat) (pv : α) (B : List α) : Prop where
 at_ : B[a]? = some pv
 lo : Z8f (fun x => lt x pv = true) (a + 1) i B
 hi : Z8f (fun x => lt x pv = false) (j + 1) b B
theorem Part.start (h : B[a]? = some x) (_hb : a < b) : Part lt a (a + 1) (b - 1) b x B := ⟨h, fun k _ h1 h2 _ => by omega, fun k _ h1 h2 _ => by omega⟩
theorem Part.swap {pv : α} (h : Part lt a i j b pv B) (ha : a < i) (hij : i < j) (hx : B[i]? = some x) (hy : B[j]? = some y) (h1 : lt x pv = false) (h2 : lt y pv = true) : Part lt a (i + 1) (j - 1) b pv ((B.set i y).set j x) := by
 have g := Z3D hx hy
 refine ⟨by rw [g, if_neg (by omega), if_neg (by omega)]; exact h.at_, ?_, ?_⟩
 ·intro k u h3 h4 hu
  rw [g, if_neg (by omega)] at hu
  split at hu
  ·cases hu; exact h2
  ·exact h.lo k u h3 (by omega) hu
 ·intro k u h3 h4 hu
  rw [g] at hu
  split at hu
  ·cases hu; exact h1
  ·rw [if_neg (by omega)] at hu
   exact h.hi k u (by omega) h4 hu
theorem Part.done (hw : SW lt) {pv : α} (h : Part lt a i j b pv B) (ha : a ≤ j) (hij : j < i) (hij2 : i ≤ j + 1) (hy : B[j]? = some y) (h2 : j ≠ a → lt y pv = true) : Cut3 lt a j b ((B.set j pv).set a y) := by
 have g := Z3D hy h.at_
 have hm : ((B.set j pv).set a y)[j]? = some pv := by
  rw [g]
  split
  ·rename_i e; subst e; rw [h.at_] at hy; exact hy.symm
  ·rw [if_pos rfl]
 refine ⟨?_, ?_⟩
 ·intro k u v h3 h4 hu hv
  rw [hm] at hv; cases hv
  rw [g] at hu
  split at hu
  ·cases hu; exact hw.asym _ _ (h2 (by omega))
  ·rw [if_neg (by omega)] at hu
   exact hw.asym _ _ (h.lo k u (by omega) (by omega) hu)
 ·intro k u v h3 h4 hu hv
  rw [hm] at hv; cases hv
  rw [g, if_neg (by omega), if_neg (by omega)] at hu
  exact h.hi k u (by omega) h4 hu
structure PartE (lt : α → α → Bool) (a i j b : Nat) (pv : α) (B : List α) : Prop where
 at_ : B[a]? = some pv
 lo : Z8f (fun x => lt pv x = false) a i B
 hi : Z8f (fun x => lt pv x = true) (j + 1) b B
theorem PartE.start (hw : SW lt) (h : B[a]? = some x) (hb : a < b) : PartE lt a (a + 1) (b - 1) b x B :=
  ⟨h, fun k u h1 h2 hu => by obtain rfl : k = a := by omega
                             rw [h] at hu; cases hu; exact hw.irrefl _, fun k _ h1 h2 _ => by omega⟩
theorem PartE.swap {pv : α} (h : PartE lt a i j b pv B) (ha : a < i) (hij : i < j) (hx : B[i]? = some x) (hy : B[j]? = some y) (h1 : lt pv x = true) (h2 : lt pv y = false) : PartE lt a (i + 1) (j - 1) b pv ((B.set i y).set j x) := by
 have g := Z3D hx hy
 refine ⟨by rw [g, if_neg (by omega), if_neg (by omega)]; exact h.at_, ?_, ?_⟩
 ·intro k u h3 h4 hu
  rw [g, if_neg (by omega)] at hu
  split at hu
  ·cases hu; exact h2
  ·exact h.lo k u h3 (by omega) hu
 ·intro k u h3 h4 hu
  rw [g] at hu
  split at hu
  ·cases hu; exact h1
  ·rw [if_neg (by omega)] at hu
   exact h.hi k u (by omega) h4 hu
structure Pdq (lt : α → α → Bool) (a0 b0 a b : Nat) (A B : List α) : Prop where
 seg : SegP a0 b0 A B
 ab : a0 ≤ a ∧ a ≤ b ∧ b ≤ b0
 lo : Srt lt a0 a B
 l2 : Le2 lt a0 a a b0 B
 hi : Srt lt b b0 B
 h2 : Le2 lt a0 b b b0 B
def Low (lt : α → α → Bool) (a b : Nat) (A : List α) : Prop := a = 0 ∨ Le2 lt (a - 1) a a b A
theorem Low.seg (h : Low lt a b A) (hS : SegP a b A B) : Low lt a b B := h.elim .inl fun h => .inr (h.right hS (Nat.le_refl _) (Nat.le_refl _) (Nat.le_refl _))
theorem Low.sub (h : Low lt a b A) (hb : d ≤ b) : Low lt a d A := h.elim .inl fun h => .inr (h.sub (Nat.le_refl _) (Nat.le_refl _) (Nat.le_refl _) hb)
theorem Pdq.start (h : a ≤ b) : Pdq lt a b a b A A := ⟨.refl, by omega, Srt.short (by omega), fun p q _ _ h1 h2 _ _ _ _ => by omega, Srt.short (by omega), fun p q _ _ _ _ h1 h2 _ _ => by omega⟩
theorem Pdq.low {a0 b0 : Nat} (h : Pdq lt a0 b0 a b A B) (hl : Low lt a0 b0 A) : Low lt a b B := by
 have hab := h.ab
 by_cases e : a = a0
 ·subst e
  rcases hl.seg h.seg with h1 | h1
  ·exact .inl h1
  ·exact .inr (h1.sub (Nat.le_refl _) (Nat.le_refl _) (Nat.le_refl _) (by omega))
 ·exact .inr (h.l2.sub (by omega) (Nat.le_refl _) (Nat.le_refl _) (by omega))
theorem Pdq.done {a0 b0 : Nat} (h : Pdq lt a0 b0 a b A B) (hs : Srt lt a b B) : Srt lt a0 b0 B := by
 have hab := h.ab
 refine (h.lo.join (hs.join h.hi ?_) ?_)
 ·exact h.h2.sub (by omega) (Nat.le_refl _) (Nat.le_refl _) (Nat.le_refl _)
 ·exact h.l2.sub (Nat.le_refl _) (Nat.le_refl _) (Nat.le_refl _) (Nat.le_refl _)
theorem Pdq.equal (hw : SW lt) {a0 b0 : Nat} {pv : α} (h : Pdq lt a0 b0 a b A B) (ha : a < m) (hm : m ≤ b) (h1 : Z8f (fun x => lt pv x = false) a m B) (h2 : Z8f (fun x => lt pv x = true) m b B) (h3 : Z8f (fun x => lt x pv = false) a b B) : Pdq lt a0 b0 m b A B := by
 have hab := h.ab
 have hs : Srt lt a m B := fun p q x y e1 e2 e3 hx hy => hw.neg _ _ _ (h3 q y (by omega) (by omega) hy) (h1 p x e1 (by omega) hx)
 refine ⟨h.seg, by omega, ?_, ?_, h.hi, h.h2⟩
 ·exact h.lo.join hs (h.l2.sub (Nat.le_refl _) (Nat.le_refl _) (Nat.le_refl _) (by omega))
 ·intro p q x y e1 e2 e3 e4 hx hy
  by_cases e5 : p < a
  ·exact h.l2 p q x y e1 e5 (by omega) e4 hx hy
  ·by_cases e6 : q < b
   ·exact hw.neg _ _ _ (hw.asym _ _ (h2 q y e3 e6 hy)) (h1 p x (by omega) (by omega) hx)
   ·exact h.h2 p q x y (by omega) (by omega) (by omega) e4 hx hy
theorem Cut3.right (h : Cut3 lt a m b B) (hS : SegP (m + 1) b B C) : Cut3 lt a m b C :=
  ⟨fun k x y h1 h2 hx hy => by
    rw [hS.out (.inl (by omega))] at hx
    rw [hS.out (.inl (by omega))] at hy
    exact h.lo k x y h1 h2 hx hy,
   fun k x y h1 h2 hx hy => by
    rw [hS.out (.inl (by omega))] at hy
    exact hS.all (p := fun x => lt x y = false) (Nat.le_refl _) (Nat.le_refl _) (fun k u h3 h4 hu => h.hi k u y (by omega) h4 hu hy) k x (by omega) h2 hx⟩
theorem Cut3.low (h : Cut3 lt a m b B) : Low lt (m + 1) b B := .inr fun p q x y h1 h2 h3 h4 hx hy => by
 obtain rfl : p = m := by omega
 exact h.hi q y x (by omega) h4 hy hx
end
end Go.Proofs.YtenihpghfdcpkaaGreat
