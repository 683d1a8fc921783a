/- WHAT IS PROVED: contracts and plain laws of TxtD, EntD, MinMax, Wr10. Conditions: stated with each. -/
import Derived.Laws.IdiomStrings
import Derived.Lib.MinMax
import Derived.Test.YtgigjkjdmalmaaaGreatPC03
import Derived.Test.YtgigjkjdmalmaaaGreatPC04
import Derived.Test.YtgigjkjdmalmaaaGreatPC05
set_option maxHeartbeats 4000000
set_option maxRecDepth 100000
namespace Go.Proofs.YtgigjkjdmalmaaaGreat
open Go.RowKit
def Z8d (v : Value) : List Value := [v]
theorem Z2W (v : Value) : (Z8d v).length = 1 := rfl
section
variable {w w' w0 : World} {v : Value} {s : List UInt8} {vs : List Value} {ss : List (List UInt8)} {G : List Ck}
structure Parts (w : World) (vs : List Value) (ss : List (List UInt8)) : Prop where
 len : vs.length = ss.length
 get : ∀ i, i < vs.length → ListAt Zo 1 w (vs.getD i undef) (ss.getD i [])
theorem Parts.nil : Parts w [] [] := ⟨rfl, fun i h => by simp at h⟩
theorem Parts.cons (h : ListAt Zo 1 w v s) (t : Parts w vs ss) : Parts w (v :: vs) (s :: ss) := ⟨by simp [t.len], fun i hi => by
 cases i with
 | zero => exact h
 | succ i => exact t.get i (by simpa using hi)⟩
theorem Z4r (ss : List (List UInt8)) {i : Nat} (h : i < ss.length) : (ss.take (i + 1)).flatten = (ss.take i).flatten ++ ss.getD i [] := by
 rw [List.take_add_one, List.getElem?_eq_getElem h, List.flatten_append, List.getD_eq_getElem?_getD, List.getElem?_eq_getElem h]
 simp
theorem Z6h (ss : List (List UInt8)) {i : Nat} (h : i < ss.length) : (ss.take i).flatten.length + (ss.getD i []).length ≤ ss.flatten.length := by
 have h1 := congrArg List.length (Z4r ss h)
 have h2 : ss.flatten = (ss.take (i + 1)).flatten ++ (ss.drop (i + 1)).flatten := by rw [← List.flatten_append, List.take_append_drop]
 rw [List.length_append] at h1
 rw [h2, List.length_append]; omega
def ZN (v : Value) (s : List UInt8) : Ck where
 fp b := 0 < s.length ∧ v.ownBlock = some b
 ok w := BytesAt w v s
 stay {w w'} h hb := by
  rcases h with h | ⟨h0, b, off, cap, rfl, hn, h⟩
  ·exact .inl h
  ·refine .inr ⟨h0, b, off, cap, rfl, hn, fun i hi => ?_⟩
   have := h i hi
   unfold Z3y World.cell? at this ⊢
   rw [hb b ⟨h0, rfl⟩]; exact this
 lt {w} h b hb := by
  obtain ⟨h0, hb⟩ := hb
  obtain ⟨b', off, cap, rfl, _, h⟩ := SliceOf.some h h0
  have := h 0 h0
  simp only [Value.ownBlock, Option.some.injEq] at hb
  subst hb
  unfold Z3y World.cell? at this
  by_cases hl : b' < w.heap.size
  ·exact hl
  ·rw [Array.getElem?_eq_none (show w.heap.size ≤ b' by omega)] at this; simp at this
theorem ListAt.ofTxt (h : (ZN v s).ok w) : ListAt Zo 1 w v s := Z3B h
theorem ListAt.ofHash {x : Z1H} {b o c : Nat} (h : Z1L w ⟨b, o, none⟩ (hc x)) (hc' : 32 ≤ c ∧ c ≤ maxLen) : ListAt Zo 1 w (.slice (some ⟨b, o, none⟩) 32 c) x.l := by
 refine Z3B (.inr ⟨by rw [x.len]; decide, b, o, c, by rw [x.len], by rw [x.len]; exact hc', fun i hi => ?_⟩)
 have := h i (Z27 x.l[i]) (by rw [Z4u, List.getElem?_map, List.getElem?_eq_getElem hi]; rfl)
 rw [Addr.add_lit] at this
 unfold Z3y; rw [Nat.mul_one]; exact this
theorem Z33 {w : World} {b T o : Nat} {cs us : List Value} (h : (Z3 b T cs).ok w) (hu : (cs.drop o).take us.length = us) : Z1L w ⟨b, o, none⟩ us := by
 intro j v hj
 rw [Addr.add_lit, Z0H h]
 rw [← hu, List.getElem?_take] at hj
 split at hj
 ·rw [List.getElem?_drop] at hj; simpa using hj
 ·cases hj
theorem Sat.offP {A : Ck} {B : List Ck} (H : Sat w0 G w) (is : List Nat) (t : Nat) (hB : (is.filterMap fun i => G[i]?) = B) (ht : G[t]? = some A) (hne : is.all (fun i => !Nat.beq t i) = true) {b : Nat} (hb : A.fp b) : ¬ (ZP B).fp b := by
 rintro ⟨C, hC, hfp⟩
 rw [← hB] at hC
 obtain ⟨i, him, hiC⟩ := List.mem_filterMap.1 hC
 have := List.all_eq_true.1 hne i him
 exact H.apart t i ht hiC (by simpa using this) b hb hfp
theorem Z2a {B : List Ck} {n c : Nat} {a : Option Addr} (h : ∀ b, (ZN (.slice a n c) s).fp b → ¬ (ZP B).fp b) : 0 < s.length → ∀ ad, a = some ad → ¬ (ZP B).fp ad.block := fun h0 ad ha => h _ ⟨h0, by subst ha; rfl⟩
end
section
variable {P : Program} {n : Nat} {f : Nat → Value} {w w0 : World} {dst : Option Tmp} {ty : TypeId} {pos : String} {aft : Array Edge} {gd : Option (Nat × Bool)} {K : Act → World → Prop} {Q : Exit → Act → World → Prop} {G : List Ck}
theorem Z6a {S D e : TypeId} {x : Operand} {d : Nat} {s : List UInt8} (hd : dst = some d) (H : Sat w0 G w) (hs : P.underlying S = some .string) (hD : P.underlying D = some (.slice e)) (he : P.underlying e = some (.int .u8)) (hx : ev n f x = ZX s) (hl : s.length ≤ 1000000) (h0 : 0 < s.length)
  (kk : ∀ b c w', Sat w0 (G ++ [ZN (.slice (some ⟨b, 0, none⟩) s.length c) s]) w' → K (fr n (upd f d (.slice (some ⟨b, 0, none⟩) s.length c))) w') : WO P ⟨dst, .convert S D x, ty, pos, aft, gd⟩ K Q n f w := by
 have hsz : (⟨s.toArray⟩ : ByteArray).size = s.length := by simp [ByteArray.size]
 have hr := run_bytes_of_string (P := P) w S D e ⟨s.toArray⟩ hs hD he
 rw [hsz] at hr
 obtain ⟨C, hC⟩ : ∃ C, C = Obj.cells (bytesRow ⟨s.toArray⟩ (grownCap w s.length 0 e)) e ((bytesRow ⟨s.toArray⟩ (grownCap w s.length 0 e)).size, (bytesRow ⟨s.toArray⟩ (grownCap w s.length 0 e)).size + 1) := ⟨_, rfl⟩
 obtain ⟨w1, hw⟩ : ∃ w1 : World, w1 = w.drew.alloc C := ⟨_, rfl⟩
 rw [← hC, ← hw] at hr
 have hh : w1.heap = w.heap.push C := by rw [hw]; rfl
 refine Z36 hd (v := .slice (some ⟨w.heap.size, 0, none⟩) s.length (grownCap w s.length 0 e)) (w' := w1) (by simp [execOp, hx, ZX, hr, Result.andThen]) (kk _ _ _ (H.add ⟨by rw [hw]; rfl, by rw [hw]; rfl, by rw [hw]; rfl, by rw [hh]; simp⟩ (fun b hb => by rw [hh, Array.getElem?_push]; simp; omega) ?_ (fun b hb => ?_)))
 ·refine .inr ⟨h0, _, 0, _, rfl, ⟨grownCap_ge _ _ _ _, grownCap_le_maxLen _ _ _ _ (by unfold maxLen; omega)⟩, fun i hi => ?_⟩
  unfold Z3y World.cell?
  simp only [hh, Array.getElem?_push, if_true, Nat.zero_add, Nat.mul_one, hC]
  simp [bytesRow, Array.getElem?_append, hi, Z27]
 ·simp only [ZN, Value.ownBlock, Option.some.injEq] at hb; omega
theorem Z0E {S e : TypeId} {x : Operand} {d : Nat} {s : List UInt8} {g c : Nat} (hd : dst = some d) (H : Sat w0 G w) (i : Nat) (hi : G[i]? = some (Ze e 1 (.slice (some ⟨g, 0, none⟩) s.length c) s.length (s.flatMap Zo))) (hS : P.underlying S = some (.slice e)) (he : P.underlying e = some (.int .u8)) (hx : ev n f x = .slice (some ⟨g, 0, none⟩) s.length c)
  (kk : ∀ w', Sat w0 (G.set i (ZN (.slice (some ⟨g, 0, none⟩) s.length c) s)) w' → K (fr n (upd f d (.slice (some ⟨g, 0, none⟩) s.length c))) w') : WO P ⟨dst, .convert S S x, ty, pos, aft, gd⟩ K Q n f w := by
 have hok := H.at i hi
 have hL := ListAt.row (enc := Zo) (sz := 1) (xs := s) ZV (by decide) hok
 rcases hok.2 with ⟨hv, _⟩ | ⟨g', cap, cur, hv, _, hgg, hcap, hm, hcs, htake⟩
 ·simp at hv
 simp only [Value.slice.injEq, Option.some.injEq, Addr.mk.injEq] at hv
 obtain ⟨⟨rfl, _⟩, _, rfl⟩ := hv
 have hsh : w.shape? g = some (e, cur.size) := by unfold World.shape?; rw [hgg]
 have hlt := Z1B hgg
 have hr : (convert S S (.slice (some ⟨g, 0, none⟩) s.length c)).run P w = .ok (.slice (some ⟨g, 0, none⟩) s.length c) (w.freeze ⟨g, cur.size, none⟩ 1) := by
  simp [convert, run_underlying hS, run_underlying he, markStringish, hsh]
 have hh : (w.freeze ⟨g, cur.size, none⟩ 1).heap = w.heap.modify g fun
   | .cells c elem (lo, hi) => .cells c elem (if lo == hi then (cur.size, cur.size + 1) else (min lo cur.size, max hi (cur.size + 1)))
   | o => o := by unfold World.freeze; rw [if_neg (by decide)]; rfl
 have hne : ∀ b, b ≠ g → (w.freeze ⟨g, cur.size, none⟩ 1).heap[b]? = w.heap[b]? := fun b hb => by
  rw [hh, Array.getElem?_modify, if_neg (fun h => hb h.symm)]
 have hcell : ∀ p, (w.freeze ⟨g, cur.size, none⟩ 1).cell? p = w.cell? p := fun p => by
  unfold World.cell?
  by_cases hb : p.block = g
  ·rw [hb, hh, Array.getElem?_modify, if_pos rfl, hgg]; rfl
  ·rw [hne _ hb]
 refine Z36 hd (w' := w.freeze ⟨g, cur.size, none⟩ 1) (by simp [execOp, hx, hr, Result.andThen]) (kk _ (H.set i hi ⟨by unfold World.freeze; rw [if_neg (by decide)], by unfold World.freeze; rw [if_neg (by decide)], by unfold World.freeze; rw [if_neg (by decide)], by rw [hh]; simp⟩ (fun b _ hb => hne b fun h => hb (by subst h; rfl)) ?_ (fun b hb => .inl ?_)))
 ·exact Z1y (hL.mono fun p x hx => by rw [hcell]; exact hx)
 ·obtain ⟨_, hb⟩ := hb
  exact hb
end
structure Zl where
 r : Int
 cl : Int
 seq : Int
 h : Z1H
 t : Int
 sb : Int
 sm : Int
structure Z0 where
 cl : Int
 seq : Int
 h : Z1H
 len : Int
 sb : Int
 sm : Int
def ZT (s : Zl) : List Value := [.int .i64 s.r, .int .i64 s.cl, .int .i64 s.seq] ++ hc s.h ++ [.int .u64 s.t, .int .i64 s.sb, .int .i64 s.sm]
theorem Z0Q (s : Zl) : (ZT s).length = 38 := by simp [ZT]
theorem Z2i (s : Zl) : (ZT s).all (·.oneCell') = true := by
 simp only [ZT, List.all_append, Z4u]
 simp [Value.oneCell', Z27]
def Zf : Zl := ⟨0, 0, 0, Zb, 0, 0, 0⟩
def Z1I (s : Z0) : List Value := [.int .i64 s.cl, .int .i64 s.seq] ++ hc s.h ++ [.int .i64 s.len, .int .i64 s.sb, .int .i64 s.sm]
def Zj (n : Int) : List UInt8 := Z0S (max 0 n).toNat
def Zu (s : List UInt8) : List UInt8 := Z0S s.length ++ s
def Z0k (a b : Int) : List UInt8 := [Zj a, Zj b].flatten
def Z0U (s : Zl) : List UInt8 := [Zj s.r, Z0k s.cl s.seq, s.h.l, Z0S s.t.toNat].flatten
def Z08 (s : Zl) : List UInt8 := [Zu [115, 116, 97, 109, 112], Z0U s].flatten
def Z1 (s : Z0) : List UInt8 := [Zu [114, 101, 113, 117, 101, 115, 116], Zj s.cl, Zj s.seq, s.h.l, Zj s.len].flatten
theorem Z2Y (n : Nat) : (Z0S n).length ≤ 10 := Z5w 10 n
theorem Z04 (n : Int) : (Zj n).length ≤ 10 := Z5w 10 _
theorem Z3d (a b : Int) : (Z0k a b).length ≤ 20 := by
 have h1 := Z04 a; have h2 := Z04 b
 simp only [Z0k, List.flatten_cons, List.flatten_nil, List.length_append, List.length_nil]; omega
theorem Z63 (s : Zl) : (Z0U s).length ≤ 72 := by
 have h1 := Z04 s.r; have h2 := Z3d s.cl s.seq; have h3 := s.h.len; have h4 := Z2Y s.t.toNat
 simp only [Z0U, List.flatten_cons, List.flatten_nil, List.length_append, List.length_nil]; omega
theorem Z0D (s : List UInt8) : (Zu s).length ≤ 10 + s.length := by
 have := Z2Y s.length
 simp only [Zu, List.length_append]; omega
structure CeR where
 x : Z0
 sa : Option Addr
 sc : Nat
 S : List Zl
def Z79 (c : CeR) : List Value := Z1I c.x ++ [.slice c.sa c.S.length c.sc]
theorem Z6f (c : CeR) : (Z79 c).length = 38 := by simp [Z79, Z1I, Z4v]
structure PrR where
 r : Int
 e : Int
 f : Int
 ca : Option Addr
 cc : Nat
 sb : Int
 sm : Int
 C : List CeR
def CeOk (w : World) (c : CeR) : Prop := ListAt ZT 38 w (.slice c.sa c.S.length c.sc) c.S
def PrOk (w : World) (p : PrR) : Prop := ListAt Z79 38 w (.slice p.ca p.C.length p.cc) p.C ∧ ∀ c ∈ p.C, CeOk w c
section
variable {P : Program} {n : Nat} {f : Nat → Value} {w : World} {dst : Option Tmp} {ty : TypeId} {pos : String} {aft : Array Edge} {gd : Option (Nat × Bool)}
theorem Z7C {T : Array TypeId} {x y : Operand} {k : IntKind} {a b z : Int} (hx : ev n f x = .int k a) (hy : ev n f y = .int k b) (hz : max a b = z) :
  (execOp (ev n f) ⟨dst, .call { callee := .builtin .max, args := #[x, y], argTypes := T }, ty, pos, aft, gd⟩).run P w = .ok (.value (.int k z)) w := by
 have := Lib.run_max_ints (P := P) w T ty k k a b
 subst hz
 simp [execOp, resolve, invoke, builtin, hx, hy, this, Result.andThen]
end
theorem Z4N {f m : Nat} (hm : m < 128 ^ f) (h : 128 ≤ m) : 0 < f - 1 ∧ m / 128 < 128 ^ (f - 1) ∧ Z5c f m = UInt8.ofNat (bOr .u8 ((m : Int) % 256) 128).toNat :: Z5c (f - 1) (m / 128) := by
 cases f with
 | zero => simp at hm; omega
 | succ f =>
  have h1 : m / 128 < 128 ^ f := Nat.div_lt_of_lt_mul (by rw [Nat.pow_succ] at hm; omega)
  refine ⟨?_, h1, ?_⟩
  ·cases f with
   | zero => simp at h1; omega
   | succ f => simp
  ·rw [Z55 (by omega), show (((m : Int) % 128 + 128).toNat) = m % 128 + 128 by omega]
   conv => lhs; unfold Z5c
   rw [if_neg (by omega)]; rfl
theorem Z4M {f m : Nat} (hf : 0 < f) (h : m < 128) : Z5c f m = [UInt8.ofNat ((m : Int) % 256).toNat] := by
 cases f with
 | zero => omega
 | succ f => unfold Z5c; rw [if_pos h, show ((m : Int) % 256).toNat = m by omega]
def wrL (r : Nat) (a : Option Addr) (c : Nat) (B : List UInt8) : List Ck := [Z3 r 187 [.slice a B.length c], Ze 5 1 (.slice a B.length c) B.length (B.flatMap Zo)]
theorem Z5x (w : World) (r : Nat) (a0 : Option Addr) (c0 : Nat) (B : List UInt8) (hB : (ZP (wrL r a0 c0 B)).ok w) (hl : B.length ≤ 1000000) (n : Nat) (hn : n < 18446744073709551616) :
  Calls Tryz.prog 89 #[(.pointer (some ⟨r, 0, none⟩)), (.int .u64 ((n : Int)))] w fun e w' => ∃ a' c', e = .returned (.pointer (some ⟨r, 0, none⟩)) ∧ Sat w [Z3 r 187 [.slice a' (B ++ Z0S n).length c'], Ze 5 1 (.slice a' (B ++ Z0S n).length c') (B ++ Z0S n).length ((B ++ Z0S n).flatMap Zo), Za w (ZP (wrL r a0 c0 B)).fp] w' := by
 have H : Sat w [Z3 r 187 ([(.slice a0 B.length c0)] : List Value), Ze 5 1 (.slice a0 B.length c0) B.length (B.flatMap Zo), Za w (ZP (wrL r a0 c0 B)).fp] w := Sat.start (wrL r a0 c0 B) hB
 refine Zv Tryz.func89 rfl 33 rfl (Nat.le_of_ble_eq_true rfl) ?_
 refine Zh ?_
 refine Zs ?_
 refine Z5 (Z2 rfl) (d := 4) (v := (.pointer none)) rfl (by kernel_rfl) ?_
 refine Zr ?_
 refine Z7 ?_
 refine Zh ?_
 refine ZM ?_
 refine Z07 [1, 5, 6, 7, 8, 9, 10, 11, 12, 13, 14, 15, 16, 17, 18, 19, 20] (fun F_ W_ m_ => ∃ (m : Nat) (a : Option Addr) (c : Nat) (D : List UInt8) (f : Nat), F_ 1 = (.int .u64 ((m : Int))) ∧ (0 < f ∧ m < 128 ^ f ∧ m < 18446744073709551616) ∧ (D ++ Z5c f m = B ++ Z0S n) ∧ (D.length + f ≤ B.length + 10) ∧ Sat w [Z3 r 187 ([(.slice a D.length c)] : List Value), Ze 5 1 (.slice a D.length c) D.length (D.flatMap Zo), Za w (ZP (wrL r a0 c0 B)).fp] W_ ∧ m_ = m + 1) _ ⟨n, a0, c0, B, 10, (show ((.int .u64 ((n : Int))) : Value) = _ by first | rfl | go_num), ⟨by omega, by omega, hn⟩, rfl, by omega, H, rfl⟩ ?_
 rintro g1 w2 _ ⟨m, a, c, D, f, v4, hm, hD, hf, H3, rfl⟩
 refine Zy 1 _ v4 ?_
 refine Zh ?_
 refine Zh ?_
 refine Zs ?_
 refine Z5 (Z2 rfl) (d := 5) (v := (.int .u64 ((m : Int)))) rfl (by kernel_rfl) ?_
 refine Z5 (Z2 rfl) (d := 6) (v := (.bool (decide ((m : Int) ≥ 128)))) rfl (by kernel_rfl) ?_
 refine Zr ?_
 refine Z7 ?_
 refine (Z00 (decide ((m : Int) ≥ 128))).elim (fun b6 => ?_) (fun b6 => ?_)
 ·have g7 := of_decide_eq_true b6
  refine Zy 6 (.bool true) (congrArg Value.bool b6) ?_
  have g8 := of_decide_eq_true b6
  refine Z1j rfl ?_
  refine ZW ?_
  refine Z7 ?_
  refine ZM ?_
  refine Zh ?_
  refine Zs ?_
  refine Z5 (Z2 rfl) (d := 7) (v := (.pointer (some ⟨r, 0, none⟩))) rfl (by kernel_rfl) ?_
  refine Z5 (Z2 rfl) (d := 8) (v := (.pointer (some ⟨r, 0, none⟩))) rfl (by kernel_rfl) ?_
  refine Z5 (Z2 rfl) (d := 9) (v := (.pointer (some ⟨r, 0, none⟩))) rfl (by kernel_rfl) ?_
  refine Z5 (Z2 rfl) (d := 10) (v := (.pointer (some ⟨r, 0, none⟩))) rfl (by kernel_rfl) ?_
  refine Z5 (Z2 rfl) (d := 11) (v := (.slice a D.length c)) rfl (Zi rfl (by kernel_rfl) (H3.cell 0 rfl rfl)) ?_
  refine Z5 (Z2 rfl) (d := 12) (v := (.int .u64 ((m : Int)))) rfl (by kernel_rfl) ?_
  refine Z5 (Z2 rfl) (d := 13) (v := (.int .u8 ((m : Int) % 256))) rfl (Z0h (z := (m : Int)) (by kernel_rfl) (by rw [Z1G])) ?_
  refine Z5 (Z2 rfl) (d := 14) (v := (.int .u8 (bOr .u8 ((m : Int) % 256) 128))) rfl (by kernel_rfl) ?_
  refine ZQ (Z2 rfl) (fun K9 hK9 => ?_)
  refine ZY (e := 5) (size := 1) (bytes := 1) (z := (.int .u8 (0))) (pvs := [(0, (.int .u8 (bOr .u8 ((m : Int) % 256) 128)))]) (vs := ([(.int .u8 (bOr .u8 ((m : Int) % 256) 128))] : List Value)) rfl H3 (by kernel_rfl) (by kernel_rfl) (by kernel_rfl) (by kernel_rfl) (by kernel_rfl) rfl rfl ?_
  intro b10 w11 (H12 : Sat w [Z3 r 187 ([(.slice a D.length c)] : List Value), Ze 5 1 (.slice a D.length c) D.length (D.flatMap Zo), Za w (ZP (wrL r a0 c0 B)).fp, Ze 5 1 (.slice (some ⟨b10, 0, none⟩) 1 1) 1 ([(.int .u8 (bOr .u8 ((m : Int) % 256) 128))] : List Value)] w11)
  have H13 : Sat w [Z3 r 187 ([(.slice a D.length c)] : List Value), Ze 5 1 (.slice a D.length c) D.length (D.flatMap Zo), Za w (ZP (wrL r a0 c0 B)).fp, Ze 5 1 (.slice (some ⟨b10, 0, none⟩) 1 1) 1 ([UInt8.ofNat (bOr .u8 ((m : Int) % 256) 128).toNat].flatMap Zo)] w11 := H12.cast (by rw [Z1W (by rw [Z55 (by omega)]; omega)])
  refine hK9 _ _ ?_
  clear hK9 K9
  refine ZQ (Z2 rfl) (fun K14 hK14 => ?_)
  refine Z0z (T := 38) (e := 5) (size := 1) (bytes := 1) rfl H13 (by kernel_rfl) 1 3 rfl rfl rfl rfl (Z0m Zo Z0s [UInt8.ofNat (bOr .u8 ((m : Int) % 256) 128).toNat]) (by omega) (by omega) ?_
  intro v15 w16 (H17 : Sat w [Z3 r 187 ([(.slice a D.length c)] : List Value), Ze 5 1 v15 (D.length + 1) ((D.flatMap Zo) ++ ([UInt8.ofNat (bOr .u8 ((m : Int) % 256) 128).toNat].flatMap Zo)), Za w (ZP (wrL r a0 c0 B)).fp, Ze 5 1 (.slice (some ⟨b10, 0, none⟩) 1 1) 1 ([UInt8.ofNat (bOr .u8 ((m : Int) % 256) 128).toNat].flatMap Zo)] w16)
  have H20 : Sat w [Z3 r 187 ([(.slice a D.length c)] : List Value), Ze 5 1 v15 ((D ++ [UInt8.ofNat (bOr .u8 ((m : Int) % 256) 128).toNat]).length) ((D ++ [UInt8.ofNat (bOr .u8 ((m : Int) % 256) 128).toNat]).flatMap Zo), Za w (ZP (wrL r a0 c0 B)).fp, Ze 5 1 (.slice (some ⟨b10, 0, none⟩) 1 1) 1 ([UInt8.ofNat (bOr .u8 ((m : Int) % 256) 128).toNat].flatMap Zo)] w16 := H17.cast (by simp only [List.length_append, List.flatMap_append] <;> rfl)
  obtain ⟨a18, c19, rfl⟩ := Zg (H20.at 1 rfl)
  refine hK14 _ _ ?_
  clear hK14 K14
  refine Z5 (Z2 rfl) (d := 17) (v := (.pointer (some ⟨r, 0, none⟩))) rfl (by kernel_rfl) ?_
  refine Z5 (Z2 rfl) (d := 18) (v := (.pointer (some ⟨r, 0, none⟩))) rfl (by kernel_rfl) ?_
  refine ZQ (Z2 rfl) (fun K21 hK21 => ?_)
  refine Z28 (vs := ([(.slice a18 ((D ++ [UInt8.ofNat (bOr .u8 ((m : Int) % 256) 128).toNat]).length) c19)] : List Value)) rfl H20 0 rfl rfl rfl rfl (by kernel_rfl) (Nat.le_of_ble_eq_true (by kernel_rfl)) (Nat.le_of_ble_eq_true (by kernel_rfl)) (by kernel_rfl) ?_
  intro w22 (H23 : Sat w [Z3 r 187 ([(.slice a18 ((D ++ [UInt8.ofNat (bOr .u8 ((m : Int) % 256) 128).toNat]).length) c19)] : List Value), Ze 5 1 (.slice a18 ((D ++ [UInt8.ofNat (bOr .u8 ((m : Int) % 256) 128).toNat]).length) c19) ((D ++ [UInt8.ofNat (bOr .u8 ((m : Int) % 256) 128).toNat]).length) ((D ++ [UInt8.ofNat (bOr .u8 ((m : Int) % 256) 128).toNat]).flatMap Zo), Za w (ZP (wrL r a0 c0 B)).fp, Ze 5 1 (.slice (some ⟨b10, 0, none⟩) 1 1) 1 ([UInt8.ofNat (bOr .u8 ((m : Int) % 256) 128).toNat].flatMap Zo)] w22)
  refine hK21 _ _ ?_
  clear hK21 K21
  refine Zr ?_
  refine Z7 ?_
  refine Zs ?_
  refine Z5 (Z2 rfl) (d := 19) (v := (.int .u64 ((m : Int)))) rfl (by kernel_rfl) ?_
  refine Z5 (Z2 rfl) (d := 20) (v := (.int .u64 ((m : Int) / 128))) rfl (Z2y rfl rfl (by decide) (by decide) (by decide)) ?_
  refine Z5 (Z2 rfl) (d := 1) (v := (.int .u64 ((m : Int) / 128))) rfl (by kernel_rfl) ?_
  refine Zr ?_
  refine ZR ?_
  have hv := Z4N hm.2.1 (show 128 ≤ m by omega)
  have H25 : Sat w [Z3 r 187 ([(.slice a18 ((D ++ [UInt8.ofNat (bOr .u8 ((m : Int) % 256) 128).toNat]).length) c19)] : List Value), Ze 5 1 (.slice a18 ((D ++ [UInt8.ofNat (bOr .u8 ((m : Int) % 256) 128).toNat]).length) c19) ((D ++ [UInt8.ofNat (bOr .u8 ((m : Int) % 256) 128).toNat]).length) ((D ++ [UInt8.ofNat (bOr .u8 ((m : Int) % 256) 128).toNat]).flatMap Zo), Za w (ZP (wrL r a0 c0 B)).fp] w22 := H23.pick [0, 1, 2] (by decide)
  refine ZS ?_ _ ⟨(m / 128), a18, c19, (D ++ [UInt8.ofNat (bOr .u8 ((m : Int) % 256) 128).toNat]), (f - 1), (show ((.int .u64 ((m : Int) / 128)) : Value) = _ by first | rfl | go_num), ⟨hv.1, hv.2.1, by omega⟩, (by rw [hv.2.2] at hD; simpa using hD), (by rw [List.length_append]; simp only [List.length_cons, List.length_nil]; omega), H25, rfl⟩ (by omega)
  exact (Z6 rfl (Z6 rfl (Z6 rfl (Z6 rfl (Z6 rfl (Z6 rfl (Z6 rfl (Z6 rfl (Z6 rfl (Z6 rfl (Z6 rfl (Z6 rfl (Z6 rfl (Z6 rfl (Z6 rfl (Z6 rfl (Z6 rfl (Z6 rfl (Z6 rfl (Z1D))))))))))))))))))))
 ·have g26 := of_decide_eq_false b6
  refine Zy 6 (.bool false) (congrArg Value.bool b6) ?_
  have g27 := of_decide_eq_false b6
  refine Z0o rfl ?_
  refine Z3T ?_
  refine Z1z ?_
  refine Z1x ?_
  refine Z2w ?_
  refine Z7 ?_
  refine Zh ?_
  refine Zs ?_
  refine Z5 (Z2 rfl) (d := 21) (v := (.pointer (some ⟨r, 0, none⟩))) rfl (by kernel_rfl) ?_
  refine Z5 (Z2 rfl) (d := 22) (v := (.pointer (some ⟨r, 0, none⟩))) rfl (by kernel_rfl) ?_
  refine Z5 (Z2 rfl) (d := 23) (v := (.pointer (some ⟨r, 0, none⟩))) rfl (by kernel_rfl) ?_
  refine Z5 (Z2 rfl) (d := 24) (v := (.pointer (some ⟨r, 0, none⟩))) rfl (by kernel_rfl) ?_
  refine Z5 (Z2 rfl) (d := 25) (v := (.slice a D.length c)) rfl (Zi rfl (by kernel_rfl) (H3.cell 0 rfl rfl)) ?_
  refine Z5 (Z2 rfl) (d := 26) (v := (.int .u64 ((m : Int)))) rfl (by kernel_rfl) ?_
  refine Z5 (Z2 rfl) (d := 27) (v := (.int .u8 ((m : Int) % 256))) rfl (Z0h (z := (m : Int)) (by kernel_rfl) (by rw [Z1G])) ?_
  refine ZQ (Z2 rfl) (fun K28 hK28 => ?_)
  refine ZY (e := 5) (size := 1) (bytes := 1) (z := (.int .u8 (0))) (pvs := [(0, (.int .u8 ((m : Int) % 256)))]) (vs := ([(.int .u8 ((m : Int) % 256))] : List Value)) rfl H3 (by kernel_rfl) (by kernel_rfl) (by kernel_rfl) (by kernel_rfl) (by kernel_rfl) rfl rfl ?_
  intro b29 w30 (H31 : Sat w [Z3 r 187 ([(.slice a D.length c)] : List Value), Ze 5 1 (.slice a D.length c) D.length (D.flatMap Zo), Za w (ZP (wrL r a0 c0 B)).fp, Ze 5 1 (.slice (some ⟨b29, 0, none⟩) 1 1) 1 ([(.int .u8 ((m : Int) % 256))] : List Value)] w30)
  have H32 : Sat w [Z3 r 187 ([(.slice a D.length c)] : List Value), Ze 5 1 (.slice a D.length c) D.length (D.flatMap Zo), Za w (ZP (wrL r a0 c0 B)).fp, Ze 5 1 (.slice (some ⟨b29, 0, none⟩) 1 1) 1 ([UInt8.ofNat ((m : Int) % 256).toNat].flatMap Zo)] w30 := H31.cast (by rw [Z1W (by omega)])
  refine hK28 _ _ ?_
  clear hK28 K28
  refine ZQ (Z2 rfl) (fun K33 hK33 => ?_)
  refine Z0z (T := 38) (e := 5) (size := 1) (bytes := 1) rfl H32 (by kernel_rfl) 1 3 rfl rfl rfl rfl (Z0m Zo Z0s [UInt8.ofNat ((m : Int) % 256).toNat]) (by omega) (by omega) ?_
  intro v34 w35 (H36 : Sat w [Z3 r 187 ([(.slice a D.length c)] : List Value), Ze 5 1 v34 (D.length + 1) ((D.flatMap Zo) ++ ([UInt8.ofNat ((m : Int) % 256).toNat].flatMap Zo)), Za w (ZP (wrL r a0 c0 B)).fp, Ze 5 1 (.slice (some ⟨b29, 0, none⟩) 1 1) 1 ([UInt8.ofNat ((m : Int) % 256).toNat].flatMap Zo)] w35)
  have H39 : Sat w [Z3 r 187 ([(.slice a D.length c)] : List Value), Ze 5 1 v34 ((D ++ [UInt8.ofNat ((m : Int) % 256).toNat]).length) ((D ++ [UInt8.ofNat ((m : Int) % 256).toNat]).flatMap Zo), Za w (ZP (wrL r a0 c0 B)).fp, Ze 5 1 (.slice (some ⟨b29, 0, none⟩) 1 1) 1 ([UInt8.ofNat ((m : Int) % 256).toNat].flatMap Zo)] w35 := H36.cast (by simp only [List.length_append, List.flatMap_append] <;> rfl)
  obtain ⟨a37, c38, rfl⟩ := Zg (H39.at 1 rfl)
  refine hK33 _ _ ?_
  clear hK33 K33
  refine Z5 (Z2 rfl) (d := 30) (v := (.pointer (some ⟨r, 0, none⟩))) rfl (by kernel_rfl) ?_
  refine Z5 (Z2 rfl) (d := 31) (v := (.pointer (some ⟨r, 0, none⟩))) rfl (by kernel_rfl) ?_
  refine ZQ (Z2 rfl) (fun K40 hK40 => ?_)
  refine Z28 (vs := ([(.slice a37 ((D ++ [UInt8.ofNat ((m : Int) % 256).toNat]).length) c38)] : List Value)) rfl H39 0 rfl rfl rfl rfl (by kernel_rfl) (Nat.le_of_ble_eq_true (by kernel_rfl)) (Nat.le_of_ble_eq_true (by kernel_rfl)) (by kernel_rfl) ?_
  intro w41 (H42 : Sat w [Z3 r 187 ([(.slice a37 ((D ++ [UInt8.ofNat ((m : Int) % 256).toNat]).length) c38)] : List Value), Ze 5 1 (.slice a37 ((D ++ [UInt8.ofNat ((m : Int) % 256).toNat]).length) c38) ((D ++ [UInt8.ofNat ((m : Int) % 256).toNat]).length) ((D ++ [UInt8.ofNat ((m : Int) % 256).toNat]).flatMap Zo), Za w (ZP (wrL r a0 c0 B)).fp, Ze 5 1 (.slice (some ⟨b29, 0, none⟩) 1 1) 1 ([UInt8.ofNat ((m : Int) % 256).toNat].flatMap Zo)] w41)
  refine hK40 _ _ ?_
  clear hK40 K40
  refine Zr ?_
  refine Z7 ?_
  refine Zh ?_
  refine Zs ?_
  refine Z5 (Z2 rfl) (d := 32) (v := (.pointer (some ⟨r, 0, none⟩))) rfl (by kernel_rfl) ?_
  refine Z5 (Z2 rfl) (d := 4) (v := (.pointer (some ⟨r, 0, none⟩))) rfl (by kernel_rfl) ?_
  refine Zr ?_
  refine Z7 ?_
  refine ZU ?_
  refine Z0T rfl (ZK (v := (.pointer (some ⟨r, 0, none⟩))) rfl) ?_
  have hv := Z4M hm.1 (show m < 128 by omega)
  have hfin : (D ++ [UInt8.ofNat ((m : Int) % 256).toNat]) = B ++ Z0S n := by rw [← hD, hv]
  exact ⟨a37, c38, rfl, (H42.pick [0, 1, 2] (by decide)).cast (by show [_, _, _] = _; rw [hfin])⟩
theorem Z0t (w : World) (r : Nat) (a0 : Option Addr) (c0 : Nat) (B : List UInt8) (hB : (ZP (wrL r a0 c0 B)).ok w) (hl : B.length ≤ 1000000) (n : Int) (hn : n ≤ 9223372036854775807) :
  Calls Tryz.prog 71 #[(.pointer (some ⟨r, 0, none⟩)), (.int .i64 (n))] w fun e w' => ∃ a' c', e = .returned (.pointer (some ⟨r, 0, none⟩)) ∧ Sat w [Z3 r 187 [.slice a' (B ++ Z0S (max 0 n).toNat).length c'], Ze 5 1 (.slice a' (B ++ Z0S (max 0 n).toNat).length c') (B ++ Z0S (max 0 n).toNat).length ((B ++ Z0S (max 0 n).toNat).flatMap Zo), Za w (ZP (wrL r a0 c0 B)).fp] w' := by
 have H : Sat w [Z3 r 187 ([(.slice a0 B.length c0)] : List Value), Ze 5 1 (.slice a0 B.length c0) B.length (B.flatMap Zo), Za w (ZP (wrL r a0 c0 B)).fp] w := Sat.start (wrL r a0 c0 B) hB
 obtain ⟨k, hk⟩ : ∃ k : Nat, (k : Int) = max 0 n := ⟨(max 0 n).toNat, by omega⟩
 refine Zv Tryz.func71 rfl 10 rfl (Nat.le_of_ble_eq_true rfl) ?_
 refine Zh ?_
 refine Zs ?_
 refine Z5 (Z2 rfl) (d := 4) (v := (.pointer none)) rfl (by kernel_rfl) ?_
 refine Zr ?_
 refine Z7 ?_
 refine Zh ?_
 refine Zs ?_
 refine Z5 (Z2 rfl) (d := 5) (v := (.pointer (some ⟨r, 0, none⟩))) rfl (by kernel_rfl) ?_
 refine Z5 (Z2 rfl) (d := 6) (v := (.int .i64 (n))) rfl (by kernel_rfl) ?_
 refine Z5 (Z2 rfl) (d := 7) (v := (.int .i64 (max (0 : Int) n))) rfl (Z7C (k := .i64) (a := 0) (b := n) (z := max (0 : Int) n) rfl rfl rfl) ?_
 refine Z5 (Z2 rfl) (d := 8) (v := (.int .u64 ((k : Int)))) rfl (Z0h (z := max (0 : Int) n) (by kernel_rfl) ((by rw [← hk]; exact Z0Z (by omega)))) ?_
 refine ZQ (Z2 rfl) (fun K1 hK1 => ?_)
 refine ZJ (d := 9) rfl (by kernel_rfl) (Z5x w r a0 c0 B (H.fin [0, 1] (by decide) rfl) (by omega) k (by omega)) ?_
 rintro _ w2 ⟨a4, c5, rfl, T3⟩
 have H6 : Sat w [Z3 r 187 ([(.slice a4 ((B ++ Z0S k).length) c5)] : List Value), Ze 5 1 (.slice a4 ((B ++ Z0S k).length) c5) ((B ++ Z0S k).length) ((B ++ Z0S k).flatMap Zo), Za w (ZP (wrL r a0 c0 B)).fp] w2 := (Sat.turnL (L' := [Z3 r 187 ([(.slice a4 ((B ++ Z0S k).length) c5)] : List Value), Ze 5 1 (.slice a4 ((B ++ Z0S k).length) c5) ((B ++ Z0S k).length) ((B ++ Z0S k).flatMap Zo)]) (R := [Za w (ZP (wrL r a0 c0 B)).fp]) H [0, 1] [2] (by decide) (by kernel_rfl) rfl T3).pick [0, 1, 2] (by decide)
 refine ⟨_, rfl, ?_⟩
 refine hK1 _ _ ?_
 clear hK1 K1
 refine Z5 (Z2 rfl) (d := 4) (v := (.pointer (some ⟨r, 0, none⟩))) rfl (by kernel_rfl) ?_
 refine Zr ?_
 refine Z7 ?_
 refine ZU ?_
 refine Z0T rfl (ZK (v := (.pointer (some ⟨r, 0, none⟩))) rfl) ?_
 have hkn : (max 0 n).toNat = k := by omega
 exact ⟨a4, c5, rfl, by rw [hkn]; exact H6⟩
theorem Z1b (w : World) (r : Nat) (a0 : Option Addr) (c0 : Nat) (B : List UInt8) (hB : (ZP (wrL r a0 c0 B)).ok w) (hl : B.length ≤ 1000000) :
  Calls Tryz.prog 74 #[(.pointer (some ⟨r, 0, none⟩))] w fun e w' => ∃ u, e = .returned u ∧ Sat w [Z3 r 187 [.slice a0 B.length c0], Ze 5 1 (.slice a0 B.length c0) B.length (B.flatMap Zo), Ze 5 1 u B.length (B.flatMap Zo), Za w (ZP (wrL r a0 c0 B)).fp] w' := by
 have H : Sat w [Z3 r 187 ([(.slice a0 B.length c0)] : List Value), Ze 5 1 (.slice a0 B.length c0) B.length (B.flatMap Zo), Za w (ZP (wrL r a0 c0 B)).fp] w := Sat.start (wrL r a0 c0 B) hB
 refine Zv Tryz.func74 rfl 8 rfl (Nat.le_of_ble_eq_true rfl) ?_
 refine Zh ?_
 refine Zs ?_
 refine Z5 (Z2 rfl) (d := 2) (v := (.slice none 0 0)) rfl (by kernel_rfl) ?_
 refine Zr ?_
 refine Z7 ?_
 refine Zh ?_
 refine Zs ?_
 refine Z5 (Z2 rfl) (d := 3) (v := (.pointer (some ⟨r, 0, none⟩))) rfl (by kernel_rfl) ?_
 refine Z5 (Z2 rfl) (d := 4) (v := (.pointer (some ⟨r, 0, none⟩))) rfl (by kernel_rfl) ?_
 refine Z5 (Z2 rfl) (d := 5) (v := (.pointer (some ⟨r, 0, none⟩))) rfl (by kernel_rfl) ?_
 refine Z5 (Z2 rfl) (d := 6) (v := (.slice a0 B.length c0)) rfl (Zi rfl (by kernel_rfl) (H.cell 0 rfl rfl)) ?_
 refine ZQ (Z2 rfl) (fun K1 hK1 => ?_)
 refine Z50 (T := 38) (e := 5) (size := 1) (bytes := 1) rfl H (by kernel_rfl) (H.at 1 rfl) rfl rfl (Z0m Zo Z0s B) (by omega) (by omega) ?_
 intro v2 w3 (H4 : Sat w [Z3 r 187 ([(.slice a0 B.length c0)] : List Value), Ze 5 1 (.slice a0 B.length c0) B.length (B.flatMap Zo), Za w (ZP (wrL r a0 c0 B)).fp, Ze 5 1 v2 B.length (B.flatMap Zo)] w3)
 obtain ⟨a5, c6, rfl⟩ := Zg (H4.at 3 rfl)
 refine hK1 _ _ ?_
 clear hK1 K1
 refine Z5 (Z2 rfl) (d := 2) (v := (.slice a5 B.length c6)) rfl (by kernel_rfl) ?_
 refine Zr ?_
 refine Z7 ?_
 refine ZU ?_
 refine Z0T rfl (ZK (v := (.slice a5 B.length c6)) rfl) ?_
 exact ⟨_, rfl, H4.pick [0, 1, 3, 2] (by decide)⟩
end Go.Proofs.YtgigjkjdmalmaaaGreat
