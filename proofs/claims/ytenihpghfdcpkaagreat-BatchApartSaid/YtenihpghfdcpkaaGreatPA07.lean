/- WHAT IS PROVED: contracts and plain laws of TxtD, MinMax, Wr10, Rt. Conditions: stated with each. -/
import Derived.Laws.IdiomStrings
import Derived.Lib.MinMax
import Derived.Test.YtenihpghfdcpkaaGreatPA03
import Derived.Test.YtenihpghfdcpkaaGreatPA04
import Derived.Test.YtenihpghfdcpkaaGreatPA05
import Derived.Test.YtenihpghfdcpkaaGreatPA06
set_option maxHeartbeats 4000000
set_option maxRecDepth 100000
namespace Go.Proofs.YtenihpghfdcpkaaGreat
open Go.RowKit
def Z9s (v : Value) : List Value := [v]
theorem Z1F (v : Value) : (Z9s v).length = 1 := rfl
section
variable {w w' w0 : World} {v : Value} {s : List UInt8} {vs : List Value} {ss : List (List UInt8)} {G : List Ck}
structure Parts (w : World) (vs : List Value) (ss : List (List UInt8)) : Prop where
 len : vs.length = ss.length
 get : ∀ i, i < vs.length → ListAt Zy 1 w (vs.getD i undef) (ss.getD i [])
theorem Parts.nil : Parts w [] [] := ⟨rfl, fun i h => by simp at h⟩
theorem Parts.cons (h : ListAt Zy 1 w v s) (t : Parts w vs ss) : Parts w (v :: vs) (s :: ss) := ⟨by simp [t.len], fun i hi => by
 cases i with
 | zero => exact h
 | succ i => exact t.get i (by simpa using hi)⟩
theorem Z9f (ss : List (List UInt8)) {i : Nat} (h : i < ss.length) : (ss.take (i + 1)).flatten = (ss.take i).flatten ++ ss.getD i [] := by
 rw [List.take_add_one, List.getElem?_eq_getElem h, List.flatten_append, List.getD_eq_getElem?_getD, List.getElem?_eq_getElem h]
 simp
theorem Zd6 (ss : List (List UInt8)) {i : Nat} (h : i < ss.length) : (ss.take i).flatten.length + (ss.getD i []).length ≤ ss.flatten.length := by
 have h1 := congrArg List.length (Z9f ss h)
 have h2 : ss.flatten = (ss.take (i + 1)).flatten ++ (ss.drop (i + 1)).flatten := by rw [← List.flatten_append, List.take_append_drop]
 rw [List.length_append] at h1
 rw [h2, List.length_append]; omega
def Z44 (v : Value) (s : List UInt8) : Ck where
 fp b := 0 < s.length ∧ v.ownBlock = some b
 ok w := BytesAt w v s
 stay {w w'} h hb := by
  rcases h with h | ⟨h0, b, off, cap, rfl, hn, h⟩
  ·exact .inl h
  ·refine .inr ⟨h0, b, off, cap, rfl, hn, fun i hi => ?_⟩
   have := h i hi
   unfold Z7H World.cell? at this ⊢
   rw [hb b ⟨h0, rfl⟩]; exact this
 lt {w} h b hb := by
  obtain ⟨h0, hb⟩ := hb
  obtain ⟨b', off, cap, rfl, _, h⟩ := SliceOf.some h h0
  have := h 0 h0
  simp only [Value.ownBlock, Option.some.injEq] at hb
  subst hb
  unfold Z7H World.cell? at this
  by_cases hl : b' < w.heap.size
  ·exact hl
  ·rw [Array.getElem?_eq_none (show w.heap.size ≤ b' by omega)] at this; simp at this
theorem ListAt.ofTxt (h : (Z44 v s).ok w) : ListAt Zy 1 w v s := Z7C h
theorem ListAt.ofHash {x : Hash} {b o c : Nat} (h : Z4h w ⟨b, o, none⟩ (hc x)) (hc' : 32 ≤ c ∧ c ≤ maxLen) : ListAt Zy 1 w (.slice (some ⟨b, o, none⟩) 32 c) x.l := by
 refine Z7C (.inr ⟨by rw [x.len]; decide, b, o, c, by rw [x.len], by rw [x.len]; exact hc', fun i hi => ?_⟩)
 have := h i (Z4a x.l[i]) (by rw [Z8r, List.getElem?_map, List.getElem?_eq_getElem hi]; rfl)
 rw [Addr.add_lit] at this
 unfold Z7H; rw [Nat.mul_one]; exact this
theorem Z3U {w : World} {b T o : Nat} {cs us : List Value} (h : (Z0 b T cs).ok w) (hu : (cs.drop o).take us.length = us) : Z4h w ⟨b, o, none⟩ us := by
 intro j v hj
 rw [Addr.add_lit, Z0U h]
 rw [← hu, List.getElem?_take] at hj
 split at hj
 ·rw [List.getElem?_drop] at hj; simpa using hj
 ·cases hj
theorem Sat.offP {A : Ck} {B : List Ck} (H : Sat w0 G w) (is : List Nat) (t : Nat) (hB : (is.filterMap fun i => G[i]?) = B) (ht : G[t]? = some A) (hne : is.all (fun i => !Nat.beq t i) = true) {b : Nat} (hb : A.fp b) : ¬ (ZR B).fp b := by
 rintro ⟨C, hC, hfp⟩
 rw [← hB] at hC
 obtain ⟨i, him, hiC⟩ := List.mem_filterMap.1 hC
 have := List.all_eq_true.1 hne i him
 exact H.apart t i ht hiC (by simpa using this) b hb hfp
theorem Z7Q {B : List Ck} {n c : Nat} {a : Option Addr} (h : ∀ b, (Z44 (.slice a n c) s).fp b → ¬ (ZR B).fp b) : 0 < s.length → ∀ ad, a = some ad → ¬ (ZR B).fp ad.block := fun h0 ad ha => h _ ⟨h0, by subst ha; rfl⟩
end
section
variable {P : Program} {n : Nat} {f : Nat → Value} {w w0 : World} {dst : Option Tmp} {ty : TypeId} {pos : String} {aft : Array Edge} {gd : Option (Nat × Bool)} {K : Act → World → Prop} {Q : Exit → Act → World → Prop} {G : List Ck}
theorem ZdG {S D e : TypeId} {x : Operand} {d : Nat} {s : List UInt8} (hd : dst = some d) (H : Sat w0 G w) (hs : P.underlying S = some .string) (hD : P.underlying D = some (.slice e)) (he : P.underlying e = some (.int .u8)) (hx : ev n f x = Z3R s) (hl : s.length ≤ 1000000) (h0 : 0 < s.length)
  (kk : ∀ b c w', Sat w0 (G ++ [Z44 (.slice (some ⟨b, 0, none⟩) s.length c) s]) w' → K (fr n (upd f d (.slice (some ⟨b, 0, none⟩) s.length c))) w') : WO P ⟨dst, .convert S D x, ty, pos, aft, gd⟩ K Q n f w := by
 have hsz : (⟨s.toArray⟩ : ByteArray).size = s.length := by simp [ByteArray.size]
 have hr := run_bytes_of_string (P := P) w S D e ⟨s.toArray⟩ hs hD he
 rw [hsz] at hr
 obtain ⟨C, hC⟩ : ∃ C, C = Obj.cells (bytesRow ⟨s.toArray⟩ (grownCap w s.length 0 e)) e ((bytesRow ⟨s.toArray⟩ (grownCap w s.length 0 e)).size, (bytesRow ⟨s.toArray⟩ (grownCap w s.length 0 e)).size + 1) := ⟨_, rfl⟩
 obtain ⟨w1, hw⟩ : ∃ w1 : World, w1 = w.drew.alloc C := ⟨_, rfl⟩
 rw [← hC, ← hw] at hr
 have hh : w1.heap = w.heap.push C := by rw [hw]; rfl
 refine Z4D hd (v := .slice (some ⟨w.heap.size, 0, none⟩) s.length (grownCap w s.length 0 e)) (w' := w1) (by simp [execOp, hx, Z3R, hr, Result.andThen]) (kk _ _ _ (H.add ⟨by rw [hw]; rfl, by rw [hw]; rfl, by rw [hw]; rfl, by rw [hh]; simp⟩ (fun b hb => by rw [hh, Array.getElem?_push]; simp; omega) ?_ (fun b hb => ?_)))
 ·refine .inr ⟨h0, _, 0, _, rfl, ⟨grownCap_ge _ _ _ _, grownCap_le_maxLen _ _ _ _ (by unfold maxLen; omega)⟩, fun i hi => ?_⟩
  unfold Z7H World.cell?
  simp only [hh, Array.getElem?_push, if_true, Nat.zero_add, Nat.mul_one, hC]
  simp [bytesRow, Array.getElem?_append, hi, Z4a]
 ·simp only [Z44, Value.ownBlock, Option.some.injEq] at hb; omega
theorem Z1W {S e : TypeId} {x : Operand} {d : Nat} {s : List UInt8} {g c : Nat} (hd : dst = some d) (H : Sat w0 G w) (i : Nat) (hi : G[i]? = some (Zc e 1 (.slice (some ⟨g, 0, none⟩) s.length c) s.length (s.flatMap Zy))) (hS : P.underlying S = some (.slice e)) (he : P.underlying e = some (.int .u8)) (hx : ev n f x = .slice (some ⟨g, 0, none⟩) s.length c)
  (kk : ∀ w', Sat w0 (G.set i (Z44 (.slice (some ⟨g, 0, none⟩) s.length c) s)) w' → K (fr n (upd f d (.slice (some ⟨g, 0, none⟩) s.length c))) w') : WO P ⟨dst, .convert S S x, ty, pos, aft, gd⟩ K Q n f w := by
 have hok := H.at i hi
 have hL := ListAt.row (enc := Zy) (sz := 1) (xs := s) Zk (by decide) hok
 rcases hok.2 with ⟨hv, _⟩ | ⟨g', cap, cur, hv, _, hgg, hcap, hm, hcs, htake⟩
 ·simp at hv
 simp only [Value.slice.injEq, Option.some.injEq, Addr.mk.injEq] at hv
 obtain ⟨⟨rfl, _⟩, _, rfl⟩ := hv
 have hsh : w.shape? g = some (e, cur.size) := by unfold World.shape?; rw [hgg]
 have hlt := Z1j hgg
 have hr : (convert S S (.slice (some ⟨g, 0, none⟩) s.length c)).run P w = .ok (.slice (some ⟨g, 0, none⟩) s.length c) (w.freeze ⟨g, cur.size, none⟩ 1) := by
  simp [convert, run_underlying hS, run_underlying he, markStringish, hsh]
 have hh : (w.freeze ⟨g, cur.size, none⟩ 1).heap = w.heap.modify g fun
   | .cells c elem (lo, hi) => .cells c elem (if lo == hi then (cur.size, cur.size + 1) else (min lo cur.size, max hi (cur.size + 1)))
   | o => o := by unfold World.freeze; rw [if_neg (by decide)]; rfl
 have hne : ∀ b, b ≠ g → (w.freeze ⟨g, cur.size, none⟩ 1).heap[b]? = w.heap[b]? := fun b hb => by
  rw [hh, Array.getElem?_modify, if_neg (fun h => hb h.symm)]
 have hcell : ∀ p, (w.freeze ⟨g, cur.size, none⟩ 1).cell? p = w.cell? p := fun p => by
  unfold World.cell?
  by_cases hb : p.block = g
  ·rw [hb, hh, Array.getElem?_modify, if_pos rfl, hgg]; rfl
  ·rw [hne _ hb]
 refine Z4D hd (w' := w.freeze ⟨g, cur.size, none⟩ 1) (by simp [execOp, hx, hr, Result.andThen]) (kk _ (H.set i hi ⟨by unfold World.freeze; rw [if_neg (by decide)], by unfold World.freeze; rw [if_neg (by decide)], by unfold World.freeze; rw [if_neg (by decide)], by rw [hh]; simp⟩ (fun b _ hb => hne b fun h => hb (by subst h; rfl)) ?_ (fun b hb => .inl ?_)))
 ·exact Z2i (hL.mono fun p x hx => by rw [hcell]; exact hx)
 ·obtain ⟨_, hb⟩ := hb
  exact hb
end
structure Z4 where
 r : Int
 cl : Int
 seq : Int
 h : Hash
 t : Int
 sb : Int
 sm : Int
structure Z9 where
 cl : Int
 seq : Int
 h : Hash
 len : Int
 sb : Int
 sm : Int
def Z1U (s : Z4) : List Value := [.int .i64 s.r, .int .i64 s.cl, .int .i64 s.seq] ++ hc s.h ++ [.int .u64 s.t, .int .i64 s.sb, .int .i64 s.sm]
theorem Z6L (s : Z4) : (Z1U s).length = 38 := by simp [Z1U]
theorem Z6T (s : Z4) : (Z1U s).all (·.oneCell') = true := by
 simp only [Z1U, List.all_append, Z8r]
 simp [Value.oneCell', Z4a]
def Zf : Z4 := ⟨0, 0, 0, Zn, 0, 0, 0⟩
def Zaa (s : Z9) : List Value := [.int .i64 s.cl, .int .i64 s.seq] ++ hc s.h ++ [.int .i64 s.len, .int .i64 s.sb, .int .i64 s.sm]
def Zi (n : Int) : List UInt8 := Z2W (max 0 n).toNat
def ZK (s : List UInt8) : List UInt8 := Z2W s.length ++ s
def Z1Z (a b : Int) : List UInt8 := [Zi a, Zi b].flatten
def Z1o (s : Z4) : List UInt8 := [Zi s.r, Z1Z s.cl s.seq, s.h.l, Z2W s.t.toNat].flatten
def Zv (s : Z4) : List UInt8 := [ZK [115, 116, 97, 109, 112], Z1o s].flatten
def Zo (s : Z9) : List UInt8 := [ZK [114, 101, 113, 117, 101, 115, 116], Zi s.cl, Zi s.seq, s.h.l, Zi s.len].flatten
theorem Z45 (n : Nat) : (Z2W n).length ≤ 10 := Zar 10 n
theorem ZM (n : Int) : (Zi n).length ≤ 10 := Zar 10 _
theorem Z4w (a b : Int) : (Z1Z a b).length ≤ 20 := by
 have h1 := ZM a; have h2 := ZM b
 simp only [Z1Z, List.flatten_cons, List.flatten_nil, List.length_append, List.length_nil]; omega
theorem Z4u (s : Z4) : (Z1o s).length ≤ 72 := by
 have h1 := ZM s.r; have h2 := Z4w s.cl s.seq; have h3 := s.h.len; have h4 := Z45 s.t.toNat
 simp only [Z1o, List.flatten_cons, List.flatten_nil, List.length_append, List.length_nil]; omega
theorem Z0D (s : List UInt8) : (ZK s).length ≤ 10 + s.length := by
 have := Z45 s.length
 simp only [ZK, List.length_append]; omega
section
variable {P : Program} {n : Nat} {f : Nat → Value} {w : World} {dst : Option Tmp} {ty : TypeId} {pos : String} {aft : Array Edge} {gd : Option (Nat × Bool)}
theorem e_minI {T : Array TypeId} {x y : Operand} {k : IntKind} {a b z : Int} (hx : ev n f x = .int k a) (hy : ev n f y = .int k b) (hz : min a b = z) :
  (execOp (ev n f) ⟨dst, .call { callee := .builtin .min, args := #[x, y], argTypes := T }, ty, pos, aft, gd⟩).run P w = .ok (.value (.int k z)) w := by
 have := Lib.run_min_ints (P := P) w T ty k k a b
 subst hz
 simp [execOp, resolve, invoke, builtin, hx, hy, this, Result.andThen]
theorem Zfy {T : Array TypeId} {x y : Operand} {k : IntKind} {a b z : Int} (hx : ev n f x = .int k a) (hy : ev n f y = .int k b) (hz : min a b = z) :
  (execOp (ev n f) ⟨dst, .call { callee := .builtin .min, args := #[x, y], argTypes := T }, ty, pos, aft, gd⟩).run P w = .ok (.value (.int k z)) w := e_minI hx hy hz
theorem ZeJ {T : Array TypeId} {x y : Operand} {k : IntKind} {a b z : Int} (hx : ev n f x = .int k a) (hy : ev n f y = .int k b) (hz : max a b = z) :
  (execOp (ev n f) ⟨dst, .call { callee := .builtin .max, args := #[x, y], argTypes := T }, ty, pos, aft, gd⟩).run P w = .ok (.value (.int k z)) w := by
 have := Lib.run_max_ints (P := P) w T ty k k a b
 subst hz
 simp [execOp, resolve, invoke, builtin, hx, hy, this, Result.andThen]
end
abbrev Z6J (p0 : Option Addr) (p1 : Nat) (p2 : Nat) : List Value := ([(.slice p0 p1 p2)] : List Value)
abbrev Za3 (p0 : Option Addr) (p1 : List UInt8) (p2 : Nat) : Ck := Zc 5 1 (.slice p0 p1.length p2) p1.length (p1.flatMap Zy)
theorem Z8U {f m : Nat} (hm : m < 128 ^ f) (h : 128 ≤ m) : 0 < f - 1 ∧ m / 128 < 128 ^ (f - 1) ∧ Zay f m = UInt8.ofNat (bOr .u8 ((m : Int) % 256) 128).toNat :: Zay (f - 1) (m / 128) := by
 cases f with
 | zero => simp at hm; omega
 | succ f =>
  have h1 : m / 128 < 128 ^ f := Nat.div_lt_of_lt_mul (by rw [Nat.pow_succ] at hm; omega)
  refine ⟨?_, h1, ?_⟩
  ·cases f with
   | zero => simp at h1; omega
   | succ f => simp
  rw [Z9Q om, show (((m : Int) % 128 + 128).toNat) = m % 128 + 128 by omega]
  conv => lhs; unfold Zay
  rw [if_neg om]; rfl
theorem Z8z {f m : Nat} (hf : 0 < f) (h : m < 128) : Zay f m = [UInt8.ofNat ((m : Int) % 256).toNat] := by
 cases f with
 | zero => omega
 | succ f => unfold Zay; rw [if_pos h, show ((m : Int) % 256).toNat = m by omega]
def wrL (r : Nat) (a : Option Addr) (c : Nat) (B : List UInt8) : List Ck := [Z0 r 266 [.slice a B.length c], Zc 5 1 (.slice a B.length c) B.length (B.flatMap Zy)]
theorem Zew (w : World) (r : Nat) (a0 : Option Addr) (c0 : Nat) (B : List UInt8) (hB : (ZR (wrL r a0 c0 B)).ok w) (hl : B.length ≤ 1000000) (n : Nat) (hn : n < 18446744073709551616) :
  Calls Tryz.prog 187 #[(.pointer (some ⟨r, 0, none⟩)), (.int .u64 ((n : Int)))] w fun e w' => ∃ a' c', e = .returned (.pointer (some ⟨r, 0, none⟩)) ∧ Sat w [Z0 r 266 [.slice a' (B ++ Z2W n).length c'], Zc 5 1 (.slice a' (B ++ Z2W n).length c') (B ++ Z2W n).length ((B ++ Z2W n).flatMap Zy), Z3 w (ZR (wrL r a0 c0 B)).fp] w' := by
 have H := Sat.start (wrL r a0 c0 B) hB
 refine Z8 Tryz.func187 rfl 33 rfl kn ?_
 refine zsl <| wv 4 (.pointer none) <| znt <| Z5 <| Za <| Zw ([1] ++ List.range' 5 16) (fun F_ W_ m_ => ∃ (m : Nat) (a : Option Addr) (c : Nat) (D : List UInt8) (f : Nat), F_ 1 = (vu m) ∧ (0 < f ∧ m < 128 ^ f ∧ m < 18446744073709551616) ∧ (D ++ Zay f m = B ++ Z2W n) ∧ (D.length + f ≤ B.length + 10) ∧ Sat w [Z0 r 266 (Z6J a D.length c), (Za3 a D c), Z3 w (ZR (wrL r a0 c0 B)).fp] W_ ∧ m_ = m + 1) _ ⟨n, a0, c0, B, 10, (show ((vu n) : Value) = _ by first | rfl | go_num), ⟨by omega, by omega, hn⟩, rfl, by omega, H, rfl⟩ ?_
 rintro g1 w2 _ ⟨m, a, c, D, f, v4, hm, hD, hf, H3, rfl⟩
 refine Zd 1 _ v4 ?_
 refine Z5 <| zsl <| wv 5 (vu m) <| wv 6 (.bool (decide ((m : Int) ≥ 128))) <| znt ?_
 refine zid (fun b6 g7 => ?_) fun b6 g26 => ?_
 ·refine Zt <| ztn <| Za <| zsl <| wv 7 (pt r 0) <| wv 8 (pt r 0) <| wv 9 (pt r 0) <| wv 10 (pt r 0) <| zw1 11 (.slice a D.length c) (H3.cell 0 rfl rfl) <| wv 12 (vu m) ?_
  refine wv 13 (.int .u8 ((m : Int) % 256)) ?_ (hr := Z0g (z := (m : Int)) kr (by rw [Z49]))
  refine wv 14 (.int .u8 (bOr .u8 ((m : Int) % 256) 128)) <| zy <| Z2w 5 1 1 (.int .u8 (0)) [(0, (.int .u8 (bOr .u8 ((m : Int) % 256) 128)))] ([(.int .u8 (bOr .u8 ((m : Int) % 256) 128))] : List Value) H3 fun b10 w11 H12 => ?_
  have H13 := H12.ct 3 rfl (Zc 5 1 (.slice (some ⟨b10, 0, none⟩) 1 1) 1 ([UInt8.ofNat (bOr .u8 ((m : Int) % 256) 128).toNat].flatMap Zy)) (by rw [Z3H (by rw [Z9Q om]; omega)])
  refine kk <| zy <| Z00 (T := 84) (e := 5) (size := 1) (bytes := 1) rfl H13 kr 1 3 rfl rfl rfl rfl (ZX Zy Z0C [UInt8.ofNat (bOr .u8 ((m : Int) % 256) 128).toNat]) om om fun v15 w16 H17 => ?_
  have H20 := H17.ct 1 rfl (Zc 5 1 v15 ((D ++ [UInt8.ofNat (bOr .u8 ((m : Int) % 256) 128).toNat]).length) ((D ++ [UInt8.ofNat (bOr .u8 ((m : Int) % 256) 128).toNat]).flatMap Zy)) ja
  obtain ⟨a18, c19, rfl⟩ := Z2 (H20.at 1 rfl)
  refine kk <| wv 17 (pt r 0) <| wv 18 (pt r 0) <| zy <| Z3i (vs := (Z6J a18 ((D ++ [UInt8.ofNat (bOr .u8 ((m : Int) % 256) 128).toNat]).length) c19)) rfl H20 0 rfl rfl rfl rfl kr kn kn kr fun w22 H23 => ?_
  refine kk <| znt <| Zl <| wv 19 (vu m) <| wv 20 (vu ((m : Int) / 128)) ?_ (hr := Z5y rfl rfl (by decide) (by decide) (by decide))
  refine wv 1 (vu ((m : Int) / 128)) <| Zu <| Z7 ?_
  have hv := Z8U hm.2.1 (show 128 ≤ m by omega)
  have H25 := H23.pk [0, 1, 2]
  refine Z6 ?_ _ ⟨(m / 128), a18, c19, (D ++ [UInt8.ofNat (bOr .u8 ((m : Int) % 256) 128).toNat]), (f - 1), rfl, ⟨hv.1, hv.2.1, by omega⟩, (by rw [hv.2.2] at hD; simpa using hD), (by rw [List.length_append]; simp only [List.length_cons, List.length_nil]; omega), H25, rfl⟩ om
  exact zs
 refine zxb <| ztn <| zsl <| wv 21 (pt r 0) <| wv 22 (pt r 0) <| wv 23 (pt r 0) <| wv 24 (pt r 0) <| zw1 25 (.slice a D.length c) (H3.cell 0 rfl rfl) <| wv 26 (vu m) <| wv 27 (.int .u8 ((m : Int) % 256)) ?_ (hr := Z0g (z := (m : Int)) kr (by rw [Z49]))
 refine zy <| Z2w 5 1 1 (.int .u8 (0)) [(0, (.int .u8 ((m : Int) % 256)))] ([(.int .u8 ((m : Int) % 256))] : List Value) H3 fun b29 w30 H31 => ?_
 have H32 := H31.ct 3 rfl (Zc 5 1 (.slice (some ⟨b29, 0, none⟩) 1 1) 1 ([UInt8.ofNat ((m : Int) % 256).toNat].flatMap Zy)) (by rw [Z3H om])
 refine kk <| zy <| Z00 (T := 84) (e := 5) (size := 1) (bytes := 1) rfl H32 kr 1 3 rfl rfl rfl rfl (ZX Zy Z0C [UInt8.ofNat ((m : Int) % 256).toNat]) om om fun v34 w35 H36 => ?_
 have H39 := H36.ct 1 rfl (Zc 5 1 v34 ((D ++ [UInt8.ofNat ((m : Int) % 256).toNat]).length) ((D ++ [UInt8.ofNat ((m : Int) % 256).toNat]).flatMap Zy)) ja
 obtain ⟨a37, c38, rfl⟩ := Z2 (H39.at 1 rfl)
 refine kk <| wv 30 (pt r 0) <| wv 31 (pt r 0) <| zy <| Z3i (vs := (Z6J a37 ((D ++ [UInt8.ofNat ((m : Int) % 256).toNat]).length) c38)) rfl H39 0 rfl rfl rfl rfl kr kn kn kr ?_
 intro w41 (H42 : Sat w [Z0 r 266 (Z6J a37 ((D ++ [UInt8.ofNat ((m : Int) % 256).toNat]).length) c38), (Za3 a37 (D ++ [UInt8.ofNat ((m : Int) % 256).toNat]) c38), Z3 w (ZR (wrL r a0 c0 B)).fp, Zc 5 1 (.slice (some ⟨b29, 0, none⟩) 1 1) 1 ([UInt8.ofNat ((m : Int) % 256).toNat].flatMap Zy)] w41)
 refine kk <| Z0y <| wv 32 (pt r 0) <| wv 4 (pt r 0) <| znt <| Zq <| ze1 (pt r 0) ?_
 have hv := Z8z hm.1 (show m < 128 by omega)
 have hfin : (D ++ [UInt8.ofNat ((m : Int) % 256).toNat]) = B ++ Z2W n := by rw [← hD, hv]
 exact ⟨a37, c38, rfl, (H42.pick [0, 1, 2] (by decide)).cast (by show [_, _, _] = _; rw [hfin])⟩
theorem Z34 (w : World) (r : Nat) (a0 : Option Addr) (c0 : Nat) (B : List UInt8) (hB : (ZR (wrL r a0 c0 B)).ok w) (hl : B.length ≤ 1000000) (n : Int) (hn : n ≤ 9223372036854775807) :
  Calls Tryz.prog 141 #[(.pointer (some ⟨r, 0, none⟩)), (.int .i64 (n))] w fun e w' => ∃ a' c', e = .returned (.pointer (some ⟨r, 0, none⟩)) ∧ Sat w [Z0 r 266 [.slice a' (B ++ Z2W (max 0 n).toNat).length c'], Zc 5 1 (.slice a' (B ++ Z2W (max 0 n).toNat).length c') (B ++ Z2W (max 0 n).toNat).length ((B ++ Z2W (max 0 n).toNat).flatMap Zy), Z3 w (ZR (wrL r a0 c0 B)).fp] w' := by
 have H := Sat.start (wrL r a0 c0 B) hB
 obtain ⟨k, hk⟩ : ∃ k : Nat, (k : Int) = max 0 n := ⟨(max 0 n).toNat, by omega⟩
 refine Z8 Tryz.func141 rfl 10 rfl kn ?_
 refine zsl <| wv 4 (.pointer none) <| Z0y <| wv 5 (pt r 0) <| wv 6 (vi n) <| wv 7 (vi (max (0 : Int) n)) ?_ (hr := ZeJ (k := .i64) (a := 0) (b := n) (z := max (0 : Int) n) rfl rfl rfl)
 refine wv 8 (vu k) ?_ (hr := Z0g (z := max (0 : Int) n) kr ((by rw [← hk]; exact Z12 om)))
 refine zy <| zdc 9 (Zew w r a0 c0 B (H.fn [0, 1]) om k om) ?_
 rintro _ w2 ⟨a4, c5, rfl, T3⟩
 have H6 := H.tl [Z0 r 266 (Z6J a4 ((B ++ Z2W k).length) c5), (Za3 a4 (B ++ Z2W k) c5)] [0, 1] [2] T3 [0, 1, 2]
 refine ⟨_, rfl, ?_⟩
 refine kk <| wv 4 (pt r 0) <| znt <| Zq <| ze1 (pt r 0) ?_
 have hkn : (max 0 n).toNat = k := by omega
 exact ⟨a4, c5, rfl, by rw [hkn]; exact H6⟩
theorem Z4U (w : World) (r : Nat) (a0 : Option Addr) (c0 : Nat) (B : List UInt8) (hB : (ZR (wrL r a0 c0 B)).ok w) (hl : B.length ≤ 1000000) :
  Calls Tryz.prog 142 #[(.pointer (some ⟨r, 0, none⟩))] w fun e w' => ∃ u, e = .returned u ∧ Sat w [Z0 r 266 [.slice a0 B.length c0], Zc 5 1 (.slice a0 B.length c0) B.length (B.flatMap Zy), Zc 5 1 u B.length (B.flatMap Zy), Z3 w (ZR (wrL r a0 c0 B)).fp] w' := by
 have H := Sat.start (wrL r a0 c0 B) hB
 refine Z8 Tryz.func142 rfl 8 rfl kn ?_
 refine zsl <| wv 2 (.slice none 0 0) <| Z0y <| wv 3 (pt r 0) <| wv 4 (pt r 0) <| wv 5 (pt r 0) <| zw1 6 (.slice a0 B.length c0) (H.cell 0 rfl rfl) <| zy <| Z9N (T := 84) (e := 5) (size := 1) (bytes := 1) rfl H kr (H.at 1 rfl) rfl rfl (ZX Zy Z0C B) om om fun v2 w3 H4 => ?_
 obtain ⟨a5, c6, rfl⟩ := Z2 (H4.at 3 rfl)
 refine kk <| wv 2 (.slice a5 B.length c6) <| znt <| Zq <| ze1 (.slice a5 B.length c6) ?_
 exact ⟨_, rfl, H4.pk [0, 1, 3, 2]⟩
abbrev kRt_0 (p0 : Option Addr) (p1 : List UInt8) (p2 : Nat) : Ck := Zc 5 1 (.slice p0 p1.length p2) p1.length (p1.flatMap Zy)
theorem Zbg {f m : Nat} (hm : m < 128 ^ f) (h : 128 ≤ m) : 0 < f - 1 ∧ m / 128 < 128 ^ (f - 1) ∧ Zay f m = UInt8.ofNat ((m : Int) % 128 + 128).toNat :: Zay (f - 1) (m / 128) := by
 have := Z8U hm h
 rw [Z9Q om] at this
 exact this
theorem Z6j (w : World) (n : Nat) (hn : n < 18446744073709551616) :
  Calls Tryz.prog 113 #[(.int .u64 ((n : Int)))] w fun e w' => ∃ u, e = .returned u ∧ (Zc 5 1 u (Z2W n).length ((Z2W n).flatMap Zy)).ok w' ∧ Upd [] w w' ∧ ∀ q_, (Zc 5 1 u (Z2W n).length ((Z2W n).flatMap Zy)).fp q_ → w.heap.size ≤ q_ := by
 have H := Sat.start0 w
 refine Z8 Tryz.func113 rfl 20 rfl kn ?_
 refine zsl <| wv 2 (.slice none 0 0) <| Z0y <| wv 3 (.slice none 0 0) <| znt <| Z5 <| Za ?_
 have H1 := H.addNil 5 1
 refine Zw ([0] ++ List.range' 3 12) (fun F_ W_ m_ => ∃ (m : Nat) (a : Option Addr) (c : Nat) (D : List UInt8) (f : Nat), F_ 0 = (vu m) ∧ F_ 3 = (.slice a D.length c) ∧ (0 < f ∧ m < 128 ^ f ∧ m < 18446744073709551616) ∧ (D ++ Zay f m = Z2W n) ∧ (D.length + f ≤ 10) ∧ Sat w [Z3 w (fun _ => False), (kRt_0 a D c)] W_ ∧ m_ = m + 1) _ ⟨n, none, 0, [], 10, (show ((vu n) : Value) = _ by first | rfl | go_num), (by first | rfl | go_num), ⟨by omega, by omega, hn⟩, rfl, (by decide), H1, rfl⟩ ?_
 rintro g2 w3 _ ⟨m, a, c, D, f, v5, v6, hm, hD, hf, H4, rfl⟩
 refine Zd 0 _ v5 ?_
 refine Zd 3 _ v6 ?_
 refine Z5 <| zsl <| wv 4 (vu m) <| wv 5 (.bool (decide ((m : Int) ≥ 128))) <| znt ?_
 refine zid (fun b8 g9 => ?_) fun b8 g24 => ?_
 ·refine Zt <| ztn <| Za <| zsl <| wv 6 (.slice a D.length c) <| wv 7 (vu m) <| wv 8 (vu ((m : Int) % 128)) ?_ (hr := Z8s kr om om)
  refine wv 9 (.int .u8 ((m : Int) % 128)) ?_ (hr := Z0g (z := (m : Int) % 128) kr (Z7Y om))
  refine wv 10 (.int .u8 (((m : Int) % 128) + 128)) ?_ (hr := Z0g (z := ((m : Int) % 128) + 128) kr (Z7Y om))
  refine zy <| Z2w 5 1 1 (.int .u8 (0)) [(0, (.int .u8 (((m : Int) % 128) + 128)))] ([(.int .u8 (((m : Int) % 128) + 128))] : List Value) H4 fun b12 w13 H14 => ?_
  have H15 := H14.ct 2 rfl (Zc 5 1 (.slice (some ⟨b12, 0, none⟩) 1 1) 1 ([UInt8.ofNat (((m : Int) % 128) + 128).toNat].flatMap Zy)) (by rw [Z3H om])
  refine kk <| zy <| Z00 (T := 84) (e := 5) (size := 1) (bytes := 1) rfl H15 kr 1 2 rfl rfl rfl rfl (ZX Zy Z0C [UInt8.ofNat (((m : Int) % 128) + 128).toNat]) om om fun v17 w18 H19 => ?_
  have H22 := H19.ct 1 rfl (Zc 5 1 v17 ((D ++ [UInt8.ofNat (((m : Int) % 128) + 128).toNat]).length) ((D ++ [UInt8.ofNat (((m : Int) % 128) + 128).toNat]).flatMap Zy)) ja
  obtain ⟨a20, c21, rfl⟩ := Z2 (H22.at 1 rfl)
  refine kk <| wv 3 (.slice a20 ((D ++ [UInt8.ofNat (((m : Int) % 128) + 128).toNat]).length) c21) <| znt <| Zl <| wv 13 (vu m) <| wv 14 (vu ((m : Int) / 128)) ?_ (hr := Zeo kr om om (Z12 om))
  refine wv 0 (vu ((m : Int) / 128)) <| Zu <| Z7 ?_
  have hv := Zbg hm.2.1 (show 128 ≤ m by omega)
  have H23 := H22.pk [0, 1]
  refine Z6 ?_ _ ⟨(m / 128), a20, c21, (D ++ [UInt8.ofNat (((m : Int) % 128) + 128).toNat]), (f - 1), rfl, (show ((.slice a20 ((D ++ [UInt8.ofNat (((m : Int) % 128) + 128).toNat]).length) c21) : Value) = _ by first | rfl | go_num), ⟨hv.1, hv.2.1, by omega⟩, (by rw [hv.2.2] at hD; simpa using hD), (by rw [List.length_append]; simp only [List.length_cons, List.length_nil]; omega), H23, rfl⟩ om
  exact zs
 refine zxb <| ztn <| zsl <| wv 15 (.slice a D.length c) <| wv 16 (vu m) <| wv 17 (.int .u8 ((m : Int) % 256)) ?_ (hr := Z0g (z := (m : Int)) kr (by rw [Z49]))
 refine zy <| Z2w 5 1 1 (.int .u8 (0)) [(0, (.int .u8 ((m : Int) % 256)))] ([(.int .u8 ((m : Int) % 256))] : List Value) H4 fun b27 w28 H29 => ?_
 have H30 := H29.ct 2 rfl (Zc 5 1 (.slice (some ⟨b27, 0, none⟩) 1 1) 1 ([UInt8.ofNat ((m : Int) % 256).toNat].flatMap Zy)) (by rw [Z3H om])
 refine kk <| zy <| Z00 (T := 84) (e := 5) (size := 1) (bytes := 1) rfl H30 kr 1 2 rfl rfl rfl rfl (ZX Zy Z0C [UInt8.ofNat ((m : Int) % 256).toNat]) om om fun v32 w33 H34 => ?_
 have H37 := H34.ct 1 rfl (Zc 5 1 v32 ((D ++ [UInt8.ofNat ((m : Int) % 256).toNat]).length) ((D ++ [UInt8.ofNat ((m : Int) % 256).toNat]).flatMap Zy)) ja
 obtain ⟨a35, c36, rfl⟩ := Z2 (H37.at 1 rfl)
 refine kk <| wv 2 (.slice a35 ((D ++ [UInt8.ofNat ((m : Int) % 256).toNat]).length) c36) <| znt <| Zq <| ze1 (.slice a35 ((D ++ [UInt8.ofNat ((m : Int) % 256).toNat]).length) c36) ?_
 have hv := Z8z hm.1 (show m < 128 by omega)
 have hX : (D ++ [UInt8.ofNat ((m : Int) % 256).toNat]) = Z2W n := by rw [← hD, hv]
 exact ⟨_, rfl, (by rw [← hX]; exact H37.at 1 rfl), H37.upd 0 rfl [] ne, (by rw [← hX]; exact H37.fresh 0 rfl (fun _ h => h) 1 rfl rfl)⟩
theorem Z0Q (w : World) (n : Int) (hn : n ≤ 9223372036854775807) :
  Calls Tryz.prog 81 #[(.int .i64 (n))] w fun e w' => ∃ u, e = .returned u ∧ (Zc 5 1 u (Zi n).length ((Zi n).flatMap Zy)).ok w' ∧ Upd [] w w' ∧ ∀ q_, (Zc 5 1 u (Zi n).length ((Zi n).flatMap Zy)).fp q_ → w.heap.size ≤ q_ := by
 have H := Sat.start0 w
 obtain ⟨k, hk⟩ : ∃ k : Nat, (k : Int) = max n 0 := ⟨(max n 0).toNat, by omega⟩
 refine Z8 Tryz.func81 rfl 7 rfl kn ?_
 refine zsl <| wv 2 (.slice none 0 0) <| Z0y <| wv 3 (vi n) <| wv 4 (vi (max n 0)) ?_ (hr := ZeJ (k := .i64) (a := n) (b := 0) (z := max n 0) rfl rfl rfl)
 refine wv 5 (vu k) ?_ (hr := Z0g (z := max n 0) kr ((by rw [← hk]; exact Z12 om)))
 refine zy <| zdc 6 (Z6j w k om) ?_
 rintro _ w2 ⟨u3, rfl, k4, p5, q6⟩
 have H7 := H.addU p5 k4 q6
 obtain ⟨a8, c9, rfl⟩ := Z2 (H7.at 1 rfl)
 refine ⟨_, rfl, ?_⟩
 refine kk <| wv 2 (.slice a8 ((Z2W k).length) c9) <| znt <| Zq <| ze1 (.slice a8 ((Z2W k).length) c9) ?_
 have hX : (Z2W k) = Zi n := by unfold Zi; rw [show (max 0 n).toNat = k by omega]
 exact ⟨_, rfl, (by rw [← hX]; exact H7.at 1 rfl), H7.upd 0 rfl [] ne, (by rw [← hX]; exact H7.fresh 0 rfl (fun _ h => h) 1 rfl rfl)⟩
theorem Z4d (w : World) (v : Value) (s : List UInt8) (hs : ListAt Zy 1 w v s) (hl : s.length ≤ 1000000) :
  Calls Tryz.prog 80 #[v] w fun e w' => ∃ u, e = .returned u ∧ (Zc 5 1 u (ZK s).length ((ZK s).flatMap Zy)).ok w' ∧ Upd [] w w' ∧ ∀ q_, (Zc 5 1 u (ZK s).length ((ZK s).flatMap Zy)).fp q_ → w.heap.size ≤ q_ := by
 have H := Sat.start0 w
 obtain ⟨a, c, rfl⟩ := ListAt.len hs
 have hi10 := ZM (s.length : Int)
 refine Z8 Tryz.func80 rfl 8 rfl kn ?_
 refine zsl <| wv 2 (.slice none 0 0) <| Z0y <| wv 3 (.slice a s.length c) <| wv 4 (vi s.length) <| zy <| zdc 5 (Z0Q w (s.length : Int) om) ?_
 rintro _ w2 ⟨u3, rfl, k4, p5, q6⟩
 have H7 := H.addU p5 k4 q6
 obtain ⟨a8, c9, rfl⟩ := Z2 (H7.at 1 rfl)
 refine ⟨_, rfl, ?_⟩
 refine kk <| wv 6 (.slice a s.length c) <| zy <| Z4F (T := 84) (e := 5) (size := 1) (bytes := 1) rfl H7 kr Zk Z0C 1 rfl (ListAt.now H7 0 rfl hs) rfl rfl om om fun v11 w12 H14 => ?_
 have H13 := H14.ct 1 rfl (Zc 5 1 v11 (((Zi (s.length : Int)) ++ s).length) (((Zi (s.length : Int)) ++ s).flatMap Zy)) (by simp only [List.length_append, List.flatMap_append])
 obtain ⟨a15, c16, rfl⟩ := Z2 (H13.at 1 rfl)
 refine kk <| wv 2 (.slice a15 (((Zi (s.length : Int)) ++ s).length) c16) <| znt <| Zq <| ze1 (.slice a15 (((Zi (s.length : Int)) ++ s).length) c16) ?_
 have hX : ((Zi (s.length : Int)) ++ s) = ZK s := by unfold ZK Zi; rw [show (max 0 (s.length : Int)).toNat = s.length by omega]
 exact ⟨_, rfl, (by rw [← hX]; exact H13.at 1 rfl), H13.upd 0 rfl [] ne, (by rw [← hX]; exact H13.fresh 0 rfl (fun _ h => h) 1 rfl rfl)⟩
theorem Z1c (w : World) (v : Value) (vs : List Value) (ss : List (List UInt8)) (hv : ListAt Z9s 1 w v vs) (hs : Parts w vs ss) (hl : ss.flatten.length ≤ 1000000) (hk : vs.length ≤ 1000) :
  Calls Tryz.prog 79 #[v] w fun e w' => ∃ u, e = .returned u ∧ (Zc 5 1 u ss.flatten.length (ss.flatten.flatMap Zy)).ok w' ∧ Upd [] w w' ∧ ∀ q_, (Zc 5 1 u ss.flatten.length (ss.flatten.flatMap Zy)).fp q_ → w.heap.size ≤ q_ := by
 have H := Sat.start0 w
 obtain ⟨a0, c0, rfl⟩ := ListAt.len hv
 have hsl := hs.len
 refine Z8 Tryz.func79 rfl 18 rfl kn ?_
 refine zsl <| wv 2 (.slice none 0 0) <| Z0y <| wv 3 (.slice none 0 0) <| znt <| Z5 <| zsl <| wv 5 (.slice a0 vs.length c0) <| wv 6 (vi vs.length) <| wv 7 (vi 0) ?_
 refine znt <| Za ?_
 have H1 := H.addNil 5 1
 refine Zw ([3, 4] ++ List.range' 7 10) (fun F_ W_ m_ => ∃ (i : Nat) (a : Option Addr) (c : Nat) (D : List UInt8), F_ 7 = (vi i) ∧ F_ 3 = (.slice a D.length c) ∧ (i ≤ vs.length) ∧ (D = (ss.take i).flatten) ∧ Sat w [Z3 w (fun _ => False), (kRt_0 a D c)] W_ ∧ m_ = vs.length - i) _ ⟨0, none, 0, [], (show ((vi 0) : Value) = _ by first | rfl | go_num), (by first | rfl | go_num), (Nat.zero_le _), rfl, H1, rfl⟩ ?_
 rintro g2 w3 _ ⟨i, a, c, D, v5, v6, hi, hD, H4, rfl⟩
 refine Zd 7 _ v5 ?_
 refine Zd 3 _ v6 ?_
 refine zsl <| wv 8 (.bool (decide ((i : Int) < vs.length))) <| znt <| Z5 ?_
 refine zid (fun b8 g9 => ?_) fun b8 g23 => ?_
 ·refine Zt <| ztn <| Z5 <| Za <| zsl <| wv 9 (vi i) <| wv 4 (vi i) <| znt <| Zl <| wv 10 (.slice a D.length c) ?_
  refine wv 11 (.slice a0 vs.length c0) <| wv 12 (vi i) ?_
  obtain ⟨g11, o12, c13, e14, R15⟩ := SliceOf.atD hv undef (show i < vs.length by omega)
  refine wv 13 (.pointer (some ⟨g11, o12 + ((i : Int)).toNat * 1, none⟩)) ?_ (hr := Zh (E := 84) kr kr kn rfl e14 rfl om om)
  refine zw1 14 (vs.getD i undef) (H4.cellR 0 rfl (Z0P R15 0 kr (show o12 + ((i : Int)).toNat * 1 = o12 + i * 1 + 0 by omega)) (fun h => h)) <| zy <| Z4F (T := 84) (e := 5) (size := 1) (bytes := 1) rfl H4 kr Zk Z0C 1 rfl (ListAt.now H4 0 rfl (hs.get i (by have := hs.len; omega))) rfl rfl (by have := Zd6 ss (i := i) om; rw [hD]; omega) (by have := Zd6 ss (i := i) om; rw [hD]; omega) fun v17 w18 H20 => ?_
  have H19 := H20.ct 1 rfl (Zc 5 1 v17 ((D ++ (ss.getD i [])).length) ((D ++ (ss.getD i [])).flatMap Zy)) (by simp only [List.length_append, List.flatMap_append])
  obtain ⟨a21, c22, rfl⟩ := Z2 (H19.at 1 rfl)
  refine kk <| wv 3 (.slice a21 ((D ++ (ss.getD i [])).length) c22) <| Zu <| Z7 <| ztn <| Zl <| zwi 16 ((i : Int) + 1) <| wv 7 (vi ((i : Int) + 1)) <| Zu <| Z6 ?_ _ ⟨(i + 1), a21, c22, (D ++ (ss.getD i [])), rfl, (show ((.slice a21 ((D ++ (ss.getD i [])).length) c22) : Value) = _ by first | rfl | go_num), om, (by rw [hD, Z9f ss om]), H19, rfl⟩ om
  exact zs
 refine zxb <| ztn <| zsl <| wv 17 (.slice a D.length c) <| wv 2 (.slice a D.length c) <| znt <| Zq <| ze1 (.slice a D.length c) ?_
 have hX : D = ss.flatten := by rw [hD, List.take_of_length_le om]
 exact ⟨_, rfl, (by rw [← hX]; exact H4.at 1 rfl), H4.upd 0 rfl [] ne, (by rw [← hX]; exact H4.fresh 0 rfl (fun _ h => h) 1 rfl rfl)⟩
end Go.Proofs.YtenihpghfdcpkaaGreat
