/- WHAT IS PROVED: contracts and plain laws of Frame, FrameHash, TxtD, MinMax, Wr10. Conditions: stated with each. -/
import Derived.ProofKit
import Derived.OpenShut
import Derived.JoinedCond
import Derived.Deep.Slices
import Derived.Laws.IdiomStrings
import Derived.Lib.MinMax
import Derived.Test.YtoaifondpohniaaGreatPR03
import Derived.Test.YtoaifondpohniaaGreatPR04
import Derived.Test.YtoaifondpohniaaGreatPR05
set_option maxHeartbeats 4000000
set_option maxRecDepth 100000
namespace Go.Proofs.YtoaifondpohniaaGreat
open Go.ChangeShapes Go.WideShapes Go.ChangeAt Go.RowKit Go.Deep
section
variable {H : Type} {enc : TypeId × Value → H} {P : Program} {W : World}
theorem Z34 {α : Type} {p : Nat → α → Prop} : ∀ (n : Nat), (∀ i, i < n → ∃ x, p i x) → ∃ xs : List α, xs.length = n ∧ ∀ i (h : i < xs.length), p i xs[i]
 | 0, _ => ⟨[], rfl, fun i h => by simp at h⟩
 | k + 1, each => by
  obtain ⟨xs, h1, h2⟩ := Z34 k (fun i hi => each i (by omega))
  obtain ⟨x, hx⟩ := each k (by omega)
  refine ⟨xs ++ [x], by simp [h1], fun i hi => ?_⟩
  by_cases hik : i < xs.length
  ·rw [List.getElem_append_left hik]; exact h2 i hik
  ·have : i = k := by simp at hi; omega
   subst this
   rw [List.getElem_append_right (by omega)]
   simpa using hx
theorem Z3v {α : Type} {R : World → Addr → α → Prop} {t e : TypeId} {sz : Nat} (ht : P.underlying t = some (.slice e)) (hc : P.cellsOf e = sz) (hpos : 0 < sz) {v : Value} {d : DataW H} {ps : List MemPlace} (hv : ∃ a len cap, v = .slice a len cap)
  (h : DataW.Trod enc P W 0 (fun _ => true) true t v d ps)
  (hel : ∀ (cs : List Value) (n : Nat) (y : DataW H × List MemPlace) (b off : Nat), cs.length = sz → (∀ j (hj : j < cs.length), W.cell? ⟨b, off + j, none⟩ = some cs[j]) → DataW.trod enc P W 0 (fun _ => true) true n e cs = some y → ∃ x, R W ⟨b, off, none⟩ x) :
  ∃ xs, SliceOf R sz W v xs := by
 obtain ⟨a, len, cap, rfl⟩ := hv
 obtain ⟨fuel, h⟩ := h
 rcases open_slice ht h with ⟨h0, _⟩ | ⟨ad, len', cap', m, n, D, Pl, h0, _, hl, hm, hmm, _, hx⟩
 ·simp only [Value.cells, List.cons.injEq, Value.slice.injEq, and_true] at h0
  obtain ⟨rfl, rfl, rfl⟩ := h0
  exact ⟨[], SliceOf.nil⟩
 ·simp only [Value.cells, List.cons.injEq, Value.slice.injEq, and_true] at h0
  obtain ⟨rfl, rfl, rfl⟩ := h0
  simp only [if_true] at hmm
  subst hmm
  rcases Nat.eq_zero_or_pos len with h0 | h0
  ·subst h0
   exact ⟨[], .inl ⟨_, _, rfl, rfl, hm, by simp⟩⟩
  ·rw [hc] at hx
   have hspot : ad.spot = none := by
    obtain ⟨cs, h1, _⟩ := hx 0 (by omega)
    obtain ⟨_, hlen, hcs⟩ := World.cells?_some h1
    have h2 := hcs 0 hpos
    rw [Nat.zero_mul] at h2
    simp only [Addr.add, if_true] at h2
    have h3 : cs[0]? = some cs[0] := List.getElem?_eq_getElem (by omega)
    rw [h3] at h2
    unfold World.cell? at h2
    split at h2
    ·cases hs : ad.spot with
     | none => rfl
     | some _ => simp [hs] at h2
    ·cases h2
   obtain ⟨b, off, sp⟩ := ad
   simp only at hspot
   subst hspot
   have each : ∀ i, i < len → ∃ x, R W ⟨b, off + i * sz, none⟩ x := by
    intro i hi
    obtain ⟨cs, h1, h2⟩ := hx i (by omega)
    obtain ⟨_, hlen, hcs⟩ := World.cells?_some h1
    refine hel cs n _ b (off + i * sz) hlen (fun j hj => ?_) h2
    have h3 := hcs j (by omega)
    rw [Addr.add_lit, Addr.add_lit, List.getElem?_eq_getElem hj] at h3
    exact h3
   obtain ⟨x0, _⟩ := each 0 h0
   have := Z34 len each
   obtain ⟨xs, h1, h2⟩ := this
   exact ⟨xs, .inr ⟨by omega, b, off, _, by rw [h1], ⟨by omega, hm⟩, h2⟩⟩
theorem Z08 {n : Nat} {t : TypeId} {k : IntKind} {cs : List Value} {y : DataW H × List MemPlace} (ht : P.underlying t = some (.int k)) (h : DataW.trod enc P W 0 (fun _ => true) true n t cs = some y) : ∃ z, cs = [.int k z] ∧ (Lit.int k z).wf = true := by
 obtain ⟨z, h1, _, h2⟩ := DataW.trod_int ht h
 exact ⟨z, h1, h2⟩
theorem Z5X {z : Int} (h : (Lit.int .i64 z).wf = true) : -9223372036854775808 ≤ z ∧ z ≤ 9223372036854775807 := by
 simpa [Lit.wf, IntKind.min, IntKind.max, IntKind.signed, IntKind.bits] using h
theorem wf_u8 {z : Int} (h : (Lit.int .u8 z).wf = true) : 0 ≤ z ∧ z ≤ 255 := by
 simpa [Lit.wf, IntKind.min, IntKind.max, IntKind.signed, IntKind.bits] using h
theorem Z1L {n : Nat} {t e : TypeId} {cs : List Value} {y : DataW H × List MemPlace} (ht : P.underlying t = some (.slice e)) (h : DataW.trod enc P W 0 (fun _ => true) true n t cs = some y) : ∃ a len cap, cs = [.slice a len cap] := by
 rcases DataW.trod_slice ht h with ⟨rfl, _⟩ | ⟨a, len, cap, _, _, _, _, rfl, _⟩
 ·exact ⟨_, _, _, rfl⟩
 ·exact ⟨_, _, _, rfl⟩
theorem Z4D (hl : laidOutB P = true) {W' : World} (hb : Below W.heap.size W W') : ∀ {ts : List TypeId} {vs : List Value} {ds : List (DataW H)} {ps : List MemPlace}, ts.all (fun t => P.readableRec t && decide (t < P.types.size)) = true →
  DataW.TrodAll enc P W 0 (fun _ => true) true ts vs ds ps → (∀ x ∈ ps, x.block < W.heap.size) → DataW.TrodAll enc P W' 0 (fun b => decide (b < W.heap.size)) true ts vs ds ps
 | [], _, _, _, _, h, _ => by
  obtain ⟨rfl, rfl, rfl⟩ := trodAll_nil h
  exact trodAll_mk0
 | t :: ts, _, _, _, hr, h, hlt => by
  obtain ⟨v, vs, d, ds, p, q, rfl, rfl, rfl, h1, h2⟩ := trodAll_cons h
  simp only [List.all_cons, Bool.and_eq_true, decide_eq_true_eq] at hr
  exact trodAll_cons_mk (Below.trod hl hr.1.1 hr.1.2 h1 hb fun x hx => hlt x (List.mem_append_left _ hx)) (Z4D hl hb hr.2 h2 fun x hx => hlt x (List.mem_append_right _ hx))
theorem Zbl {f : Func} {s : ChangeSpec} {W' : World} {args : Array Value} {ds gs : List (DataW H)} {before : List MemPlace} {tb : TypeId} (hv : s.vars = []) (hres : f.resultTypes = #[tb]) (hbool : P.underlying tb = some .bool) (hl : laidOutB P = true)
  (hr : f.params.toList.all (fun t => P.readableRec t && decide (t < P.types.size)) = true) (hW : DataW.Whole enc P f.params.toList s.vars false W args.toList ds gs before)
  (hs : (s.fn H (ds ++ gs)).results = [.lit (.bool true)] ∧ (s.fn H (ds ++ gs)).args = ds ∧ (s.fn H (ds ++ gs)).vars = []) (hb : Below W.heap.size W W') : s.post enc P f false true false false W args (.bool true) W' := by
 have hlt := hW.lt
 obtain ⟨p, q, hA, hV, rfl, hfz, hnd⟩ := hW
 have hV' := hV
 rw [hv] at hV'
 obtain ⟨rfl, rfl⟩ := trodVars_none hV'
 refine ⟨ds, [], p ++ [], [], p, [], ⟨p, [], hA, hV, rfl, hfz, hnd⟩, ?_, ?_, ?_, hb.frame _, fun h => by cases h⟩
 ·rw [hs.1, hres]
  exact trodAll_mk1 (shut_bool hbool true)
 ·rw [hs.2.1]
  exact Z4D hl hb hr hA fun x hx => hlt x (by simpa using hx)
 ·rw [hs.2.2, hv]
  rfl
end
section
variable {H : Type} {enc : TypeId × Value → H} {W : World}
theorem Z4K {n : Nat} {cs : List Value} {y : DataW H × List MemPlace} (h : DataW.trod enc Tryz.prog W 0 (fun _ => true) true n 26 cs = some y) : ∃ a : Hash, cs = hc a := by
 obtain ⟨xs, m, _, _, hl, hx, hf⟩ := DataW.trod_array (n := 32) (e := 5) (by kernel_rfl) h
 have hl' : cs.length = 32 := hl
 have each : ∀ i, i < 32 → ∃ z : UInt8, cs[i]? = some (Z42 z) := by
  intro i hi
  have h1 := hf i hi
  have hxi : xs[i]? = some xs[i] := List.getElem?_eq_getElem (by omega)
  rw [hxi] at h1
  obtain ⟨z, hz, hw⟩ := Z08 (k := .u8) (by kernel_rfl) h1
  have hb := wf_u8 hw
  have h2 : cs[i]? = some (.int .u8 z) := by
   have h3 := congrArg (fun l => l[0]?) hz
   simp only [show Tryz.prog.cellsOf 5 = 1 by kernel_rfl, Nat.mul_one] at h3
   rw [List.getElem?_take, List.getElem?_drop] at h3
   simpa using h3
  refine ⟨UInt8.ofNat z.toNat, ?_⟩
  have e1 : ((UInt8.ofNat z.toNat).toNat : Int) = z := by simp; omega
  simp only [Z42, e1]
  exact h2
 obtain ⟨zs, hzl, hz⟩ := Z34 32 each
 refine ⟨⟨zs, hzl⟩, ?_⟩
 rw [Z8a]
 refine List.ext_getElem (by simp [hl', hzl]) fun i h1 h2 => ?_
 have h3 := hz i (by simpa using h2)
 rw [List.getElem?_eq_getElem h1] at h3
 simpa using h3
end
theorem Z4S {P : Program} {w : World} {r : Reach} {base : Nat} {t : TypeId} {v : Value} (ht : Z6z P t = true) (h : Value.okWide P w r base t v) : ∃ cs, v = .agg cs := by
 unfold Z6z at ht
 unfold Value.okWide at h
 split at ht
 ·rename_i hu; rw [hu] at h; obtain ⟨cs, h1, _⟩ := h; exact ⟨cs, h1⟩
 ·rename_i hu; rw [hu] at h; obtain ⟨cs, h1, _⟩ := h; exact ⟨cs, h1⟩
 ·cases ht
end Go.Proofs.YtoaifondpohniaaGreat
namespace Go.Proofs.YtoaifondpohniaaGreat
open Go.RowKit
def Z7T (v : Value) : List Value := [v]
theorem Z1B (v : Value) : (Z7T v).length = 1 := rfl
section
variable {w w' w0 : World} {v : Value} {s : List UInt8} {vs : List Value} {ss : List (List UInt8)} {G : List Ck}
structure Parts (w : World) (vs : List Value) (ss : List (List UInt8)) : Prop where
 len : vs.length = ss.length
 get : ∀ i, i < vs.length → ListAt ZN 1 w (vs.getD i undef) (ss.getD i [])
theorem Parts.nil : Parts w [] [] := ⟨rfl, fun i h => by simp at h⟩
theorem Parts.cons (h : ListAt ZN 1 w v s) (t : Parts w vs ss) : Parts w (v :: vs) (s :: ss) := ⟨by simp [t.len], fun i hi => by
 cases i with
 | zero => exact h
 | succ i => exact t.get i (by simpa using hi)⟩
theorem Z5u (ss : List (List UInt8)) {i : Nat} (h : i < ss.length) : (ss.take (i + 1)).flatten = (ss.take i).flatten ++ ss.getD i [] := by
 rw [List.take_add_one, List.getElem?_eq_getElem h, List.flatten_append, List.getD_eq_getElem?_getD, List.getElem?_eq_getElem h]
 simp
theorem Z6F (ss : List (List UInt8)) {i : Nat} (h : i < ss.length) : (ss.take i).flatten.length + (ss.getD i []).length ≤ ss.flatten.length := by
 have h1 := congrArg List.length (Z5u ss h)
 have h2 : ss.flatten = (ss.take (i + 1)).flatten ++ (ss.drop (i + 1)).flatten := by rw [← List.flatten_append, List.take_append_drop]
 rw [List.length_append] at h1
 rw [h2, List.length_append]; omega
def Z4E (v : Value) (s : List UInt8) : Ck where
 fp b := 0 < s.length ∧ v.ownBlock = some b
 ok w := BytesAt w v s
 stay {w w'} h hb := by
  rcases h with h | ⟨h0, b, off, cap, rfl, hn, h⟩
  ·exact .inl h
  ·refine .inr ⟨h0, b, off, cap, rfl, hn, fun i hi => ?_⟩
   have := h i hi
   unfold Z69 World.cell? at this ⊢
   rw [hb b ⟨h0, rfl⟩]; exact this
 lt {w} h b hb := by
  obtain ⟨h0, hb⟩ := hb
  obtain ⟨b', off, cap, rfl, _, h⟩ := SliceOf.some h h0
  have := h 0 h0
  simp only [Value.ownBlock, Option.some.injEq] at hb
  subst hb
  unfold Z69 World.cell? at this
  by_cases hl : b' < w.heap.size
  ·exact hl
  ·rw [Array.getElem?_eq_none (show w.heap.size ≤ b' by omega)] at this; simp at this
theorem ListAt.ofTxt (h : (Z4E v s).ok w) : ListAt ZN 1 w v s := Z6e h
theorem ListAt.ofHash {x : Hash} {b o c : Nat} (h : Z2Q w ⟨b, o, none⟩ (hc x)) (hc' : 32 ≤ c ∧ c ≤ maxLen) : ListAt ZN 1 w (.slice (some ⟨b, o, none⟩) 32 c) x.l := by
 refine Z6e (.inr ⟨by rw [x.len]; decide, b, o, c, by rw [x.len], by rw [x.len]; exact hc', fun i hi => ?_⟩)
 have := h i (Z42 x.l[i]) (by rw [Z8a, List.getElem?_map, List.getElem?_eq_getElem hi]; rfl)
 rw [Addr.add_lit] at this
 unfold Z69; rw [Nat.mul_one]; exact this
theorem Z2R {w : World} {b T o : Nat} {cs us : List Value} (h : (Z0 b T cs).ok w) (hu : (cs.drop o).take us.length = us) : Z2Q w ⟨b, o, none⟩ us := by
 intro j v hj
 rw [Addr.add_lit, Z19 h]
 rw [← hu, List.getElem?_take] at hj
 split at hj
 ·rw [List.getElem?_drop] at hj; simpa using hj
 ·cases hj
theorem Sat.offP {A : Ck} {B : List Ck} (H : Sat w0 G w) (is : List Nat) (t : Nat) (hB : (is.filterMap fun i => G[i]?) = B) (ht : G[t]? = some A) (hne : is.all (fun i => !Nat.beq t i) = true) {b : Nat} (hb : A.fp b) : ¬ (Z0c B).fp b := by
 rintro ⟨C, hC, hfp⟩
 rw [← hB] at hC
 obtain ⟨i, him, hiC⟩ := List.mem_filterMap.1 hC
 have := List.all_eq_true.1 hne i him
 exact H.apart t i ht hiC (by simpa using this) b hb hfp
theorem Z6W {B : List Ck} {n c : Nat} {a : Option Addr} (h : ∀ b, (Z4E (.slice a n c) s).fp b → ¬ (Z0c B).fp b) : 0 < s.length → ∀ ad, a = some ad → ¬ (Z0c B).fp ad.block := fun h0 ad ha => h _ ⟨h0, by subst ha; rfl⟩
end
section
variable {P : Program} {n : Nat} {f : Nat → Value} {w w0 : World} {dst : Option Tmp} {ty : TypeId} {pos : String} {aft : Array Edge} {gd : Option (Nat × Bool)} {K : Act → World → Prop} {Q : Exit → Act → World → Prop} {G : List Ck}
theorem Z9T {S D e : TypeId} {x : Operand} {d : Nat} {s : List UInt8} (hd : dst = some d) (H : Sat w0 G w) (hs : P.underlying S = some .string) (hD : P.underlying D = some (.slice e)) (he : P.underlying e = some (.int .u8)) (hx : ev n f x = Z2O s) (hl : s.length ≤ 1000000) (h0 : 0 < s.length)
  (kk : ∀ b c w', Sat w0 (G ++ [Z4E (.slice (some ⟨b, 0, none⟩) s.length c) s]) w' → K (fr n (upd f d (.slice (some ⟨b, 0, none⟩) s.length c))) w') : WO P ⟨dst, .convert S D x, ty, pos, aft, gd⟩ K Q n f w := by
 have hsz : (⟨s.toArray⟩ : ByteArray).size = s.length := by simp [ByteArray.size]
 have hr := run_bytes_of_string (P := P) w S D e ⟨s.toArray⟩ hs hD he
 rw [hsz] at hr
 obtain ⟨C, hC⟩ : ∃ C, C = Obj.cells (bytesRow ⟨s.toArray⟩ (grownCap w s.length 0 e)) e ((bytesRow ⟨s.toArray⟩ (grownCap w s.length 0 e)).size, (bytesRow ⟨s.toArray⟩ (grownCap w s.length 0 e)).size + 1) := ⟨_, rfl⟩
 obtain ⟨w1, hw⟩ : ∃ w1 : World, w1 = w.drew.alloc C := ⟨_, rfl⟩
 rw [← hC, ← hw] at hr
 have hh : w1.heap = w.heap.push C := by rw [hw]; rfl
 refine Z4i hd (v := .slice (some ⟨w.heap.size, 0, none⟩) s.length (grownCap w s.length 0 e)) (w' := w1) (by simp [execOp, hx, Z2O, hr, Result.andThen]) (kk _ _ _ (H.add ⟨by rw [hw]; rfl, by rw [hw]; rfl, by rw [hw]; rfl, by rw [hh]; simp⟩ (fun b hb => by rw [hh, Array.getElem?_push]; simp; omega) ?_ (fun b hb => ?_)))
 ·refine .inr ⟨h0, _, 0, _, rfl, ⟨grownCap_ge _ _ _ _, grownCap_le_maxLen _ _ _ _ (by unfold maxLen; omega)⟩, fun i hi => ?_⟩
  unfold Z69 World.cell?
  simp only [hh, Array.getElem?_push, if_true, Nat.zero_add, Nat.mul_one, hC]
  simp [bytesRow, Array.getElem?_append, hi, Z42]
 ·simp only [Z4E, Value.ownBlock, Option.some.injEq] at hb; omega
theorem Z1T {S e : TypeId} {x : Operand} {d : Nat} {s : List UInt8} {g c : Nat} (hd : dst = some d) (H : Sat w0 G w) (i : Nat) (hi : G[i]? = some (ZH e 1 (.slice (some ⟨g, 0, none⟩) s.length c) s.length (s.flatMap ZN))) (hS : P.underlying S = some (.slice e)) (he : P.underlying e = some (.int .u8)) (hx : ev n f x = .slice (some ⟨g, 0, none⟩) s.length c)
  (kk : ∀ w', Sat w0 (G.set i (Z4E (.slice (some ⟨g, 0, none⟩) s.length c) s)) w' → K (fr n (upd f d (.slice (some ⟨g, 0, none⟩) s.length c))) w') : WO P ⟨dst, .convert S S x, ty, pos, aft, gd⟩ K Q n f w := by
 have hok := H.at i hi
 have hL := ListAt.row (enc := ZN) (sz := 1) (xs := s) ZE (by decide) hok
 rcases hok.2 with ⟨hv, _⟩ | ⟨g', cap, cur, hv, _, hgg, hcap, hm, hcs, htake⟩
 ·simp at hv
 simp only [Value.slice.injEq, Option.some.injEq, Addr.mk.injEq] at hv
 obtain ⟨⟨rfl, _⟩, _, rfl⟩ := hv
 have hsh : w.shape? g = some (e, cur.size) := by unfold World.shape?; rw [hgg]
 have hlt := Z0D hgg
 have hr : (convert S S (.slice (some ⟨g, 0, none⟩) s.length c)).run P w = .ok (.slice (some ⟨g, 0, none⟩) s.length c) (w.freeze ⟨g, cur.size, none⟩ 1) := by
  simp [convert, run_underlying hS, run_underlying he, markStringish, hsh]
 have hh : (w.freeze ⟨g, cur.size, none⟩ 1).heap = w.heap.modify g fun
   | .cells c elem (lo, hi) => .cells c elem (if lo == hi then (cur.size, cur.size + 1) else (min lo cur.size, max hi (cur.size + 1)))
   | o => o := by unfold World.freeze; rw [if_neg (by decide)]; rfl
 have hne : ∀ b, b ≠ g → (w.freeze ⟨g, cur.size, none⟩ 1).heap[b]? = w.heap[b]? := fun b hb => by
  rw [hh, Array.getElem?_modify, if_neg (fun h => hb h.symm)]
 have hcell : ∀ p, (w.freeze ⟨g, cur.size, none⟩ 1).cell? p = w.cell? p := fun p => by
  unfold World.cell?
  by_cases hb : p.block = g
  ·rw [hb, hh, Array.getElem?_modify, if_pos rfl, hgg]; rfl
  ·rw [hne _ hb]
 refine Z4i hd (w' := w.freeze ⟨g, cur.size, none⟩ 1) (by simp [execOp, hx, hr, Result.andThen]) (kk _ (H.set i hi ⟨by unfold World.freeze; rw [if_neg (by decide)], by unfold World.freeze; rw [if_neg (by decide)], by unfold World.freeze; rw [if_neg (by decide)], by rw [hh]; simp⟩ (fun b _ hb => hne b fun h => hb (by subst h; rfl)) ?_ (fun b hb => .inl ?_)))
 ·exact Z25 (hL.mono fun p x hx => by rw [hcell]; exact hx)
 ·obtain ⟨_, hb⟩ := hb
  exact hb
end
structure Z5 where
 r : Int
 cl : Int
 seq : Int
 h : Hash
 t : Int
 sb : Int
 sm : Int
structure Zg where
 cl : Int
 seq : Int
 h : Hash
 len : Int
 sb : Int
 sm : Int
def Z0J (s : Z5) : List Value := [.int .i64 s.r, .int .i64 s.cl, .int .i64 s.seq] ++ hc s.h ++ [.int .u64 s.t, .int .i64 s.sb, .int .i64 s.sm]
theorem Z2r (s : Z5) : (Z0J s).length = 38 := by simp [Z0J]
theorem Z5t (s : Z5) : (Z0J s).all (·.oneCell') = true := by
 simp only [Z0J, List.all_append, Z8a]
 simp [Value.oneCell', Z42]
def Z9 : Z5 := ⟨0, 0, 0, Z0d, 0, 0, 0⟩
def Z61 (s : Zg) : List Value := [.int .i64 s.cl, .int .i64 s.seq] ++ hc s.h ++ [.int .i64 s.len, .int .i64 s.sb, .int .i64 s.sm]
def Zh (n : Int) : List UInt8 := Z0W (max 0 n).toNat
def ZM (s : List UInt8) : List UInt8 := Z0W s.length ++ s
def ZT (a b : Int) : List UInt8 := [Zh a, Zh b].flatten
def Z15 (s : Z5) : List UInt8 := [Zh s.r, ZT s.cl s.seq, s.h.l, Z0W s.t.toNat].flatten
def Zz (s : Z5) : List UInt8 := [ZM [115, 116, 97, 109, 112], Z15 s].flatten
def Zv (s : Zg) : List UInt8 := [ZM [114, 101, 113, 117, 101, 115, 116], Zh s.cl, Zh s.seq, s.h.l, Zh s.len].flatten
theorem Z1M (n : Nat) : (Z0W n).length ≤ 10 := Z98 10 n
theorem ZD (n : Int) : (Zh n).length ≤ 10 := Z98 10 _
theorem Z1X (a b : Int) : (ZT a b).length ≤ 20 := by
 have h1 := ZD a; have h2 := ZD b
 simp only [ZT, List.flatten_cons, List.flatten_nil, List.length_append, List.length_nil]; omega
theorem Z3q (s : Z5) : (Z15 s).length ≤ 72 := by
 have h1 := ZD s.r; have h2 := Z1X s.cl s.seq; have h3 := s.h.len; have h4 := Z1M s.t.toNat
 simp only [Z15, List.flatten_cons, List.flatten_nil, List.length_append, List.length_nil]; omega
theorem Z1d (s : List UInt8) : (ZM s).length ≤ 10 + s.length := by
 have := Z1M s.length
 simp only [ZM, List.length_append]; omega
section
variable {P : Program} {n : Nat} {f : Nat → Value} {w : World} {dst : Option Tmp} {ty : TypeId} {pos : String} {aft : Array Edge} {gd : Option (Nat × Bool)}
theorem e_minI {T : Array TypeId} {x y : Operand} {k : IntKind} {a b z : Int} (hx : ev n f x = .int k a) (hy : ev n f y = .int k b) (hz : min a b = z) :
  (execOp (ev n f) ⟨dst, .call { callee := .builtin .min, args := #[x, y], argTypes := T }, ty, pos, aft, gd⟩).run P w = .ok (.value (.int k z)) w := by
 have := Lib.run_min_ints (P := P) w T ty k k a b
 subst hz
 simp [execOp, resolve, invoke, builtin, hx, hy, this, Result.andThen]
theorem e_min {T : Array TypeId} {x y : Operand} {k : IntKind} {a b z : Int} (hx : ev n f x = .int k a) (hy : ev n f y = .int k b) (hz : min a b = z) :
  (execOp (ev n f) ⟨dst, .call { callee := .builtin .min, args := #[x, y], argTypes := T }, ty, pos, aft, gd⟩).run P w = .ok (.value (.int k z)) w := e_minI hx hy hz
theorem ZbO {T : Array TypeId} {x y : Operand} {k : IntKind} {a b z : Int} (hx : ev n f x = .int k a) (hy : ev n f y = .int k b) (hz : max a b = z) :
  (execOp (ev n f) ⟨dst, .call { callee := .builtin .max, args := #[x, y], argTypes := T }, ty, pos, aft, gd⟩).run P w = .ok (.value (.int k z)) w := by
 have := Lib.run_max_ints (P := P) w T ty k k a b
 subst hz
 simp [execOp, resolve, invoke, builtin, hx, hy, this, Result.andThen]
end
abbrev Z5D (p0 : Option Addr) (p1 : Nat) (p2 : Nat) : List Value := ([(.slice p0 p1 p2)] : List Value)
abbrev Z8j (p0 : Option Addr) (p1 : List UInt8) (p2 : Nat) : Ck := ZH 5 1 (.slice p0 p1.length p2) p1.length (p1.flatMap ZN)
theorem Z7O {f m : Nat} (hm : m < 128 ^ f) (h : 128 ≤ m) : 0 < f - 1 ∧ m / 128 < 128 ^ (f - 1) ∧ Z97 f m = UInt8.ofNat (bOr .u8 ((m : Int) % 256) 128).toNat :: Z97 (f - 1) (m / 128) := by
 cases f with
 | zero => simp at hm; omega
 | succ f =>
  have h1 : m / 128 < 128 ^ f := Nat.div_lt_of_lt_mul (by rw [Nat.pow_succ] at hm; omega)
  refine ⟨?_, h1, ?_⟩
  ·cases f with
   | zero => simp at h1; omega
   | succ f => simp
  rw [Z8p (by omega), show (((m : Int) % 128 + 128).toNat) = m % 128 + 128 by omega]
  conv => lhs; unfold Z97
  rw [if_neg (by omega)]; rfl
theorem Z7N {f m : Nat} (hf : 0 < f) (h : m < 128) : Z97 f m = [UInt8.ofNat ((m : Int) % 256).toNat] := by
 cases f with
 | zero => omega
 | succ f => unfold Z97; rw [if_pos h, show ((m : Int) % 256).toNat = m by omega]
def wrL (r : Nat) (a : Option Addr) (c : Nat) (B : List UInt8) : List Ck := [Z0 r 174 [.slice a B.length c], ZH 5 1 (.slice a B.length c) B.length (B.flatMap ZN)]
theorem Z4G (w : World) (r : Nat) (a0 : Option Addr) (c0 : Nat) (B : List UInt8) (hB : (Z0c (wrL r a0 c0 B)).ok w) (hl : B.length ≤ 1000000) (n : Nat) (hn : n < 18446744073709551616) :
  Calls Tryz.prog 85 #[(.pointer (some ⟨r, 0, none⟩)), (.int .u64 ((n : Int)))] w fun e w' => ∃ a' c', e = .returned (.pointer (some ⟨r, 0, none⟩)) ∧ Sat w [Z0 r 174 [.slice a' (B ++ Z0W n).length c'], ZH 5 1 (.slice a' (B ++ Z0W n).length c') (B ++ Z0W n).length ((B ++ Z0W n).flatMap ZN), Z6 w (Z0c (wrL r a0 c0 B)).fp] w' := by
 have H := Sat.start (wrL r a0 c0 B) hB
 refine Zp Tryz.func85 rfl 33 rfl (Nat.le_of_ble_eq_true rfl) ?_
 apply zsl
 refine wv 4 (.pointer none) ?_
 apply znt
 apply Zt
 apply ZG
 refine Z02 ([1] ++ List.range' 5 16) (fun F_ W_ m_ => ∃ (m : Nat) (a : Option Addr) (c : Nat) (D : List UInt8) (f : Nat), F_ 1 = (.int .u64 ((m : Int))) ∧ (0 < f ∧ m < 128 ^ f ∧ m < 18446744073709551616) ∧ (D ++ Z97 f m = B ++ Z0W n) ∧ (D.length + f ≤ B.length + 10) ∧ Sat w [Z0 r 174 (Z5D a D.length c), (Z8j a D c), Z6 w (Z0c (wrL r a0 c0 B)).fp] W_ ∧ m_ = m + 1) _ ⟨n, a0, c0, B, 10, (show ((.int .u64 ((n : Int))) : Value) = _ by first | rfl | go_num), ⟨by omega, by omega, hn⟩, rfl, by omega, H, rfl⟩ ?_
 rintro g1 w2 _ ⟨m, a, c, D, f, v4, hm, hD, hf, H3, rfl⟩
 refine ZF 1 _ v4 ?_
 apply Zt
 apply zsl
 refine wv 5 (.int .u64 ((m : Int))) ?_
 refine wv 6 (.bool (decide ((m : Int) ≥ 128))) ?_
 apply znt
 refine (Zl (decide ((m : Int) ≥ 128))).elim (fun b6 => ?_) (fun b6 => ?_)
 ·have g7 := of_decide_eq_true b6
  refine Z1o _ b6 ?_
  apply ZL
  apply ztn
  apply ZG
  apply zsl
  refine wv 7 (pt r 0) ?_
  refine wv 8 (pt r 0) ?_
  refine wv 9 (pt r 0) ?_
  refine wv 10 (pt r 0) ?_
  refine zw1 11 (.slice a D.length c) (H3.cell 0 rfl rfl) ?_
  refine wv 12 (.int .u64 ((m : Int))) ?_
  refine wv 13 (.int .u8 ((m : Int) % 256)) ?_ (hr := Z0I (z := (m : Int)) (by kernel_rfl) (by rw [Z3h]))
  refine wv 14 (.int .u8 (bOr .u8 ((m : Int) % 256) 128)) ?_
  refine zwd fun Kq kq => ?_
  refine Z3o 5 1 1 (.int .u8 (0)) [(0, (.int .u8 (bOr .u8 ((m : Int) % 256) 128)))] ([(.int .u8 (bOr .u8 ((m : Int) % 256) 128))] : List Value) H3 ?_
  intro b10 w11 H12
  have H13 := H12.ct 3 rfl (ZH 5 1 (.slice (some ⟨b10, 0, none⟩) 1 1) 1 ([UInt8.ofNat (bOr .u8 ((m : Int) % 256) 128).toNat].flatMap ZN)) (by rw [Z4f (by rw [Z8p (by omega)]; omega)])
  refine kq _ _ ?_
  clear kq Kq
  refine zwd fun Kq kq => ?_
  refine Z14 (T := 62) (e := 5) (size := 1) (bytes := 1) rfl H13 (by kernel_rfl) 1 3 rfl rfl rfl rfl (Z0U ZN Z1h [UInt8.ofNat (bOr .u8 ((m : Int) % 256) 128).toNat]) (by omega) (by omega) ?_
  intro v15 w16 H17
  have H20 := H17.ct 1 rfl (ZH 5 1 v15 ((D ++ [UInt8.ofNat (bOr .u8 ((m : Int) % 256) 128).toNat]).length) ((D ++ [UInt8.ofNat (bOr .u8 ((m : Int) % 256) 128).toNat]).flatMap ZN)) ja
  obtain ⟨a18, c19, rfl⟩ := Z1 (H20.at 1 rfl)
  refine kq _ _ ?_
  clear kq Kq
  refine wv 17 (pt r 0) ?_
  refine wv 18 (pt r 0) ?_
  refine zwd fun Kq kq => ?_
  refine Z2q (vs := (Z5D a18 ((D ++ [UInt8.ofNat (bOr .u8 ((m : Int) % 256) 128).toNat]).length) c19)) rfl H20 0 rfl rfl rfl rfl (by kernel_rfl) (Nat.le_of_ble_eq_true (by kernel_rfl)) (Nat.le_of_ble_eq_true (by kernel_rfl)) (by kernel_rfl) ?_
  intro w22 H23
  refine kq _ _ ?_
  clear kq Kq
  apply znt
  apply ZU
  refine wv 19 (.int .u64 ((m : Int))) ?_
  refine wv 20 (.int .u64 ((m : Int) / 128)) ?_ (hr := Z7j rfl rfl (by decide) (by decide) (by decide))
  refine wv 1 (.int .u64 ((m : Int) / 128)) ?_
  apply ZQ
  apply Zq
  have hv := Z7O hm.2.1 (show 128 ≤ m by omega)
  have H25 := H23.pk [0, 1, 2]
  refine Zw ?_ _ ⟨(m / 128), a18, c19, (D ++ [UInt8.ofNat (bOr .u8 ((m : Int) % 256) 128).toNat]), (f - 1), rfl, ⟨hv.1, hv.2.1, by omega⟩, (by rw [hv.2.2] at hD; simpa using hD), (by rw [List.length_append]; simp only [List.length_cons, List.length_nil]; omega), H25, rfl⟩ (by omega)
  exact zs
 have g26 := of_decide_eq_false b6
 refine Z18 _ b6 ?_
 apply zxb
 apply ztn
 apply zsl
 refine wv 21 (pt r 0) ?_
 refine wv 22 (pt r 0) ?_
 refine wv 23 (pt r 0) ?_
 refine wv 24 (pt r 0) ?_
 refine zw1 25 (.slice a D.length c) (H3.cell 0 rfl rfl) ?_
 refine wv 26 (.int .u64 ((m : Int))) ?_
 refine wv 27 (.int .u8 ((m : Int) % 256)) ?_ (hr := Z0I (z := (m : Int)) (by kernel_rfl) (by rw [Z3h]))
 refine zwd fun Kq kq => ?_
 refine Z3o 5 1 1 (.int .u8 (0)) [(0, (.int .u8 ((m : Int) % 256)))] ([(.int .u8 ((m : Int) % 256))] : List Value) H3 ?_
 intro b29 w30 H31
 have H32 := H31.ct 3 rfl (ZH 5 1 (.slice (some ⟨b29, 0, none⟩) 1 1) 1 ([UInt8.ofNat ((m : Int) % 256).toNat].flatMap ZN)) (by rw [Z4f (by omega)])
 refine kq _ _ ?_
 clear kq Kq
 refine zwd fun Kq kq => ?_
 refine Z14 (T := 62) (e := 5) (size := 1) (bytes := 1) rfl H32 (by kernel_rfl) 1 3 rfl rfl rfl rfl (Z0U ZN Z1h [UInt8.ofNat ((m : Int) % 256).toNat]) (by omega) (by omega) ?_
 intro v34 w35 H36
 have H39 := H36.ct 1 rfl (ZH 5 1 v34 ((D ++ [UInt8.ofNat ((m : Int) % 256).toNat]).length) ((D ++ [UInt8.ofNat ((m : Int) % 256).toNat]).flatMap ZN)) ja
 obtain ⟨a37, c38, rfl⟩ := Z1 (H39.at 1 rfl)
 refine kq _ _ ?_
 clear kq Kq
 refine wv 30 (pt r 0) ?_
 refine wv 31 (pt r 0) ?_
 refine zwd fun Kq kq => ?_
 refine Z2q (vs := (Z5D a37 ((D ++ [UInt8.ofNat ((m : Int) % 256).toNat]).length) c38)) rfl H39 0 rfl rfl rfl rfl (by kernel_rfl) (Nat.le_of_ble_eq_true (by kernel_rfl)) (Nat.le_of_ble_eq_true (by kernel_rfl)) (by kernel_rfl) ?_
 intro w41 (H42 : Sat w [Z0 r 174 (Z5D a37 ((D ++ [UInt8.ofNat ((m : Int) % 256).toNat]).length) c38), (Z8j a37 (D ++ [UInt8.ofNat ((m : Int) % 256).toNat]) c38), Z6 w (Z0c (wrL r a0 c0 B)).fp, ZH 5 1 (.slice (some ⟨b29, 0, none⟩) 1 1) 1 ([UInt8.ofNat ((m : Int) % 256).toNat].flatMap ZN)] w41)
 refine kq _ _ ?_
 clear kq Kq
 apply Z1y
 refine wv 32 (pt r 0) ?_
 refine wv 4 (pt r 0) ?_
 apply znt
 apply ZA
 refine ze1 (pt r 0) ?_
 have hv := Z7N hm.1 (show m < 128 by omega)
 have hfin : (D ++ [UInt8.ofNat ((m : Int) % 256).toNat]) = B ++ Z0W n := by rw [← hD, hv]
 exact ⟨a37, c38, rfl, (H42.pick [0, 1, 2] (by decide)).cast (by show [_, _, _] = _; rw [hfin])⟩
theorem Z0H (w : World) (r : Nat) (a0 : Option Addr) (c0 : Nat) (B : List UInt8) (hB : (Z0c (wrL r a0 c0 B)).ok w) (hl : B.length ≤ 1000000) (n : Int) (hn : n ≤ 9223372036854775807) :
  Calls Tryz.prog 82 #[(.pointer (some ⟨r, 0, none⟩)), (.int .i64 (n))] w fun e w' => ∃ a' c', e = .returned (.pointer (some ⟨r, 0, none⟩)) ∧ Sat w [Z0 r 174 [.slice a' (B ++ Z0W (max 0 n).toNat).length c'], ZH 5 1 (.slice a' (B ++ Z0W (max 0 n).toNat).length c') (B ++ Z0W (max 0 n).toNat).length ((B ++ Z0W (max 0 n).toNat).flatMap ZN), Z6 w (Z0c (wrL r a0 c0 B)).fp] w' := by
 have H := Sat.start (wrL r a0 c0 B) hB
 obtain ⟨k, hk⟩ : ∃ k : Nat, (k : Int) = max 0 n := ⟨(max 0 n).toNat, by omega⟩
 refine Zp Tryz.func82 rfl 10 rfl (Nat.le_of_ble_eq_true rfl) ?_
 apply zsl
 refine wv 4 (.pointer none) ?_
 apply Z1y
 refine wv 5 (pt r 0) ?_
 refine wv 6 (.int .i64 (n)) ?_
 refine wv 7 (.int .i64 (max (0 : Int) n)) ?_ (hr := ZbO (k := .i64) (a := 0) (b := n) (z := max (0 : Int) n) rfl rfl rfl)
 refine wv 8 (.int .u64 ((k : Int))) ?_ (hr := Z0I (z := max (0 : Int) n) (by kernel_rfl) ((by rw [← hk]; exact Z2m (by omega))))
 refine zwd fun Kq kq => ?_
 refine zdc 9 (Z4G w r a0 c0 B (H.fn [0, 1]) (by omega) k (by omega)) ?_
 rintro _ w2 ⟨a4, c5, rfl, T3⟩
 have H6 := H.tl [Z0 r 174 (Z5D a4 ((B ++ Z0W k).length) c5), (Z8j a4 (B ++ Z0W k) c5)] [0, 1] [2] T3 [0, 1, 2]
 refine ⟨_, rfl, ?_⟩
 refine kq _ _ ?_
 clear kq Kq
 refine wv 4 (pt r 0) ?_
 apply znt
 apply ZA
 refine ze1 (pt r 0) ?_
 have hkn : (max 0 n).toNat = k := by omega
 exact ⟨a4, c5, rfl, by rw [hkn]; exact H6⟩
theorem Z2o (w : World) (r : Nat) (a0 : Option Addr) (c0 : Nat) (B : List UInt8) (hB : (Z0c (wrL r a0 c0 B)).ok w) (hl : B.length ≤ 1000000) :
  Calls Tryz.prog 86 #[(.pointer (some ⟨r, 0, none⟩))] w fun e w' => ∃ u, e = .returned u ∧ Sat w [Z0 r 174 [.slice a0 B.length c0], ZH 5 1 (.slice a0 B.length c0) B.length (B.flatMap ZN), ZH 5 1 u B.length (B.flatMap ZN), Z6 w (Z0c (wrL r a0 c0 B)).fp] w' := by
 have H := Sat.start (wrL r a0 c0 B) hB
 refine Zp Tryz.func86 rfl 8 rfl (Nat.le_of_ble_eq_true rfl) ?_
 apply zsl
 refine wv 2 (.slice none 0 0) ?_
 apply Z1y
 refine wv 3 (pt r 0) ?_
 refine wv 4 (pt r 0) ?_
 refine wv 5 (pt r 0) ?_
 refine zw1 6 (.slice a0 B.length c0) (H.cell 0 rfl rfl) ?_
 refine zwd fun Kq kq => ?_
 refine Z83 (T := 62) (e := 5) (size := 1) (bytes := 1) rfl H (by kernel_rfl) (H.at 1 rfl) rfl rfl (Z0U ZN Z1h B) (by omega) (by omega) ?_
 intro v2 w3 H4
 obtain ⟨a5, c6, rfl⟩ := Z1 (H4.at 3 rfl)
 refine kq _ _ ?_
 clear kq Kq
 refine wv 2 (.slice a5 B.length c6) ?_
 apply znt
 apply ZA
 refine ze1 (.slice a5 B.length c6) ?_
 exact ⟨_, rfl, H4.pk [0, 1, 3, 2]⟩
end Go.Proofs.YtoaifondpohniaaGreat
