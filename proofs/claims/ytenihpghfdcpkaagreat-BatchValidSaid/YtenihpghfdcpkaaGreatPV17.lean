/- WHAT IS PROVED: contracts and plain laws of IterU, CollU, SortUA, Laid12, SortUS. Conditions: stated with each. -/
import Derived.Shelf.SlIter.Collect
import Derived.Shelf.SlSortCmp.SmallK
import Derived.Shelf.Small.Bits
import Derived.Test.YtenihpghfdcpkaaGreatPV02
import Derived.Test.YtenihpghfdcpkaaGreatPV04
import Derived.Test.YtenihpghfdcpkaaGreatPV05
import Derived.Test.YtenihpghfdcpkaaGreatPV06
import Derived.Test.YtenihpghfdcpkaaGreatPV16
set_option maxHeartbeats 4000000
set_option maxRecDepth 100000
namespace Go.Proofs.YtenihpghfdcpkaaGreat
open Go.RowKit Go.Maps Go.Sort Go.Shelf
theorem infoU : (Tryz.prog.info? 25).map (fun i => (i.zero, i.size, i.bytes)) = some (some ((Value.int .u64) 0), 1, 8) := by kernel_rfl
def Z87 (w : World) (a : Addr) (x : Int) : Prop := w.cell? a = some ((Value.int .u64) x)
def ZeS : Code := Code.region 2 #[{ dst := some 5, op := Op.assign (Operand.tmp 7), type := 25, pos := "iter.go:51", after := #[], guard := none }] false
def Zf2 : Code := Code.block 1 (Code.region 3 #[{ dst := some 8, op := Op.load 109 (Operand.tmp 2), type := 109, pos := "iter.go:52", after := #[], guard := none },
 { dst := some 9, op := Op.move (Operand.tmp 5), type := 25, pos := "iter.go:52", after := #[], guard := none },
 { dst := some 10, op := Op.buildSlice 109 1 #[(0, Operand.tmp 9)], type := 109, pos := "iter.go:52", after := #[{ on := 1, ground := Ground.data }], guard := none },
 { dst := some 11, op := Op.call { callee := Callee.builtin Builtin.append, args := #[Operand.tmp 8, Operand.tmp 10], argTypes := #[109, 109] }, type := 109, pos := "iter.go:52", after := #[{ on := 0, ground := Ground.data }, { on := 2, ground := Ground.data }], guard := none },
 { dst := none, op := Op.store 109 (Operand.tmp 2) (Operand.tmp 11), type := 0, pos := "iter.go:52", after := #[{ on := 3, ground := Ground.data }, { on := 3, ground := Ground.chain }, { on := 0, ground := Ground.phase }, { on := 1, ground := Ground.phase }, { on := 2, ground := Ground.phase }, { on := 3, ground := Ground.phase }], guard := none }] false)
def Z6Y (fn : FuncId) (sv : Value) (b d : Nat) (st : LoopState) : Loop :=
 { state := st, pending := none, fn, tmps := #[.slice none 0 0, sv, zp b, undef, .slice none 0 0, undef, sv, undef, undef, undef, undef, undef, undef], params := #[7], assign := ZeS, body := Zf2, defers := d }
structure ZaF (w0 : World) (fn : FuncId) (sv : Value) (b l d : Nat) (ss : List Int) (W : World) : Prop where
 box : ∃ v, W.heap[b]? = some (.cells #[v] 109 (0, 0)) ∧ W.ownsRow w0.heap.size 25 1 v ss.length (ss.map (Value.int .u64))
 lp : W.heap[l]? = some (.loop (Z6Y fn sv b d .ready))
 dfr : W.heap[d]? = some (.deferred (some []))
 low : Below w0.heap.size w0 W
theorem ZcO (m : Nat) (w0 : World) (fn : FuncId) (sv : Value) (b l d : Nat) (hbl : b ≠ l) (hdl : d ≠ l) (hdb : d ≠ b) (h0b : w0.heap.size ≤ b) (h0l : w0.heap.size ≤ l) (ss : List Int) (x : Int) (W : World) (h : ZaF w0 fn sv b l d ss W) (hlen : ss.length < 1000000000) :
    YieldAt Fence.wide m Tryz.prog l #[(Value.int .u64) x] W fun e W' => e = .returned (.bool true) ∧ ZaF w0 fn sv b l d (ss ++ [x]) W' := by
  have mixed : Tryz.prog.follows .mixedOrders = true := by kernel_rfl
  have hne : (109 : TypeId) ≠ 25 := by decide
  obtain ⟨i0, hi, hz0, hz1, hz2⟩ := info_parts infoU
  obtain ⟨v, hv, hrow⟩ := h.box
  refine ⟨fn, #[.slice none 0 0, sv, zp b, undef, .slice none 0 0, undef, sv, (Value.int .u64) x, undef, undef, undef, undef, undef], ZeS, Zf2, by simpa [Z6Y] using run_yield (P := Tryz.prog) (args := #[(Value.int .u64) x]) h.lp rfl, roundIn_of_wpIn trivial ?_⟩
  have hl : l < W.heap.size := Z1v h.lp
  have hbr := run_beginRound (P := Tryz.prog) h.lp rfl
  obtain ⟨W2, hW2⟩ : ∃ W2, W.putObj l (.loop { Z6Y fn sv b d .ready with state := .busy }) = W2 := ⟨_, rfl⟩
  rw [hW2] at hbr
  have hg2 : W.grownBy W2 (some l) := by rw [← hW2]; exact grownBy_putObj_a _ _ _
  have hv2 : W2.heap[b]? = some (.cells #[v] 109 (0, 0)) := by rw [← hW2]; exact (World.putObj_heap_other hbl).trans hv
  have hd2 : W2.heap[d]? = some (.deferred (some [])) := by rw [← hW2]; exact (World.putObj_heap_other hdl).trans h.dfr
  have hL2 : W2.heap[l]? = some (.loop { Z6Y fn sv b d .ready with state := .busy }) := by rw [← hW2]; exact World.putObj_heap_same hl
  have hrow2 : W2.ownsRow w0.heap.size 25 1 v ss.length (ss.map (Value.int .u64)) := hrow.kept hg2 (ownsRow_ne_a hrow h.lp (fun cur e => by cases e))
  have hb2 : Below w0.heap.size w0 W2 := h.low.grown hg2 h.low.size (fun k e => by cases e; exact h0l)
  obtain ⟨hc2, hf2⟩ := cell_of_box_a hv2
  have hblt : b < W2.heap.size := Z1v hv2
  have hl2 : l < W2.heap.size := Z1v hL2
  have hdlt : d < W2.heap.size := Z1v hd2
  have far : ∀ {j : Nat} {o : Obj}, W2.heap[j]? = some o → (∀ cur, o ≠ .cells cur 25 (0, 0)) → some j ≠ v.ownBlock := fun hj hno => by
    rcases ownsRow_ne_a hrow2 hj hno with e | e
    · rw [e]; simp
    · exact fun e' => e e'.symm
  have bne : ∀ cur, Obj.cells #[v] 109 (0, 0) ≠ .cells cur 25 (0, 0) := fun cur e => hne (Obj.cells.inj e).2.1
  clear hW2
  unfold ZeS
  gi_wp2_with gi_round_op_a
  unfold Zf2
  gi_wp2_with (first
    | (gi_at_builtin; refine wpListIn_append_own _ rfl _ _ 109 rfl w0.heap.size 25 i0 ((Value.int .u64) 0) 1 8 Tryz.underlying109 hi hz0 hz1 hz2 rfl (by decide) _ _ _ rfl (hrow2.alloc _) ⟨W2.heap.size, 0, none⟩ 1 1 [(Value.int .u64) x] rfl rfl (cell_one_new _ _ _) (by simp [Value.oneCell']) (by unfold maxLen; omega) (by omega) (by have := hb2.size; simp; omega) ?_; intro v' w3 hown' hg3 hnil3
       have hv3 : w3.heap[b]? = some (.cells #[v] 109 (0, 0)) := (hg3.block b (by simp; omega) (far hv2 bne)).trans ((Below.heap_alloc _ _ b hblt).trans hv2)
       obtain ⟨hc3, hf3⟩ := cell_of_box_a hv3
       obtain ⟨g', cap', hvs, _⟩ := Z8N hown' (by omega)
       subst hvs
       go_frame)
    | gi_round_op_a)
  have hg3' : (W2.alloc (.cells #[(Value.int .u64) x] 25)).grownBy w3 v.ownBlock := hg3
  have hL3 : w3.heap[l]? = some (.loop { Z6Y fn sv b d .ready with state := .busy }) := (hg3'.block l (by simp; omega) (far hL2 (fun cur e => by cases e))).trans ((Below.heap_alloc _ _ l hl2).trans hL2)
  have hd3 : w3.heap[d]? = some (.deferred (some [])) := (hg3'.block d (by simp; omega) (far hd2 (fun cur e => by cases e))).trans ((Below.heap_alloc _ _ d hdlt).trans hd2)
  have hb3 : Below w0.heap.size w0 w3 := (hb2.alloc hb2.size _).grown hg3' (by have := hb2.size; simp; omega) (fun k e => (hrow2.lt k e).1)
  obtain ⟨w4, hw4⟩ : ∃ w4, w3.setCell ⟨b, 0, none⟩ (.slice (some ⟨g', 0, none⟩) (ss.length + 1) cap') = w4 := ⟨_, rfl⟩
  rw [hw4]
  have hg4 : w3.grownBy w4 (some b) := by rw [← hw4]; exact grownBy_setCell0_a _ _ _
  have hv4 : w4.heap[b]? = some (.cells #[.slice (some ⟨g', 0, none⟩) (ss.length + 1) cap'] 109 (0, 0)) := by rw [← hw4]; exact heap_setCell_box_a _ hv3
  have hL4 : w4.heap[l]? = some (.loop { Z6Y fn sv b d .ready with state := .busy }) := (hg4.block l (Z1v hL3) (fun e => hbl (by cases e; rfl))).trans hL3
  have hd4 : w4.heap[d]? = some (.deferred (some [])) := (hg4.block d (Z1v hd3) (fun e => hdb (by cases e; rfl))).trans hd3
  have hrow4 := hown'.kept hg4 (ownsRow_ne_a hown' hv3 bne)
  have hb4 : Below w0.heap.size w0 w4 := hb3.grown hg4 hb3.size (fun k e => by cases e; exact h0b)
  have hl4 : l < w4.heap.size := Z1v hL4
  clear hw4
  refine ⟨_, _, run_endRound none hL4, rfl, ⟨⟨_, (World.putObj_heap_other hbl).trans hv4, ?_⟩, World.putObj_heap_same hl4, (World.putObj_heap_other hdl).trans hd4, hb4.grown (grownBy_putObj_a _ _ _) hb4.size (fun k e => by cases e; exact h0l)⟩⟩
  have := hrow4.kept (grownBy_putObj_a w4 l (.loop { { Z6Y fn sv b d .ready with state := .busy } with state := if (none : Option Code).isNone then .ready else .done, pending := none })) (ownsRow_ne_a hrow4 hL4 (fun cur e => by cases e))
  simpa using this
theorem Zb9 (n : Nat) (l c : Nat) (xs : List Int) (w0 : World) (v : Value) (hm : w0.cell? ⟨c, 0, none⟩ = some v) (hv : SliceOf Z87 1 w0 v xs) (hxl : xs.length ≤ 1000000000) (J : List Int → World → Prop) (hJ : ∀ pre W, J pre W → Below w0.heap.size w0 W)
  (hY : ∀ pre x W, J pre W → pre.length < xs.length → YieldAt Fence.wide (n - 1) Tryz.prog l #[(Value.int .u64) x] W fun e W' => e = .returned (.bool true) ∧ J (pre ++ [x]) W') (W : World) (h0 : J [] W) :
  CallsIn Fence.wide n Tryz.prog 179 #[.func (.yield l) #[] #[], zp c] W fun e W' => (∃ v, e = .returned v) ∧ J xs W' := by
 obtain ⟨a, cp, rfl⟩ := hv.len
 have hc : W.cell? ⟨c, 0, none⟩ = some (.slice a xs.length cp) := ((hJ [] W h0).cell (World.block_lt_of_cell? _ _ hm)).trans hm
 refine callsIn_of_wp Tryz.func179 rfl trivial ?_ rfl
 simp only [Tryz.ntmps179, List.size_toArray, List.length_cons, List.length_nil, Nat.reduceAdd, Nat.reduceSub, Array.replicate_succ, Array.replicate_zero, List.push_toArray, List.append_toArray, List.nil_append, List.cons_append]
 gi_wp2
 gi_loopw [7] (fun s wr => ∃ k : Nat, s = i6 (k : Int) ∧ k ≤ xs.length ∧ J (xs.take k) wr) (fun s _ => xs.length - (intOf s).toNat)
 case atStart => exact ⟨0, rfl, Nat.zero_le _, by simpa using h0⟩
 case round =>
  obtain ⟨k, rfl, hk, hJk⟩ := hrel
  by_cases hlt : k < xs.length
  ·obtain ⟨b, off, cap, hvv, hcap, hall⟩ := hv.some (by omega)
   obtain ⟨rfl, _, rfl⟩ : a = some ⟨b, off, none⟩ ∧ xs.length = xs.length ∧ cp = cap := by simpa using hvv
   have hel0 : w0.cell? ⟨b, off + k, none⟩ = some ((Value.int .u64) xs[k]) := by
    have := hall k hlt
    simpa [Z87] using this
   have hel : wr.cell? ⟨b, off + k, none⟩ = some ((Value.int .u64) xs[k]) := ((hJ _ _ hJk).cell (World.block_lt_of_cell? _ _ hel0)).trans hel0
   obtain ⟨x, hx⟩ : ∃ x, xs[k] = x := ⟨_, rfl⟩
   rw [hx] at hel
   obtain ⟨fn, tmps, assign, body, hy, hR⟩ := hY (xs.take k) x wr hJk (by rw [List.length_take]; omega)
   gi_wp2
   refine ⟨(fun h => by cases h), hR.mono ?_⟩
   rintro e W3 ⟨rfl, hJ3⟩
   gi_wp2
   go_roundw
   case rel => exact ⟨k + 1, by simp, by omega, by rw [List.take_add_one, List.getElem?_eq_getElem hlt, hx]; exact hJ3⟩
   case measure => simp [intOf]; omega
  ·gi_wp2
   go_end0
   exact ⟨⟨_, rfl⟩, by rwa [List.take_of_length_le (by omega)] at hJk⟩
theorem Z7U (c : Nat) (xs : List Int) (v : Value) (w : World) (hm : w.cell? ⟨c, 0, none⟩ = some v) (hv : SliceOf Z87 1 w v xs) (hxl : xs.length ≤ 1000000000) :
    CallsIn Fence.wide 3 Tryz.prog 204 #[.slice none 0 0, .func (.func 179) #[] #[zp c]] w fun e w' => ∃ u, e = .returned u ∧ w'.ownsRow w.heap.size 25 1 u xs.length (xs.map (Value.int .u64)) ∧ Below w.heap.size w w' := by
  have mixed : Tryz.prog.follows .mixedOrders = true := by kernel_rfl
  have hne : (109 : TypeId) ≠ 25 := by decide
  obtain ⟨i0, hi, hz0, hz1, hz2⟩ := info_parts infoU
  obtain ⟨sv, hsv⟩ : ∃ sv, Value.func (.func 179) #[] #[zp c] = sv := ⟨_, rfl⟩
  refine callsIn_of_wp_marks Tryz.func204 rfl trivial ?_ rfl
  simp only [Tryz.ntmps204, List.size_toArray, List.length_cons, List.length_nil, Nat.reduceAdd, Nat.reduceSub, Array.replicate_succ, Array.replicate_zero, List.push_toArray, List.append_toArray, List.nil_append, List.cons_append]
  gi_wp2
  refine wpIn_rangeFunc ?_
  intro fn _
  obtain ⟨W0, hW0⟩ : ∃ W0, w.alloc (.cells #[.slice none 0 0] 109) = W0 := ⟨_, rfl⟩
  have hs0 : W0.heap.size = w.heap.size + 1 := by rw [← hW0]; simp
  have hv0 : W0.heap[w.heap.size]? = some (.cells #[.slice none 0 0] 109 (0, 0)) := by rw [← hW0]; exact World.alloc_heap_new w _
  have hb0 : Below w.heap.size w W0 := by rw [← hW0]; exact (Below.refl _ w).alloc (Nat.le_refl _) _
  rw [hW0]
  obtain ⟨W1, hW1⟩ : ∃ W1, (W0.alloc (.deferred (some []))).alloc (.loop (Z6Y fn (.func (.func 179) #[] #[zp c]) w.heap.size W0.heap.size .ready)) = W1 := ⟨_, rfl⟩
  have hold : ∀ k, k < W0.heap.size → W1.heap[k]? = W0.heap[k]? := fun k hk => by
    rw [← hW1]; exact (Below.heap_alloc _ _ k (by simp; omega)).trans (Below.heap_alloc _ _ k hk)
  have hb1 : Below w.heap.size w W1 := by rw [← hW1]; exact (hb0.alloc hb0.size _).alloc (by have := hb0.size; simp; omega) _
  have hM : ZaF w fn (.func (.func 179) #[] #[zp c]) w.heap.size (W0.heap.size + 1) W0.heap.size [] W1 :=
    ⟨⟨_, (hold w.heap.size (by omega)).trans hv0, ⟨rfl, .inl ⟨rfl, rfl⟩⟩⟩,
     by rw [← hW1]; have := World.alloc_heap_new (W0.alloc (.deferred (some []))) (.loop (Z6Y fn (.func (.func 179) #[] #[zp c]) w.heap.size W0.heap.size .ready)); rwa [World.size_alloc] at this,
     by rw [← hW1]; exact (Below.heap_alloc _ _ _ (by simp)).trans (World.alloc_heap_new W0 _), hb1⟩
  refine ⟨W0.heap.size + 1, [{ target := .collected W0.heap.size, args := #[] }], W1, { target := .fn (.func 179) #[zp c], args := #[.func (.yield (W0.heap.size + 1)) #[] #[]] }, W1, 179,
    #[.func (.yield (W0.heap.size + 1)) #[] #[], zp c], W1, ?_, ?_, fun _ _ => trivial, ?_, (fun h => by cases h), ?_⟩
  · rw [← hW1]; exact run_enterLoop_outer _ _ _ _ _
  · simp [resolve, go_sem]
  · kernel_rfl
  · refine (Zb9 2 (W0.heap.size + 1) c xs w v hm hv hxl (ZaF w fn (.func (.func 179) #[] #[zp c]) w.heap.size (W0.heap.size + 1) W0.heap.size) (fun _ _ h => h.low)
      (fun pre x W hJ hl => ZcO _ w fn _ w.heap.size (W0.heap.size + 1) W0.heap.size (by omega) (by omega) (by omega) (Nat.le_refl _) (by omega) pre x W hJ (by omega)) W1 hM).mono ?_
    rintro e W2 ⟨⟨v0, rfl⟩, h2⟩
    obtain ⟨u, hu, hrow⟩ := h2.box
    have hend := run_endLoop (P := Tryz.prog) h2.lp (by simp [Z6Y])
    obtain ⟨W3, hW3⟩ : ∃ W3, W2.putObj (W0.heap.size + 1) (.loop { Z6Y fn (.func (.func 179) #[] #[zp c]) w.heap.size W0.heap.size .ready with state := .exhausted }) = W3 := ⟨_, rfl⟩
    rw [hW3] at hend
    have hg3 : W2.grownBy W3 (some (W0.heap.size + 1)) := by rw [← hW3]; exact grownBy_putObj_a _ _ _
    have hu3 : W3.heap[w.heap.size]? = some (.cells #[u] 109 (0, 0)) := by rw [← hW3]; exact (World.putObj_heap_other (by omega)).trans hu
    have hK3 : W3.heap[W0.heap.size]? = some (.deferred (some [])) := by rw [← hW3]; exact (World.putObj_heap_other (by omega)).trans h2.dfr
    have hrow3 := hrow.kept hg3 (ownsRow_ne_a hrow h2.lp (fun cur e => by cases e))
    have hb3 : Below w.heap.size w W3 := h2.low.grown hg3 h2.low.size (fun k e => by cases e; omega)
    obtain ⟨hc3, hf3⟩ := cell_of_box_a hu3
    clear hW3
    refine ⟨none, W3, hend, ?_⟩
    gi_wp2
    rw [← hs0]
    refine ⟨by simp, .inl ⟨_, _, rfl, run_takeDeferred hK3, ?_⟩⟩
    exact ⟨_, results_tmp rfl _ _ _, u, rfl, hrow3.kept (grownBy_putObj_a _ _ _) (ownsRow_ne_a hrow3 hK3 (fun cur e => by cases e)), hb3.grown (grownBy_putObj_a _ _ _) hb3.size (fun k e => by cases e; omega)⟩
end Go.Proofs.YtenihpghfdcpkaaGreat
namespace Go.Proofs.YtenihpghfdcpkaaGreat
open Go.RowKit
theorem ZdC {w : World} {e size n base : Nat} {v : Value} {xs : List Value} (h : w.ownsRow base e size v n xs) : (Zo e size v n xs).ok w ∧ ∀ b, v.ownBlock = some b → base ≤ b := by
 refine ⟨⟨h.1, ?_⟩, fun b hb => ?_⟩
 ·rcases h.2 with hn | ⟨g, cap, cur, hv, hb, rest⟩
  ·exact .inl hn
  ·exact .inr ⟨g, cap, cur, hv, Nat.zero_le _, rest⟩
 ·rcases h.2 with ⟨rfl, _⟩ | ⟨g, cap, cur, rfl, hg, _⟩
  ·simp [Value.ownBlock] at hb
  ·simp [Value.ownBlock] at hb; omega
theorem mapU (xs : List Int) : xs.map (Value.int .u64) = xs.flatMap Z4b := by
 induction xs with
 | nil => rfl
 | cons x xs ih => rw [List.map_cons, List.flatMap_cons, ih]; rfl
theorem Z7c (w : World) (b : Nat) (v : Value) (xs : List Int) (hb : (Z0 b 109 [v]).ok w) (hv : ListAt Z4b 1 w v xs) (hx : xs.length ≤ 1000000000) :
  Calls Tryz.prog 204 #[.slice none 0 0, .func (.func 179) #[] #[zp b]] w fun e w' => ∃ u, e = .returned u ∧ (Zo 25 1 u xs.length (xs.flatMap Z4b)).ok w' ∧ Upd [] w w' ∧ ∀ k, u.ownBlock = some k → w.heap.size ≤ k := by
 have hm : w.cell? ⟨b, 0, none⟩ = some v := by rw [Z1n hb 0]; rfl
 have hv' : SliceOf Z87 1 w v xs := by
  rcases hv with h | ⟨h0, b', o, c', e, hc, h⟩
  ·exact .inl h
  ·exact .inr ⟨h0, b', o, c', e, hc, fun i hi => by have := h i hi 0 ((Value.int .u64) xs[i]) rfl; rw [Addr.add_lit] at this; exact this⟩
 refine (callsIn_wide.1 (Z7U b xs v w hm hv' hx)).mono ?_
 rintro e w' ⟨u, rfl, h, hl⟩
 obtain ⟨h1, h2⟩ := ZdC h
 exact ⟨u, rfl, mapU xs ▸ h1, Below.upd hl, h2⟩
theorem Zdf (w : World) (x : Int) :
  Calls Tryz.prog 103 #[u6 x] w fun e w' => e = .returned (.bool false) ∧ Upd [] w w' := by
 have H := Sat.start0 w
 refine Zg Tryz.func103 rfl 6 rfl kn ?_
 refine zsl <| wv 2 (.bool false) <| Z1a <| wv 3 (vu x) <| wv 4 (vu x) <| wv 5 (.bool (!(decide (x = x)))) <| wv 2 (.bool (!(decide (x = x)))) <| znt <| Zk <| ze1 (.bool (!(decide (x = x)))) ?_
 exact ⟨by simp, H.upd 0 rfl [] ne⟩
theorem Zc7 (w : World) (x y : Int) :
  Calls Tryz.prog 225 #[u6 x, u6 y] w fun e w' => e = .returned (.bool (ltU x y)) ∧ Upd [] w w' := by
 have H := Sat.start0 w
 refine Zg Tryz.func225 rfl 17 rfl kn ?_
 let A1 : Value := .bool false
 refine zsl <| wv 4 A1 <| Z1a <| wv 5 (vu x) <| zy <| zdq 6 (Zdf w x) H fun w2 H3 => ?_
 refine kk <| wv 7 A1 ?_
 iterate 3 refine wn 2 7 true ?_
 let A0 : Value := .bool (decide (x < y))
 refine wv 11 A1 <| wv 12 A1 <| wy 7 12 false 13 (vu x) <| wy 7 12 false 14 (vu y) <| wy 7 12 false 15 A0 <| wv 16 A0 <| wv 4 A0 <| znt <| Zk <| ze1 A0 ?_
 exact ⟨rfl, H3.upd 0 rfl [] ne⟩
theorem Z7b (w : World) (g n c a b : Nat) (A : List Int) (hT : (Z5K g n c A).ok w) (hn : n ≤ 1000000000000) (hab : a ≤ b ∧ b ≤ n) :
  Calls Tryz.prog 219 #[(.slice (some ⟨g, 0, none⟩) n c), (i6 ((a : Int))), (i6 ((b : Int)))] w fun e w' => ∃ B : List Int, e = .returned (.tuple #[]) ∧ B.length = n ∧ SegP a b A B ∧ Srt ltU a b B ∧ Sat w [Z5K g n c B, ZQ w (Z5K g n c A).fp] w' := by
 have H := Sat.start1 hT
 have hl := Z7N hT
 have hw := swU
 refine Zg Tryz.func219 rfl 49 rfl kn ?_
 let A3 := ZQ w (Z5K g n c A).fp
 refine zsl <| wv 8 (vi a) <| zwi 9 ((a : Int) + 1) <| wv 6 (vi ((a : Int) + 1)) <| znt <| Zh <| ZB ([6, 7] ++ List.range' 10 39) (fun F_ W_ m_ => ∃ (i : Nat) (B : List Int), F_ 6 = (vi i) ∧ (a + 1 ≤ i ∧ (i ≤ b ∨ i = a + 1)) ∧ (B.length = n) ∧ (SegP a b A B) ∧ (Srt ltU a i B) ∧ Sat w [Z5K g n c B, A3] W_ ∧ m_ = b - i) _ ⟨(a + 1), A, (show ((vi ((a : Int) + 1)) : Value) = _ by first | rfl | go_num), om, hl, .refl, (Srt.short om), H, rfl⟩ ?_
 rintro g1 w2 _ ⟨i, B, v4, hi, hlB, hS, hs, H3, rfl⟩
 refine Zn 6 _ v4 ?_
 refine Z9 <| zsl <| wv 10 (vi i) <| wv 11 (vi b) <| wv 12 (.bool (decide ((i : Int) < b))) <| znt ?_
 refine zid (fun b6 g7 => ?_) fun b6 g39 => ?_
 ·refine Zp <| ztn <| Z9 <| Zh <| zsl <| wv 15 (vi i) <| wv 7 (vi i) <| znt <| Zh <| ZB ([7] ++ List.range' 16 33) (fun F_ W_ m_ => ∃ (j : Nat) (C : List Int), F_ 7 = (vi j) ∧ (a ≤ j ∧ j ≤ i) ∧ (C.length = n) ∧ (SegP a b A C) ∧ (Ins ltU a i j C) ∧ Sat w [Z5K g n c C, A3] W_ ∧ m_ = j + 1) _ ⟨i, B, (show ((vi i) : Value) = _ by first | rfl | go_num), om, hlB, hS, (Ins.start hs), H3, rfl⟩ ?_
  rintro g9 w10 _ ⟨j, C, v12, hj, hlC, hS2, hI, H11, rfl⟩
  refine Zn 7 _ v12 ?_
  refine Z9 <| Z9 <| zqs H11 ?_
  let A5 : Value := .bool (decide ((j : Int) > (a : Int)))
  refine qv 16 (vi j) <| qv 17 (vi a) <| qv 18 A5 <| qv 19 A5 ?_
  refine ziq 19 (fun b14 g15 => ?_) fun b14 g35 => ?_
  ·let A0 : Value := .slice (some ⟨g, 0, none⟩) n c
   let A2 : Value := .pointer (some ⟨g, 0 + ((j : Int)).toNat * 1, none⟩)
   refine qy 3 19 true 20 A0 <| qy 3 19 true 21 (vi j) <| qy 3 19 true 22 A2 ?_ (hr := fun _ H' => (Z0k (E := 25) kr kr kn rfl rfl om om))
   obtain ⟨x17, h18⟩ := Z2P (show j < C.length by omega)
   refine qy 3 19 true 23 (vu x17) ?_ (hr := fun _ H' => (zl1 (Z5s (H'.at 0 rfl) h18 (show 0 + ((j : Int)).toNat * 1 = j by omega))))
   let A4 : Value := vi ((j : Int) - 1)
   refine qy 3 19 true 24 A0 <| qy 3 19 true 25 (vi j) <| qy 3 19 true 26 A4 ?_ (hr := fun _ H' => (Z0A (z := (j : Int) - 1) kr (IntWalk.i64_in _ om)))
   let A1 : Value := .pointer (some ⟨g, 0 + ((j : Int) - 1).toNat * 1, none⟩)
   refine qy 3 19 true 27 A1 ?_ (hr := fun _ H' => (Z0k (E := 25) kr kr kn rfl rfl om om))
   obtain ⟨x19, h20⟩ := Z2P (show (j - 1) < C.length by omega)
   refine qy 3 19 true 28 (vu x19) ?_ (hr := fun _ H' => (zl1 (Z5s (H'.at 0 rfl) h20 (show 0 + ((j : Int) - 1).toNat * 1 = (j - 1) by omega))))
   refine Z0r (Z05 3 19 true rfl kr rfl kr) (d := 29) (v := (.bool (ltU x17 x19))) rfl (fun _ _ => by kernel_rfl) (fun w' H' => (Zc7 w' x17 x19).mono fun _ _ h => ⟨h.1, H'.keepU h.2⟩) ?_
   refine qv 30 (.bool (ltU x17 x19)) <| Z01 fun w21 H22 => ?_
   apply ztn
   refine (ZY (ltU x17 x19)).elim (fun b23 => ?_) (fun b23 => ?_)
   ·refine Z48 _ b23 ?_
    refine Zp <| ztn <| Z9 <| Zh <| Z0Z H22 [Z5K g n c C, A3] [15, 17] 18 rfl kr (fun Hx => (Hx.pk [0, 1])) fun w24 H25 S26 => ?_
    refine zkp 0 S26 33 A0 <| zkp 1 S26 34 (vi j) <| zkp 2 S26 35 A0 <| zkp 3 S26 36 (vi j) <| zkp 4 S26 37 A4 ?_ (he := fun _ => (Z0A (z := (j : Int) - 1) kr (IntWalk.i64_in _ om)))
    refine zkp 5 S26 38 A0 <| zkp 6 S26 39 (vi j) <| zkp 7 S26 40 A4 ?_ (he := fun _ => (Z0A (z := (j : Int) - 1) kr (IntWalk.i64_in _ om)))
    refine zkp 8 S26 41 A1 ?_ (he := fun _ => (Z0k (E := 25) kr kr kn rfl rfl om om))
    refine zkv 9 S26 42 (vu x19) ?_ (he := fun _ H' => (zl1 (Z5s (H'.at 0 rfl) h20 (show 0 + ((j : Int) - 1).toNat * 1 = (j - 1) by omega))))
    refine zkp 10 S26 43 A0 <| zkp 11 S26 44 (vi j) <| zkp 12 S26 45 A2 ?_ (he := fun _ => (Z0k (E := 25) kr kr kn rfl rfl om om))
    refine zkv 13 S26 46 (vu x17) ?_ (he := fun _ H' => (zl1 (Z5s (H'.at 0 rfl) h18 (show 0 + ((j : Int)).toNat * 1 = j by omega))))
    refine zkp 14 S26 47 A2 ?_ (he := fun _ => (Z0k (E := 25) kr kr kn rfl rfl om om))
    refine Z2B 15 (Sat w [A3]) rfl kr (Zc rfl) rfl (fun Kq kq => ?_)
    refine Zal rfl H25 0 rfl rfl rfl kr (show 0 + ((j : Int)).toNat * 1 = j by omega) om ?_
    intro w28 H29
    have hlH29 : (C.set j x19).length = C.length := List.length_set
    have S30 := H29.pk [1]
    refine kq _ _ S30 <| hv0 16 S30 48 A1 ?_ (he := fun _ H' => (Z0k (E := 25) kr kr kn rfl rfl om om))
    refine zhy 17 ?_
    refine Zal rfl H29 0 rfl rfl rfl kr (show 0 + ((j : Int) - 1).toNat * 1 = (j - 1) by omega) om ?_
    intro w32 (H33 : Sat w [Z5K g n c ((C.set j x19).set (j - 1) x17), A3] w32)
    have hlH33 : ((C.set j x19).set (j - 1) x17).length = (C.set j x19).length := List.length_set
    have S34 := H33.pk [1]
    refine kh S34 <| zhf <| Z6 <| ztn <| ZG <| wv 31 (vi j) <| zwi 32 ((j : Int) - 1) <| wv 7 A4 <| ZL <| Za ?_ _ ⟨(j - 1), ((C.set j x19).set (j - 1) x17), (show (A4 : Value) = _ by first | rfl | go_num), om, om, (hS2.swap om om om om h18 h20), (hI.step hw om om h18 h20 b23), H33, rfl⟩ om
    exact zs
   refine Z3L _ b23 ?_
   refine zxb <| Z6 <| ztn <| ZG <| wv 13 (vi i) <| zwi 14 ((i : Int) + 1) <| wv 6 (vi ((i : Int) + 1)) <| ZL ?_
   have hs2 : Srt ltU a (i + 1) C := by
    exact hI.stop hw om om h18 h20 b23
   refine Za ?_ _ ⟨(i + 1), C, rfl, om, hlC, hS2, hs2, H22, rfl⟩ om
   exact zs
  iterate 10 refine qn 3 19 true ?_
  refine qv 30 (.bool false) <| Z01 fun w37 H38 => ?_
  refine ztn <| Z2h rfl ?_
  refine zxb <| Z6 <| ztn <| ZG <| wv 13 (vi i) <| zwi 14 ((i : Int) + 1) <| wv 6 (vi ((i : Int) + 1)) <| ZL ?_
  have hs2 : Srt ltU a (i + 1) C := by
   obtain rfl : j = a := by omega
   exact hI.low
  refine Za ?_ _ ⟨(i + 1), C, rfl, om, hlC, hS2, hs2, H38, rfl⟩ om
  exact zs
 refine zxb <| Z24 ?_
 refine ZcS rfl  ?_
 exact ⟨B, rfl, hlB, hS, hs.sub (Nat.le_refl _) om, H3⟩
end Go.Proofs.YtenihpghfdcpkaaGreat
namespace Go.Proofs.YtenihpghfdcpkaaGreat
open Go.RowKit Go.Shelf
def Zbv : Go.Shelf.Ren := ⟨fun | 125 => 102 | 128 => 136 | 129 => 137 | n => n, fun | 3 => 3 | 4 => 4 | 5 => 5 | 9 => 9 | 46 => 108 | 51 => 198 | 53 => 25 | n => n, fun | n => n⟩
theorem bitsL : Go.Proofs.Lays.n125 Tryz.prog Zbv := {
 mixed := by kernel_rfl,
 f125 := Tryz.func102.trans (congrArg some (by kernel_rfl)),
 f128 := Tryz.func136.trans (congrArg some (by kernel_rfl)),
 f129 := Tryz.func137.trans (congrArg some (by kernel_rfl)),
 t3 := Tryz.underlying3,
 a3 := Tryz.isAgg3,
 z3 := Tryz.sizeOf3,
 v3 := Tryz.zeroValue3,
 t4 := Tryz.underlying4,
 a4 := Tryz.isAgg4,
 z4 := Tryz.sizeOf4,
 v4 := Tryz.zeroValue4,
 t5 := Tryz.underlying5,
 a5 := Tryz.isAgg5,
 z5 := Tryz.sizeOf5,
 v5 := Tryz.zeroValue5,
 t9 := Tryz.underlying9,
 a9 := Tryz.isAgg9,
 z9 := Tryz.sizeOf9,
 v9 := Tryz.zeroValue9,
 t46 := Tryz.underlying108,
 a46 := Tryz.isAgg108,
 z46 := Tryz.sizeOf108,
 v46 := Tryz.zeroValue108,
 t51 := Tryz.underlying198,
 a51 := Tryz.isAgg198,
 z51 := Tryz.sizeOf198,
 v51 := Tryz.zeroValue198,
 t53 := Tryz.underlying25,
 a53 := Tryz.isAgg25,
 z53 := Tryz.sizeOf25,
 v53 := Tryz.zeroValue25 }
end Go.Proofs.YtenihpghfdcpkaaGreat
namespace Go.Proofs.YtenihpghfdcpkaaGreat
open Go.RowKit
theorem Zcr (w : World) (g n c : Nat) (lim : Int) (A : List Int) (hT : (Z5K g n c A).ok w) (hn12 : n ≤ 12) :
  Calls Tryz.prog 205 #[(.slice (some ⟨g, 0, none⟩) n c), i6 0, (i6 ((n : Int))), i6 lim] w fun e w' => ∃ B : List Int, e = .returned (.tuple #[]) ∧ B.length = n ∧ B.Perm A ∧ Srt ltU 0 B.length B ∧ Sat w [Z5K g n c B, ZQ w (Z5K g n c A).fp] w' := by
 have H := Sat.start1 hT
 have hl := Z7N hT
 have hw := swU
 have hn : n ≤ 1000000000000 := by omega
 refine Zg Tryz.func205 rfl 134 rfl kn ?_
 refine zsl <| wv 8 (.bool true) <| Z1a <| wv 9 (.bool true) <| znt <| Zh <| ZB ([1, 2, 3] ++ List.range' 8 126) (fun F_ W_ m_ => ∃ (z_ : Nat), F_ 1 = (vi 0) ∧ F_ 2 = (vi n) ∧ F_ 3 = (vi lim) ∧ F_ 8 = (.bool true) ∧ F_ 9 = (.bool true) ∧ (True) ∧ Sat w [Z5K g n c A, ZQ w (Z5K g n c A).fp] W_ ∧ m_ = z_) _ ⟨0, (show ((vi 0) : Value) = _ by first | rfl | go_num), (show ((vi n) : Value) = _ by first | rfl | go_num), (show ((vi lim) : Value) = _ by first | rfl | go_num), (by first | rfl | go_num), (by first | rfl | go_num), trivial, H, rfl⟩ ?_
 rintro g1 w2 _ ⟨z_, v4, v5, v6, v7, v8, ht_, H3, rfl⟩
 refine Zn 1 _ v4 ?_
 refine Zn 2 _ v5 ?_
 refine Zn 3 _ v6 ?_
 refine Zn 8 _ v7 ?_
 refine Zn 9 _ v8 ?_
 refine Zh <| zsl <| wv 19 (vi n) <| wv 20 (vi 0) <| zwi 21 ((n : Int) - 0) <| wv 10 (vi ((n : Int) - 0)) <| znt <| Z9 <| zsl <| wv 22 (vi ((n : Int) - 0)) ?_
 refine wv 23 (.bool (decide (((n : Int) - 0) ≤ 12))) <| znt ?_
 have b10 : (decide (((n : Int) - 0) ≤ 12)) = true := by exact decide_eq_true om
 have g11 := of_decide_eq_true b10
 refine Z48 _ b10 ?_
 refine zsl <| wv 24 (.slice (some ⟨g, 0, none⟩) n c) <| wv 25 (vi 0) <| wv 26 (vi n) <| zy <| zdc 27 (Z7b w2 g n c 0 n A (H3.at 0 rfl) hn om) ?_
 rintro _ w14 ⟨B13, rfl, l15, S16, h18, T17⟩
 have H20 := (Sat.turn1 (L' := [Z5K g n c B13]) (R := [ZQ w (Z5K g n c A).fp]) H3 0 [1] (by decide) rfl rfl T17).pk [0, 1]
 refine ⟨_, rfl, ?_⟩
 refine kk <| znt <| Zk <| Z4 <| Zf <| Zs <| Zf <| ZcS rfl  ?_
 exact ⟨B13, rfl, l15, S16.perm, by have q := h18; rw [← l15] at q; exact q, H20⟩
theorem ZbV (w : World) (x : Int) (hx : 0 ≤ x ∧ x ≤ 18446744073709551615) : Calls Tryz.prog 102 #[u6 x] w fun e w' => e = .returned (i6 (Lib.bitLen x.toNat)) ∧ Upd [] w w' :=
 (Go.Proofs.Any.bits_Len bitsL x w hx.1 hx.2).mono fun _ _ ⟨he, hw⟩ => ⟨he, hw ▸ Upd.refl _ _⟩
theorem Zb3 (w : World) (g n c : Nat) (A : List Int) (hT : (Z5K g n c A).ok w) (hn : n ≤ 12) :
  Calls Tryz.prog 178 #[(.slice (some ⟨g, 0, none⟩) n c)] w fun e w' => ∃ B : List Int, e = .returned (.tuple #[]) ∧ B.length = n ∧ B.Perm A ∧ Srt ltU 0 B.length B ∧ Sat w [Z5K g n c B, ZQ w (Z5K g n c A).fp] w' := by
 have H := Sat.start1 hT
 have hl := Z7N hT
 have hw := swU
 refine Zg Tryz.func178 rfl 11 rfl kn ?_
 let A0 : Value := .slice (some ⟨g, 0, none⟩) n c
 refine zsl <| wv 3 A0 <| wv 4 (vi n) <| wv 2 (vi n) <| znt <| ZG <| wv 5 A0 <| wv 6 (vi n) <| wv 7 (vi n) <| wv 8 (vu n) ?_ (hr := Z0A (z := (n : Int)) kr (Z1h om))
 refine zy <| zdq 9 (ZbV w (n : Int) om) H fun w2 H3 => ?_
 refine kk <| zy <| zdc 10 (Zcr w2 g n c (Lib.bitLen (n : Int).toNat : Int) A (H3.at 0 rfl) hn) ?_
 rintro _ w7 ⟨B6, rfl, l8, S9, s10, T11⟩
 have H12 := Sat.turn1 (L' := [Z5K g n c B6]) (R := [ZQ w (Z5K g n c A).fp]) H3 0 [1] (by decide) rfl rfl T11
 refine ⟨_, rfl, ?_⟩
 refine kk <| ZL <| Z24 ?_
 refine ZcS rfl  ?_
 exact ⟨B6, rfl, l8, S9, s10, H12⟩
end Go.Proofs.YtenihpghfdcpkaaGreat
