/- WHAT IS PROVED: contracts and plain laws of IterU, CollU. Conditions: stated with each. -/
import Derived.Shelf.SlIter.Collect
import Derived.Test.YtoaifondpohniaaGreatPL05
import Derived.Test.YtoaifondpohniaaGreatPL13
set_option maxHeartbeats 4000000
set_option maxRecDepth 100000
namespace Go.Proofs.YtoaifondpohniaaGreat
open Go.RowKit Go.Maps Go.Sort Go.Shelf
theorem infoU : (Tryz.prog.info? 27).map (fun i => (i.zero, i.size, i.bytes)) = some (some ((Value.int .u64) 0), 1, 8) := by kernel_rfl
def Z6M (w : World) (a : Addr) (x : Int) : Prop := w.cell? a = some ((Value.int .u64) x)
def ZcK : Code := Code.region 2 #[{ dst := some 5, op := Op.assign (Operand.tmp 7), type := 27, pos := "iter.go:51", after := #[], guard := none }] false
def ZcL : Code := Code.block 1 (Code.region 3 #[{ dst := some 8, op := Op.load 48 (Operand.tmp 2), type := 48, pos := "iter.go:52", after := #[], guard := none },
 { dst := some 9, op := Op.move (Operand.tmp 5), type := 27, pos := "iter.go:52", after := #[], guard := none },
 { dst := some 10, op := Op.buildSlice 48 1 #[(0, Operand.tmp 9)], type := 48, pos := "iter.go:52", after := #[{ on := 1, ground := Ground.data }], guard := none },
 { dst := some 11, op := Op.call { callee := Callee.builtin Builtin.append, args := #[Operand.tmp 8, Operand.tmp 10], argTypes := #[48, 48] }, type := 48, pos := "iter.go:52", after := #[{ on := 0, ground := Ground.data }, { on := 2, ground := Ground.data }], guard := none },
 { dst := none, op := Op.store 48 (Operand.tmp 2) (Operand.tmp 11), type := 0, pos := "iter.go:52", after := #[{ on := 3, ground := Ground.data }, { on := 3, ground := Ground.chain }, { on := 0, ground := Ground.phase }, { on := 1, ground := Ground.phase }, { on := 2, ground := Ground.phase }, { on := 3, ground := Ground.phase }], guard := none }] false)
def Z5V (fn : FuncId) (sv : Value) (b d : Nat) (st : LoopState) : Loop :=
 { state := st, pending := none, fn, tmps := #[.slice none 0 0, sv, .pointer (some ⟨b, 0, none⟩), undef, .slice none 0 0, undef, sv, undef, undef, undef, undef, undef, undef], params := #[7], assign := ZcK, body := ZcL, defers := d }
structure Z8J (w0 : World) (fn : FuncId) (sv : Value) (b l d : Nat) (ss : List Int) (W : World) : Prop where
 box : ∃ v, W.heap[b]? = some (.cells #[v] 48 (0, 0)) ∧ W.ownsRow w0.heap.size 27 1 v ss.length (ss.map (Value.int .u64))
 lp : W.heap[l]? = some (.loop (Z5V fn sv b d .ready))
 dfr : W.heap[d]? = some (.deferred (some []))
 low : Below w0.heap.size w0 W
theorem Zb6 (m : Nat) (w0 : World) (fn : FuncId) (sv : Value) (b l d : Nat) (hbl : b ≠ l) (hdl : d ≠ l) (hdb : d ≠ b) (h0b : w0.heap.size ≤ b) (h0l : w0.heap.size ≤ l) (ss : List Int) (x : Int) (W : World) (h : Z8J w0 fn sv b l d ss W) (hlen : ss.length < 1000000000) :
    YieldAt Fence.wide m Tryz.prog l #[(Value.int .u64) x] W fun e W' => e = .returned (.bool true) ∧ Z8J w0 fn sv b l d (ss ++ [x]) W' := by
  have mixed : Tryz.prog.follows .mixedOrders = true := by kernel_rfl
  have hne : (48 : TypeId) ≠ 27 := by decide
  obtain ⟨i0, hi, hz0, hz1, hz2⟩ := info_parts infoU
  obtain ⟨v, hv, hrow⟩ := h.box
  refine ⟨fn, #[.slice none 0 0, sv, .pointer (some ⟨b, 0, none⟩), undef, .slice none 0 0, undef, sv, (Value.int .u64) x, undef, undef, undef, undef, undef], ZcK, ZcL, by simpa [Z5V] using run_yield (P := Tryz.prog) (args := #[(Value.int .u64) x]) h.lp rfl, roundIn_of_wpIn trivial ?_⟩
  have hl : l < W.heap.size := Z0J h.lp
  have hbr := run_beginRound (P := Tryz.prog) h.lp rfl
  obtain ⟨W2, hW2⟩ : ∃ W2, W.putObj l (.loop { Z5V fn sv b d .ready with state := .busy }) = W2 := ⟨_, rfl⟩
  rw [hW2] at hbr
  have hg2 : W.grownBy W2 (some l) := by rw [← hW2]; exact grownBy_putObj_a _ _ _
  have hv2 : W2.heap[b]? = some (.cells #[v] 48 (0, 0)) := by rw [← hW2]; exact (World.putObj_heap_other hbl).trans hv
  have hd2 : W2.heap[d]? = some (.deferred (some [])) := by rw [← hW2]; exact (World.putObj_heap_other hdl).trans h.dfr
  have hL2 : W2.heap[l]? = some (.loop { Z5V fn sv b d .ready with state := .busy }) := by rw [← hW2]; exact World.putObj_heap_same hl
  have hrow2 : W2.ownsRow w0.heap.size 27 1 v ss.length (ss.map (Value.int .u64)) := hrow.kept hg2 (ownsRow_ne_a hrow h.lp (fun cur e => by cases e))
  have hb2 : Below w0.heap.size w0 W2 := h.low.grown hg2 h.low.size (fun k e => by cases e; exact h0l)
  obtain ⟨hc2, hf2⟩ := cell_of_box_a hv2
  have hblt : b < W2.heap.size := Z0J hv2
  have hl2 : l < W2.heap.size := Z0J hL2
  have hdlt : d < W2.heap.size := Z0J hd2
  have far : ∀ {j : Nat} {o : Obj}, W2.heap[j]? = some o → (∀ cur, o ≠ .cells cur 27 (0, 0)) → some j ≠ v.ownBlock := fun hj hno => by
    rcases ownsRow_ne_a hrow2 hj hno with e | e
    · rw [e]; simp
    · exact fun e' => e e'.symm
  have bne : ∀ cur, Obj.cells #[v] 48 (0, 0) ≠ .cells cur 27 (0, 0) := fun cur e => hne (Obj.cells.inj e).2.1
  clear hW2
  unfold ZcK
  gi_wp2_with gi_round_op_a
  unfold ZcL
  gi_wp2_with (first
    | (gi_at_builtin; refine wpListIn_append_own _ rfl _ _ 48 rfl w0.heap.size 27 i0 ((Value.int .u64) 0) 1 8 Tryz.underlying48 hi hz0 hz1 hz2 rfl (by decide) _ _ _ rfl (hrow2.alloc _) ⟨W2.heap.size, 0, none⟩ 1 1 [(Value.int .u64) x] rfl rfl (cell_one_new _ _ _) (by simp [Value.oneCell']) (by unfold maxLen; omega) (by omega) (by have := hb2.size; simp; omega) ?_; intro v' w3 hown' hg3 hnil3
       have hv3 : w3.heap[b]? = some (.cells #[v] 48 (0, 0)) := (hg3.block b (by simp; omega) (far hv2 bne)).trans ((Below.heap_alloc _ _ b hblt).trans hv2)
       obtain ⟨hc3, hf3⟩ := cell_of_box_a hv3
       obtain ⟨g', cap', hvs, _⟩ := Z58 hown' (by omega)
       subst hvs
       go_frame)
    | gi_round_op_a)
  have hg3' : (W2.alloc (.cells #[(Value.int .u64) x] 27)).grownBy w3 v.ownBlock := hg3
  have hL3 : w3.heap[l]? = some (.loop { Z5V fn sv b d .ready with state := .busy }) := (hg3'.block l (by simp; omega) (far hL2 (fun cur e => by cases e))).trans ((Below.heap_alloc _ _ l hl2).trans hL2)
  have hd3 : w3.heap[d]? = some (.deferred (some [])) := (hg3'.block d (by simp; omega) (far hd2 (fun cur e => by cases e))).trans ((Below.heap_alloc _ _ d hdlt).trans hd2)
  have hb3 : Below w0.heap.size w0 w3 := (hb2.alloc hb2.size _).grown hg3' (by have := hb2.size; simp; omega) (fun k e => (hrow2.lt k e).1)
  obtain ⟨w4, hw4⟩ : ∃ w4, w3.setCell ⟨b, 0, none⟩ (.slice (some ⟨g', 0, none⟩) (ss.length + 1) cap') = w4 := ⟨_, rfl⟩
  rw [hw4]
  have hg4 : w3.grownBy w4 (some b) := by rw [← hw4]; exact grownBy_setCell0_a _ _ _
  have hv4 : w4.heap[b]? = some (.cells #[.slice (some ⟨g', 0, none⟩) (ss.length + 1) cap'] 48 (0, 0)) := by rw [← hw4]; exact heap_setCell_box_a _ hv3
  have hL4 : w4.heap[l]? = some (.loop { Z5V fn sv b d .ready with state := .busy }) := (hg4.block l (Z0J hL3) (fun e => hbl (by cases e; rfl))).trans hL3
  have hd4 : w4.heap[d]? = some (.deferred (some [])) := (hg4.block d (Z0J hd3) (fun e => hdb (by cases e; rfl))).trans hd3
  have hrow4 := hown'.kept hg4 (ownsRow_ne_a hown' hv3 bne)
  have hb4 : Below w0.heap.size w0 w4 := hb3.grown hg4 hb3.size (fun k e => by cases e; exact h0b)
  have hl4 : l < w4.heap.size := Z0J hL4
  clear hw4
  refine ⟨_, _, run_endRound none hL4, rfl, ⟨⟨_, (World.putObj_heap_other hbl).trans hv4, ?_⟩, World.putObj_heap_same hl4, (World.putObj_heap_other hdl).trans hd4, hb4.grown (grownBy_putObj_a _ _ _) hb4.size (fun k e => by cases e; exact h0l)⟩⟩
  have := hrow4.kept (grownBy_putObj_a w4 l (.loop { { Z5V fn sv b d .ready with state := .busy } with state := if (none : Option Code).isNone then .ready else .done, pending := none })) (ownsRow_ne_a hrow4 hL4 (fun cur e => by cases e))
  simpa using this
theorem Z9O (n : Nat) (l c : Nat) (xs : List Int) (w0 : World) (v : Value) (hm : w0.cell? ⟨c, 0, none⟩ = some v) (hv : SliceOf Z6M 1 w0 v xs) (hxl : xs.length ≤ 1000000000) (J : List Int → World → Prop) (hJ : ∀ pre W, J pre W → Below w0.heap.size w0 W)
  (hY : ∀ pre x W, J pre W → pre.length < xs.length → YieldAt Fence.wide (n - 1) Tryz.prog l #[(Value.int .u64) x] W fun e W' => e = .returned (.bool true) ∧ J (pre ++ [x]) W') (W : World) (h0 : J [] W) :
  CallsIn Fence.wide n Tryz.prog 122 #[.func (.yield l) #[] #[], .pointer (some ⟨c, 0, none⟩)] W fun e W' => (∃ v, e = .returned v) ∧ J xs W' := by
 obtain ⟨a, cp, rfl⟩ := hv.len
 have hc : W.cell? ⟨c, 0, none⟩ = some (.slice a xs.length cp) := ((hJ [] W h0).cell (World.block_lt_of_cell? _ _ hm)).trans hm
 refine callsIn_of_wp Tryz.func122 rfl trivial ?_ rfl
 simp only [Tryz.ntmps122, List.size_toArray, List.length_cons, List.length_nil, Nat.reduceAdd, Nat.reduceSub, Array.replicate_succ, Array.replicate_zero, List.push_toArray, List.append_toArray, List.nil_append, List.cons_append]
 gi_wp2
 gi_loopw [7] (fun s wr => ∃ k : Nat, s = .int .i64 (k : Int) ∧ k ≤ xs.length ∧ J (xs.take k) wr) (fun s _ => xs.length - (intOf s).toNat)
 case atStart => exact ⟨0, rfl, Nat.zero_le _, by simpa using h0⟩
 case round =>
  obtain ⟨k, rfl, hk, hJk⟩ := hrel
  by_cases hlt : k < xs.length
  ·obtain ⟨b, off, cap, hvv, hcap, hall⟩ := hv.some (by omega)
   obtain ⟨rfl, _, rfl⟩ : a = some ⟨b, off, none⟩ ∧ xs.length = xs.length ∧ cp = cap := by simpa using hvv
   have hel0 : w0.cell? ⟨b, off + k, none⟩ = some ((Value.int .u64) xs[k]) := by
    have := hall k hlt
    simpa [Z6M] using this
   have hel : wr.cell? ⟨b, off + k, none⟩ = some ((Value.int .u64) xs[k]) := ((hJ _ _ hJk).cell (World.block_lt_of_cell? _ _ hel0)).trans hel0
   obtain ⟨x, hx⟩ : ∃ x, xs[k] = x := ⟨_, rfl⟩
   rw [hx] at hel
   obtain ⟨fn, tmps, assign, body, hy, hR⟩ := hY (xs.take k) x wr hJk (by rw [List.length_take]; omega)
   gi_wp2
   refine ⟨(fun h => by cases h), hR.mono ?_⟩
   rintro e W3 ⟨rfl, hJ3⟩
   gi_wp2
   go_roundw
   case rel => exact ⟨k + 1, by simp, by omega, by rw [List.take_add_one, List.getElem?_eq_getElem hlt, hx]; exact hJ3⟩
   case measure => simp [intOf]; omega
  ·gi_wp2
   go_end0
   exact ⟨⟨_, rfl⟩, by rwa [List.take_of_length_le (by omega)] at hJk⟩
theorem Z6R (c : Nat) (xs : List Int) (v : Value) (w : World) (hm : w.cell? ⟨c, 0, none⟩ = some v) (hv : SliceOf Z6M 1 w v xs) (hxl : xs.length ≤ 1000000000) :
    CallsIn Fence.wide 3 Tryz.prog 137 #[.slice none 0 0, .func (.func 122) #[] #[.pointer (some ⟨c, 0, none⟩)]] w fun e w' => ∃ u, e = .returned u ∧ w'.ownsRow w.heap.size 27 1 u xs.length (xs.map (Value.int .u64)) ∧ Below w.heap.size w w' := by
  have mixed : Tryz.prog.follows .mixedOrders = true := by kernel_rfl
  have hne : (48 : TypeId) ≠ 27 := by decide
  obtain ⟨i0, hi, hz0, hz1, hz2⟩ := info_parts infoU
  obtain ⟨sv, hsv⟩ : ∃ sv, Value.func (.func 122) #[] #[.pointer (some ⟨c, 0, none⟩)] = sv := ⟨_, rfl⟩
  refine callsIn_of_wp_marks Tryz.func137 rfl trivial ?_ rfl
  simp only [Tryz.ntmps137, List.size_toArray, List.length_cons, List.length_nil, Nat.reduceAdd, Nat.reduceSub, Array.replicate_succ, Array.replicate_zero, List.push_toArray, List.append_toArray, List.nil_append, List.cons_append]
  gi_wp2
  refine wpIn_rangeFunc ?_
  intro fn _
  obtain ⟨W0, hW0⟩ : ∃ W0, w.alloc (.cells #[.slice none 0 0] 48) = W0 := ⟨_, rfl⟩
  have hs0 : W0.heap.size = w.heap.size + 1 := by rw [← hW0]; simp
  have hv0 : W0.heap[w.heap.size]? = some (.cells #[.slice none 0 0] 48 (0, 0)) := by rw [← hW0]; exact World.alloc_heap_new w _
  have hb0 : Below w.heap.size w W0 := by rw [← hW0]; exact (Below.refl _ w).alloc (Nat.le_refl _) _
  rw [hW0]
  obtain ⟨W1, hW1⟩ : ∃ W1, (W0.alloc (.deferred (some []))).alloc (.loop (Z5V fn (.func (.func 122) #[] #[.pointer (some ⟨c, 0, none⟩)]) w.heap.size W0.heap.size .ready)) = W1 := ⟨_, rfl⟩
  have hold : ∀ k, k < W0.heap.size → W1.heap[k]? = W0.heap[k]? := fun k hk => by
    rw [← hW1]; exact (Below.heap_alloc _ _ k (by simp; omega)).trans (Below.heap_alloc _ _ k hk)
  have hb1 : Below w.heap.size w W1 := by rw [← hW1]; exact (hb0.alloc hb0.size _).alloc (by have := hb0.size; simp; omega) _
  have hM : Z8J w fn (.func (.func 122) #[] #[.pointer (some ⟨c, 0, none⟩)]) w.heap.size (W0.heap.size + 1) W0.heap.size [] W1 :=
    ⟨⟨_, (hold w.heap.size (by omega)).trans hv0, ⟨rfl, .inl ⟨rfl, rfl⟩⟩⟩,
     by rw [← hW1]; have := World.alloc_heap_new (W0.alloc (.deferred (some []))) (.loop (Z5V fn (.func (.func 122) #[] #[.pointer (some ⟨c, 0, none⟩)]) w.heap.size W0.heap.size .ready)); rwa [World.size_alloc] at this,
     by rw [← hW1]; exact (Below.heap_alloc _ _ _ (by simp)).trans (World.alloc_heap_new W0 _), hb1⟩
  refine ⟨W0.heap.size + 1, [{ target := .collected W0.heap.size, args := #[] }], W1, { target := .fn (.func 122) #[.pointer (some ⟨c, 0, none⟩)], args := #[.func (.yield (W0.heap.size + 1)) #[] #[]] }, W1, 122,
    #[.func (.yield (W0.heap.size + 1)) #[] #[], .pointer (some ⟨c, 0, none⟩)], W1, ?_, ?_, fun _ _ => trivial, ?_, (fun h => by cases h), ?_⟩
  · rw [← hW1]; exact run_enterLoop_outer _ _ _ _ _
  · simp [resolve, go_sem]
  · kernel_rfl
  · refine (Z9O 2 (W0.heap.size + 1) c xs w v hm hv hxl (Z8J w fn (.func (.func 122) #[] #[.pointer (some ⟨c, 0, none⟩)]) w.heap.size (W0.heap.size + 1) W0.heap.size) (fun _ _ h => h.low)
      (fun pre x W hJ hl => Zb6 _ w fn _ w.heap.size (W0.heap.size + 1) W0.heap.size (by omega) (by omega) (by omega) (Nat.le_refl _) (by omega) pre x W hJ (by omega)) W1 hM).mono ?_
    rintro e W2 ⟨⟨v0, rfl⟩, h2⟩
    obtain ⟨u, hu, hrow⟩ := h2.box
    have hend := run_endLoop (P := Tryz.prog) h2.lp (by simp [Z5V])
    obtain ⟨W3, hW3⟩ : ∃ W3, W2.putObj (W0.heap.size + 1) (.loop { Z5V fn (.func (.func 122) #[] #[.pointer (some ⟨c, 0, none⟩)]) w.heap.size W0.heap.size .ready with state := .exhausted }) = W3 := ⟨_, rfl⟩
    rw [hW3] at hend
    have hg3 : W2.grownBy W3 (some (W0.heap.size + 1)) := by rw [← hW3]; exact grownBy_putObj_a _ _ _
    have hu3 : W3.heap[w.heap.size]? = some (.cells #[u] 48 (0, 0)) := by rw [← hW3]; exact (World.putObj_heap_other (by omega)).trans hu
    have hK3 : W3.heap[W0.heap.size]? = some (.deferred (some [])) := by rw [← hW3]; exact (World.putObj_heap_other (by omega)).trans h2.dfr
    have hrow3 := hrow.kept hg3 (ownsRow_ne_a hrow h2.lp (fun cur e => by cases e))
    have hb3 : Below w.heap.size w W3 := h2.low.grown hg3 h2.low.size (fun k e => by cases e; omega)
    obtain ⟨hc3, hf3⟩ := cell_of_box_a hu3
    clear hW3
    refine ⟨none, W3, hend, ?_⟩
    gi_wp2
    rw [← hs0]
    refine ⟨by simp, .inl ⟨_, _, rfl, run_takeDeferred hK3, ?_⟩⟩
    exact ⟨_, results_tmp rfl _ _ _, u, rfl, hrow3.kept (grownBy_putObj_a _ _ _) (ownsRow_ne_a hrow3 hK3 (fun cur e => by cases e)), hb3.grown (grownBy_putObj_a _ _ _) hb3.size (fun k e => by cases e; omega)⟩
end Go.Proofs.YtoaifondpohniaaGreat
namespace Go.Proofs.YtoaifondpohniaaGreat
open Go.RowKit
theorem Z8M {w : World} {e size n base : Nat} {v : Value} {xs : List Value} (h : w.ownsRow base e size v n xs) : (Zk e size v n xs).ok w ∧ ∀ b, v.ownBlock = some b → base ≤ b := by
 refine ⟨⟨h.1, ?_⟩, fun b hb => ?_⟩
 ·rcases h.2 with hn | ⟨g, cap, cur, hv, hb, rest⟩
  ·exact .inl hn
  ·exact .inr ⟨g, cap, cur, hv, Nat.zero_le _, rest⟩
 ·rcases h.2 with ⟨rfl, _⟩ | ⟨g, cap, cur, rfl, hg, _⟩
  ·simp [Value.ownBlock] at hb
  ·simp [Value.ownBlock] at hb; omega
theorem mapU (xs : List Int) : xs.map (Value.int .u64) = xs.flatMap Z3y := by
 induction xs with
 | nil => rfl
 | cons x xs ih => rw [List.map_cons, List.flatMap_cons, ih]; rfl
theorem Z65 (w : World) (b : Nat) (v : Value) (xs : List Int) (hb : (Z0 b 48 [v]).ok w) (hv : ListAt Z3y 1 w v xs) (hx : xs.length ≤ 1000000000) :
  Calls Tryz.prog 137 #[.slice none 0 0, .func (.func 122) #[] #[.pointer (some ⟨b, 0, none⟩)]] w fun e w' => ∃ u, e = .returned u ∧ (Zk 27 1 u xs.length (xs.flatMap Z3y)).ok w' ∧ Upd [] w w' ∧ ∀ k, u.ownBlock = some k → w.heap.size ≤ k := by
 have hm : w.cell? ⟨b, 0, none⟩ = some v := by rw [Z15 hb 0]; rfl
 have hv' : SliceOf Z6M 1 w v xs := by
  rcases hv with h | ⟨h0, b', o, c', e, hc, h⟩
  ·exact .inl h
  ·exact .inr ⟨h0, b', o, c', e, hc, fun i hi => by have := h i hi 0 ((Value.int .u64) xs[i]) rfl; rw [Addr.add_lit] at this; exact this⟩
 refine (callsIn_wide.1 (Z6R b xs v w hm hv' hx)).mono ?_
 rintro e w' ⟨u, rfl, h, hl⟩
 obtain ⟨h1, h2⟩ := Z8M h
 exact ⟨u, rfl, mapU xs ▸ h1, Below.upd hl, h2⟩
end Go.Proofs.YtoaifondpohniaaGreat
