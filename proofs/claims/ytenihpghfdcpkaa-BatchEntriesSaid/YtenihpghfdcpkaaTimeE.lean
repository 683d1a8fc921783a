/- WHAT IS PROVED: the time of a certificate, program's and document's: contracts. Conditions: stated with each. -/
import Derived.Test.YtenihpghfdcpkaaSortU
import Derived.Shelf.SlIter.Collect
import Derived.Test.YtenihpghfdcpkaaListAt
import Derived.Test.YtenihpghfdcpkaaLaid12
import Derived.Test.YtenihpghfdcpkaaBits
import Derived.Test.YtenihpghfdcpkaaMedMath
import Derived.Test.YtenihpghfdcpkaaMinMax
import Derived.Test.YtenihpghfdcpkaaRightD
namespace Go.Proofs.Ytenihpghfdcpkaa
open Go.RowKit Go.Maps Go.Sort Go.Shelf
theorem infoU : (Try.prog.info? 22).map (fun i => (i.zero, i.size, i.bytes)) = some (some ((Value.int .u64) 0), 1, 8) := by kernel_rfl
def CellOfU (w : World) (a : Addr) (x : Int) : Prop := w.cell? a = some ((Value.int .u64) x)
def seqAU : Code := Code.region 2 #[{ dst := some 5, op := Op.assign (Operand.tmp 7), type := 22, pos := "iter.go:51", after := #[], guard := none }] false
def seqBU : Code := Code.block 1 (Code.region 3 #[{ dst := some 8, op := Op.load 115 (Operand.tmp 2), type := 115, pos := "iter.go:52", after := #[], guard := none },
  { dst := some 9, op := Op.move (Operand.tmp 5), type := 22, pos := "iter.go:52", after := #[], guard := none },
  { dst := some 10, op := Op.buildSlice 115 1 #[(0, Operand.tmp 9)], type := 115, pos := "iter.go:52", after := #[{ on := 1, ground := Ground.data }], guard := none },
  { dst := some 11, op := Op.call { callee := Callee.builtin Builtin.append, args := #[Operand.tmp 8, Operand.tmp 10], argTypes := #[115, 115] }, type := 115, pos := "iter.go:52", after := #[{ on := 0, ground := Ground.data }, { on := 2, ground := Ground.data }], guard := none },
  { dst := none, op := Op.store 115 (Operand.tmp 2) (Operand.tmp 11), type := 0, pos := "iter.go:52", after := #[{ on := 3, ground := Ground.data }, { on := 3, ground := Ground.chain }, { on := 0, ground := Ground.phase }, { on := 1, ground := Ground.phase }, { on := 2, ground := Ground.phase }, { on := 3, ground := Ground.phase }], guard := none }] false)
/-- the loop's record -/
def seqRU (fn : FuncId) (sv : Value) (b d : Nat) (st : LoopState) : Loop :=
  { state := st, pending := none, fn, tmps := #[.slice none 0 0, sv, .pointer (some ⟨b, 0, none⟩), undef, .slice none 0 0, undef, sv, undef, undef, undef, undef, undef, undef], params := #[7], assign := seqAU, body := seqBU, defers := d }
/-- between two rounds, so much having come -/
structure SeqAtU (w0 : World) (fn : FuncId) (sv : Value) (b l d : Nat) (ss : List Int) (W : World) : Prop where
  box : ∃ v, W.heap[b]? = some (.cells #[v] 115 (0, 0)) ∧ W.ownsRow w0.heap.size 22 1 v ss.length (ss.map (Value.int .u64))
  lp : W.heap[l]? = some (.loop (seqRU fn sv b d .ready))
  dfr : W.heap[d]? = some (.deferred (some []))
  low : Below w0.heap.size w0 W
set_option maxRecDepth 100000 in
set_option maxHeartbeats 2000000 in
theorem seqYieldU (m : Nat) (w0 : World) (fn : FuncId) (sv : Value) (b l d : Nat) (hbl : b ≠ l) (hdl : d ≠ l) (hdb : d ≠ b) (h0b : w0.heap.size ≤ b) (h0l : w0.heap.size ≤ l) (ss : List Int) (x : Int) (W : World) (h : SeqAtU w0 fn sv b l d ss W) (hlen : ss.length < 1000000000) :
    YieldAt Fence.wide m Try.prog l #[(Value.int .u64) x] W fun e W' => e = .returned (.bool true) ∧ SeqAtU w0 fn sv b l d (ss ++ [x]) W' := by
  have mixed : Try.prog.follows .mixedOrders = true := by kernel_rfl
  have hne : (115 : TypeId) ≠ 22 := by decide
  obtain ⟨i0, hi, hz0, hz1, hz2⟩ := info_parts infoU
  obtain ⟨v, hv, hrow⟩ := h.box
  refine ⟨fn, #[.slice none 0 0, sv, .pointer (some ⟨b, 0, none⟩), undef, .slice none 0 0, undef, sv, (Value.int .u64) x, undef, undef, undef, undef, undef], seqAU, seqBU, by simpa [seqRU] using run_yield (P := Try.prog) (args := #[(Value.int .u64) x]) h.lp rfl, roundIn_of_wpIn trivial ?_⟩
  have hl : l < W.heap.size := heap_lt h.lp
  have hbr := run_beginRound (P := Try.prog) h.lp rfl
  obtain ⟨W2, hW2⟩ : ∃ W2, W.putObj l (.loop { seqRU fn sv b d .ready with state := .busy }) = W2 := ⟨_, rfl⟩
  rw [hW2] at hbr
  have hg2 : W.grownBy W2 (some l) := by rw [← hW2]; exact grownBy_putObj_a _ _ _
  have hv2 : W2.heap[b]? = some (.cells #[v] 115 (0, 0)) := by rw [← hW2]; exact (World.putObj_heap_other hbl).trans hv
  have hd2 : W2.heap[d]? = some (.deferred (some [])) := by rw [← hW2]; exact (World.putObj_heap_other hdl).trans h.dfr
  have hL2 : W2.heap[l]? = some (.loop { seqRU fn sv b d .ready with state := .busy }) := by rw [← hW2]; exact World.putObj_heap_same hl
  have hrow2 : W2.ownsRow w0.heap.size 22 1 v ss.length (ss.map (Value.int .u64)) := hrow.kept hg2 (ownsRow_ne_a hrow h.lp (fun cur e => by cases e))
  have hb2 : Below w0.heap.size w0 W2 := h.low.grown hg2 h.low.size (fun k e => by cases e; exact h0l)
  obtain ⟨hc2, hf2⟩ := cell_of_box_a hv2
  have hblt : b < W2.heap.size := heap_lt hv2
  have hl2 : l < W2.heap.size := heap_lt hL2
  have hdlt : d < W2.heap.size := heap_lt hd2
  have far : ∀ {j : Nat} {o : Obj}, W2.heap[j]? = some o → (∀ cur, o ≠ .cells cur 22 (0, 0)) → some j ≠ v.ownBlock := fun hj hno => by
    rcases ownsRow_ne_a hrow2 hj hno with e | e
    · rw [e]; simp
    · exact fun e' => e e'.symm
  have bne : ∀ cur, Obj.cells #[v] 115 (0, 0) ≠ .cells cur 22 (0, 0) := fun cur e => hne (Obj.cells.inj e).2.1
  clear hW2
  unfold seqAU
  gi_wp2_with gi_round_op_a
  unfold seqBU
  gi_wp2_with (first
    | (gi_at_builtin; refine wpListIn_append_own _ rfl _ _ 115 rfl w0.heap.size 22 i0 ((Value.int .u64) 0) 1 8 Try.underlying115 hi hz0 hz1 hz2 rfl (by decide) _ _ _ rfl (hrow2.alloc _) ⟨W2.heap.size, 0, none⟩ 1 1 [(Value.int .u64) x] rfl rfl (cell_one_new _ _ _) (by simp [Value.oneCell']) (by unfold maxLen; omega) (by omega) (by have := hb2.size; simp; omega) ?_; intro v' w3 hown' hg3 hnil3
       have hv3 : w3.heap[b]? = some (.cells #[v] 115 (0, 0)) := (hg3.block b (by simp; omega) (far hv2 bne)).trans ((Below.heap_alloc _ _ b hblt).trans hv2)
       obtain ⟨hc3, hf3⟩ := cell_of_box_a hv3
       obtain ⟨g', cap', hvs, _⟩ := ownsRow_cell hown' (by omega)
       subst hvs
       go_frame)
    | gi_round_op_a)
  have hg3' : (W2.alloc (.cells #[(Value.int .u64) x] 22)).grownBy w3 v.ownBlock := hg3
  have hL3 : w3.heap[l]? = some (.loop { seqRU fn sv b d .ready with state := .busy }) := (hg3'.block l (by simp; omega) (far hL2 (fun cur e => by cases e))).trans ((Below.heap_alloc _ _ l hl2).trans hL2)
  have hd3 : w3.heap[d]? = some (.deferred (some [])) := (hg3'.block d (by simp; omega) (far hd2 (fun cur e => by cases e))).trans ((Below.heap_alloc _ _ d hdlt).trans hd2)
  have hb3 : Below w0.heap.size w0 w3 := (hb2.alloc hb2.size _).grown hg3' (by have := hb2.size; simp; omega) (fun k e => (hrow2.lt k e).1)
  obtain ⟨w4, hw4⟩ : ∃ w4, w3.setCell ⟨b, 0, none⟩ (.slice (some ⟨g', 0, none⟩) (ss.length + 1) cap') = w4 := ⟨_, rfl⟩
  rw [hw4]
  have hg4 : w3.grownBy w4 (some b) := by rw [← hw4]; exact grownBy_setCell0_a _ _ _
  have hv4 : w4.heap[b]? = some (.cells #[.slice (some ⟨g', 0, none⟩) (ss.length + 1) cap'] 115 (0, 0)) := by rw [← hw4]; exact heap_setCell_box_a _ hv3
  have hL4 : w4.heap[l]? = some (.loop { seqRU fn sv b d .ready with state := .busy }) := (hg4.block l (heap_lt hL3) (fun e => hbl (by cases e; rfl))).trans hL3
  have hd4 : w4.heap[d]? = some (.deferred (some [])) := (hg4.block d (heap_lt hd3) (fun e => hdb (by cases e; rfl))).trans hd3
  have hrow4 := hown'.kept hg4 (ownsRow_ne_a hown' hv3 bne)
  have hb4 : Below w0.heap.size w0 w4 := hb3.grown hg4 hb3.size (fun k e => by cases e; exact h0b)
  have hl4 : l < w4.heap.size := heap_lt hL4
  clear hw4
  refine ⟨_, _, run_endRound none hL4, rfl, ⟨⟨_, (World.putObj_heap_other hbl).trans hv4, ?_⟩, World.putObj_heap_same hl4, (World.putObj_heap_other hdl).trans hd4, hb4.grown (grownBy_putObj_a _ _ _) hb4.size (fun k e => by cases e; exact h0l)⟩⟩
  have := hrow4.kept (grownBy_putObj_a w4 l (.loop { { seqRU fn sv b d .ready with state := .busy } with state := if (none : Option Code).isNone then .ready else .done, pending := none })) (ownsRow_ne_a hrow4 hL4 (fun cur e => by cases e))
  simpa using this
set_option maxRecDepth 100000 in
set_option maxHeartbeats 1000000 in
/-- the iterator over a list: its things come, one behind the other -/
theorem valuesU_in (n : Nat) (l c : Nat) (xs : List Int) (w0 : World) (v : Value) (hm : w0.cell? ⟨c, 0, none⟩ = some v) (hv : SliceOf CellOfU 1 w0 v xs) (hxl : xs.length ≤ 1000000000) (J : List Int → World → Prop) (hJ : ∀ pre W, J pre W → Below w0.heap.size w0 W)
    (hY : ∀ pre x W, J pre W → pre.length < xs.length → YieldAt Fence.wide (n - 1) Try.prog l #[(Value.int .u64) x] W fun e W' => e = .returned (.bool true) ∧ J (pre ++ [x]) W') (W : World) (h0 : J [] W) :
    CallsIn Fence.wide n Try.prog 76 #[.func (.yield l) #[] #[], .pointer (some ⟨c, 0, none⟩)] W fun e W' => (∃ v, e = .returned v) ∧ J xs W' := by
  obtain ⟨a, cp, rfl⟩ := hv.len
  have hc : W.cell? ⟨c, 0, none⟩ = some (.slice a xs.length cp) := ((hJ [] W h0).cell (World.block_lt_of_cell? _ _ hm)).trans hm
  refine callsIn_of_wp Try.func76 rfl trivial ?_ rfl
  simp only [Try.ntmps76, List.size_toArray, List.length_cons, List.length_nil, Nat.reduceAdd, Nat.reduceSub, Array.replicate_succ, Array.replicate_zero, List.push_toArray, List.append_toArray, List.nil_append, List.cons_append]
  gi_wp2
  gi_loopw [7] (fun s wr => ∃ k : Nat, s = .int .i64 (k : Int) ∧ k ≤ xs.length ∧ J (xs.take k) wr) (fun s _ => xs.length - (intOf s).toNat)
  case atStart => exact ⟨0, rfl, Nat.zero_le _, by simpa using h0⟩
  case round =>
    obtain ⟨k, rfl, hk, hJk⟩ := hrel
    by_cases hlt : k < xs.length
    · obtain ⟨b, off, cap, hvv, hcap, hall⟩ := hv.some (by omega)
      obtain ⟨rfl, _, rfl⟩ : a = some ⟨b, off, none⟩ ∧ xs.length = xs.length ∧ cp = cap := by simpa using hvv
      have hel0 : w0.cell? ⟨b, off + k, none⟩ = some ((Value.int .u64) xs[k]) := by
        have := hall k hlt
        simpa [CellOfU] using this
      have hel : wr.cell? ⟨b, off + k, none⟩ = some ((Value.int .u64) xs[k]) := ((hJ _ _ hJk).cell (World.block_lt_of_cell? _ _ hel0)).trans hel0
      obtain ⟨x, hx⟩ : ∃ x, xs[k] = x := ⟨_, rfl⟩
      rw [hx] at hel
      obtain ⟨fn, tmps, assign, body, hy, hR⟩ := hY (xs.take k) x wr hJk (by rw [List.length_take]; omega)
      gi_wp2
      refine ⟨(fun h => by cases h), hR.mono ?_⟩
      rintro e W3 ⟨rfl, hJ3⟩
      gi_wp2
      go_roundw
      case rel => exact ⟨k + 1, by simp, by omega, by rw [List.take_add_one, List.getElem?_eq_getElem hlt, hx]; exact hJ3⟩
      case measure => simp [intOf]; omega
    · gi_wp2
      go_end0
      exact ⟨⟨_, rfl⟩, by rwa [List.take_of_length_le (by omega)] at hJk⟩
set_option maxRecDepth 100000 in
set_option maxHeartbeats 2000000 in
/-- all that the iterator gives, in a list of the call's own -/
theorem appendSeqU_in (c : Nat) (xs : List Int) (v : Value) (w : World) (hm : w.cell? ⟨c, 0, none⟩ = some v) (hv : SliceOf CellOfU 1 w v xs) (hxl : xs.length ≤ 1000000000) :
    CallsIn Fence.wide 3 Try.prog 83 #[.slice none 0 0, .func (.func 76) #[] #[.pointer (some ⟨c, 0, none⟩)]] w fun e w' => ∃ u, e = .returned u ∧ w'.ownsRow w.heap.size 22 1 u xs.length (xs.map (Value.int .u64)) ∧ Below w.heap.size w w' := by
  have mixed : Try.prog.follows .mixedOrders = true := by kernel_rfl
  have hne : (115 : TypeId) ≠ 22 := by decide
  obtain ⟨i0, hi, hz0, hz1, hz2⟩ := info_parts infoU
  obtain ⟨sv, hsv⟩ : ∃ sv, Value.func (.func 76) #[] #[.pointer (some ⟨c, 0, none⟩)] = sv := ⟨_, rfl⟩
  refine callsIn_of_wp_marks Try.func83 rfl trivial ?_ rfl
  simp only [Try.ntmps83, List.size_toArray, List.length_cons, List.length_nil, Nat.reduceAdd, Nat.reduceSub, Array.replicate_succ, Array.replicate_zero, List.push_toArray, List.append_toArray, List.nil_append, List.cons_append]
  gi_wp2
  refine wpIn_rangeFunc ?_
  intro fn _
  obtain ⟨W0, hW0⟩ : ∃ W0, w.alloc (.cells #[.slice none 0 0] 115) = W0 := ⟨_, rfl⟩
  have hs0 : W0.heap.size = w.heap.size + 1 := by rw [← hW0]; simp
  have hv0 : W0.heap[w.heap.size]? = some (.cells #[.slice none 0 0] 115 (0, 0)) := by rw [← hW0]; exact World.alloc_heap_new w _
  have hb0 : Below w.heap.size w W0 := by rw [← hW0]; exact (Below.refl _ w).alloc (Nat.le_refl _) _
  rw [hW0]
  obtain ⟨W1, hW1⟩ : ∃ W1, (W0.alloc (.deferred (some []))).alloc (.loop (seqRU fn (.func (.func 76) #[] #[.pointer (some ⟨c, 0, none⟩)]) w.heap.size W0.heap.size .ready)) = W1 := ⟨_, rfl⟩
  have hold : ∀ k, k < W0.heap.size → W1.heap[k]? = W0.heap[k]? := fun k hk => by
    rw [← hW1]; exact (Below.heap_alloc _ _ k (by simp; omega)).trans (Below.heap_alloc _ _ k hk)
  have hb1 : Below w.heap.size w W1 := by rw [← hW1]; exact (hb0.alloc hb0.size _).alloc (by have := hb0.size; simp; omega) _
  have hM : SeqAtU w fn (.func (.func 76) #[] #[.pointer (some ⟨c, 0, none⟩)]) w.heap.size (W0.heap.size + 1) W0.heap.size [] W1 :=
    ⟨⟨_, (hold w.heap.size (by omega)).trans hv0, ⟨rfl, .inl ⟨rfl, rfl⟩⟩⟩,
     by rw [← hW1]; have := World.alloc_heap_new (W0.alloc (.deferred (some []))) (.loop (seqRU fn (.func (.func 76) #[] #[.pointer (some ⟨c, 0, none⟩)]) w.heap.size W0.heap.size .ready)); rwa [World.size_alloc] at this,
     by rw [← hW1]; exact (Below.heap_alloc _ _ _ (by simp)).trans (World.alloc_heap_new W0 _), hb1⟩
  refine ⟨W0.heap.size + 1, [{ target := .collected W0.heap.size, args := #[] }], W1, { target := .fn (.func 76) #[.pointer (some ⟨c, 0, none⟩)], args := #[.func (.yield (W0.heap.size + 1)) #[] #[]] }, W1, 76,
    #[.func (.yield (W0.heap.size + 1)) #[] #[], .pointer (some ⟨c, 0, none⟩)], W1, ?_, ?_, fun _ _ => trivial, ?_, (fun h => by cases h), ?_⟩
  · rw [← hW1]; exact run_enterLoop_outer _ _ _ _ _
  · simp [resolve, go_sem]
  · kernel_rfl
  · refine (valuesU_in 2 (W0.heap.size + 1) c xs w v hm hv hxl (SeqAtU w fn (.func (.func 76) #[] #[.pointer (some ⟨c, 0, none⟩)]) w.heap.size (W0.heap.size + 1) W0.heap.size) (fun _ _ h => h.low)
      (fun pre x W hJ hl => seqYieldU _ w fn _ w.heap.size (W0.heap.size + 1) W0.heap.size (by omega) (by omega) (by omega) (Nat.le_refl _) (by omega) pre x W hJ (by omega)) W1 hM).mono ?_
    rintro e W2 ⟨⟨v0, rfl⟩, h2⟩
    obtain ⟨u, hu, hrow⟩ := h2.box
    have hend := run_endLoop (P := Try.prog) h2.lp (by simp [seqRU])
    obtain ⟨W3, hW3⟩ : ∃ W3, W2.putObj (W0.heap.size + 1) (.loop { seqRU fn (.func (.func 76) #[] #[.pointer (some ⟨c, 0, none⟩)]) w.heap.size W0.heap.size .ready with state := .exhausted }) = W3 := ⟨_, rfl⟩
    rw [hW3] at hend
    have hg3 : W2.grownBy W3 (some (W0.heap.size + 1)) := by rw [← hW3]; exact grownBy_putObj_a _ _ _
    have hu3 : W3.heap[w.heap.size]? = some (.cells #[u] 115 (0, 0)) := by rw [← hW3]; exact (World.putObj_heap_other (by omega)).trans hu
    have hK3 : W3.heap[W0.heap.size]? = some (.deferred (some [])) := by rw [← hW3]; exact (World.putObj_heap_other (by omega)).trans h2.dfr
    have hrow3 := hrow.kept hg3 (ownsRow_ne_a hrow h2.lp (fun cur e => by cases e))
    have hb3 : Below w.heap.size w W3 := h2.low.grown hg3 h2.low.size (fun k e => by cases e; omega)
    obtain ⟨hc3, hf3⟩ := cell_of_box_a hu3
    clear hW3
    refine ⟨none, W3, hend, ?_⟩
    gi_wp2
    rw [← hs0]
    refine ⟨by simp, .inl ⟨_, _, rfl, run_takeDeferred hK3, ?_⟩⟩
    exact ⟨_, results_tmp rfl _ _ _, u, rfl, hrow3.kept (grownBy_putObj_a _ _ _) (ownsRow_ne_a hrow3 hK3 (fun cur e => by cases e)), hb3.grown (grownBy_putObj_a _ _ _) hb3.size (fun k e => by cases e; omega)⟩
end Go.Proofs.Ytenihpghfdcpkaa
namespace Go.Proofs.Ytenihpghfdcpkaa
open Go.RowKit
theorem ListAt.ofCells {α : Type} {enc : α → List Value} {sz b T n : Nat} {w : World} {xs : List α} {vs : List Value} (hs : ∀ x, (enc x).length = sz) (hp : 0 < n ∧ n ≤ 1000000) (hn : xs.length = n) (h : (cellC b T vs).ok w) (hv : vs = xs.flatMap enc) : ListAt enc sz w (.slice (some ⟨b, 0, none⟩) n n) xs := by
  subst hv; subst hn
  refine .inr ⟨hp.1, b, 0, xs.length, rfl, ⟨Nat.le_refl _, by unfold maxLen; omega⟩, fun i hi j u hj => ?_⟩
  have hjl : j < sz := by rw [← hs xs[i]]; exact (List.getElem?_eq_some_iff.1 hj).1
  rw [Addr.add_lit, cell_of_heap h]
  have := flat_get enc sz hs xs i j xs[i] (List.getElem?_eq_getElem hi) hjl
  simpa [this] using hj
theorem cell_own {w : World} {e size n base : Nat} {v : Value} {xs : List Value} (h : w.ownsRow base e size v n xs) : (rowC e size v n xs).ok w ∧ ∀ b, v.ownBlock = some b → base ≤ b := by
  refine ⟨⟨h.1, ?_⟩, fun b hb => ?_⟩
  · rcases h.2 with hn | ⟨g, cap, cur, hv, hb, rest⟩
    · exact .inl hn
    · exact .inr ⟨g, cap, cur, hv, Nat.zero_le _, rest⟩
  · rcases h.2 with ⟨rfl, _⟩ | ⟨g, cap, cur, rfl, hg, _⟩
    · simp [Value.ownBlock] at hb
    · simp [Value.ownBlock] at hb; omega
theorem mapU (xs : List Int) : xs.map (Value.int .u64) = xs.flatMap encU := by
  induction xs with
  | nil => rfl
  | cons x xs ih => rw [List.map_cons, List.flatMap_cons, ih]; rfl
theorem appendSeqU_any (w : World) (b : Nat) (v : Value) (xs : List Int) (hb : (cellC b 115 [v]).ok w) (hv : ListAt encU 1 w v xs) (hx : xs.length ≤ 1000000000) :
    Calls Try.prog 83 #[.slice none 0 0, .func (.func 76) #[] #[.pointer (some ⟨b, 0, none⟩)]] w fun e w' => ∃ u, e = .returned u ∧ (rowC 22 1 u xs.length (xs.flatMap encU)).ok w' ∧ Upd [] w w' ∧ ∀ k, u.ownBlock = some k → w.heap.size ≤ k := by
  have hm : w.cell? ⟨b, 0, none⟩ = some v := by rw [cell_of_heap hb 0]; rfl
  have hv' : SliceOf CellOfU 1 w v xs := by
    rcases hv with h | ⟨h0, b', o, c', e, hc, h⟩
    · exact .inl h
    · exact .inr ⟨h0, b', o, c', e, hc, fun i hi => by have := h i hi 0 ((Value.int .u64) xs[i]) rfl; rw [Addr.add_lit] at this; exact this⟩
  refine (callsIn_wide.1 (appendSeqU_in b xs v w hm hv' hx)).mono ?_
  rintro e w' ⟨u, rfl, h, hl⟩
  obtain ⟨h1, h2⟩ := cell_own h
  exact ⟨u, rfl, mapU xs ▸ h1, Below.upd hl, h2⟩
end Go.Proofs.Ytenihpghfdcpkaa
namespace Go.Proofs.Ytenihpghfdcpkaa
open Go.RowKit

set_option maxRecDepth 100000 in
set_option maxHeartbeats 400000 in
theorem nanU_any (w : World) (x : Int) :
    Calls Try.prog 45 #[(.int .u64 (x))] w fun e w' => e = .returned (.bool false) ∧ Upd [] w w' := by
  have H := Sat.start0 w
  refine calls_fr Try.func45 rfl 6 rfl (Nat.le_of_ble_eq_true rfl) ?_
  refine w_seq ?_
  refine w_lit ?_
  refine wl_pure (wants0 rfl) (d := 2) (v := (.bool false)) rfl (by kernel_rfl) ?_
  refine w_nil ?_
  refine then_normal ?_
  refine w_seq ?_
  refine w_lit ?_
  refine wl_pure (wants0 rfl) (d := 3) (v := (.int .u64 (x))) rfl (by kernel_rfl) ?_
  refine wl_pure (wants0 rfl) (d := 4) (v := (.int .u64 (x))) rfl (by kernel_rfl) ?_
  refine wl_pure (wants0 rfl) (d := 5) (v := (.bool (!(decide (x = x))))) rfl (by kernel_rfl) ?_
  refine wl_pure (wants0 rfl) (d := 2) (v := (.bool (!(decide (x = x))))) rfl (by kernel_rfl) ?_
  refine w_nil ?_
  refine then_normal ?_
  refine w_ret ?_
  refine end1 rfl (res_tmp (v := (.bool (!(decide (x = x))))) rfl) ?_
  exact ⟨by simp, H.upd 0 rfl [] (fun _ h => h.elim)⟩

set_option maxRecDepth 100000 in
set_option maxHeartbeats 400000 in
theorem lessU_any (w : World) (x y : Int) :
    Calls Try.prog 92 #[(.int .u64 (x)), (.int .u64 (y))] w fun e w' => e = .returned (.bool (ltU x y)) ∧ Upd [] w w' := by
  have H := Sat.start0 w
  refine calls_fr Try.func92 rfl 17 rfl (Nat.le_of_ble_eq_true rfl) ?_
  refine w_seq ?_
  refine w_lit ?_
  refine wl_pure (wants0 rfl) (d := 4) (v := (.bool false)) rfl (by kernel_rfl) ?_
  refine w_nil ?_
  refine then_normal ?_
  refine w_seq ?_
  refine w_lit ?_
  refine wl_pure (wants0 rfl) (d := 5) (v := (.int .u64 (x))) rfl (by kernel_rfl) ?_
  refine wl_do (wants0 rfl) (fun K1 hK1 => ?_)
  refine d_call (d := 6) rfl (by kernel_rfl) (nanU_any w x) ?_
  rintro _ w2 ⟨rfl, u4⟩
  have H3 := H.keepU u4
  refine ⟨_, rfl, ?_⟩
  refine hK1 _ _ ?_
  clear hK1 K1
  refine wl_pure (wants0 rfl) (d := 7) (v := (.bool false)) rfl (by kernel_rfl) ?_
  refine wl_pass (wantsN 2 7 true rfl (by kernel_rfl) rfl (by kernel_rfl)) rfl ?_
  refine wl_pass (wantsN 2 7 true rfl (by kernel_rfl) rfl (by kernel_rfl)) rfl ?_
  refine wl_pass (wantsN 2 7 true rfl (by kernel_rfl) rfl (by kernel_rfl)) rfl ?_
  refine wl_pure (wants0 rfl) (d := 11) (v := (.bool false)) rfl (by kernel_rfl) ?_
  refine wl_pure (wants0 rfl) (d := 12) (v := (.bool false)) rfl (by kernel_rfl) ?_
  refine wl_pure (wantsY 7 12 false rfl (by kernel_rfl) rfl (by kernel_rfl)) (d := 13) (v := (.int .u64 (x))) rfl (by kernel_rfl) ?_
  refine wl_pure (wantsY 7 12 false rfl (by kernel_rfl) rfl (by kernel_rfl)) (d := 14) (v := (.int .u64 (y))) rfl (by kernel_rfl) ?_
  refine wl_pure (wantsY 7 12 false rfl (by kernel_rfl) rfl (by kernel_rfl)) (d := 15) (v := (.bool (decide (x < y)))) rfl (by kernel_rfl) ?_
  refine wl_pure (wants0 rfl) (d := 16) (v := (.bool (decide (x < y)))) rfl (by kernel_rfl) ?_
  refine wl_pure (wants0 rfl) (d := 4) (v := (.bool (decide (x < y)))) rfl (by kernel_rfl) ?_
  refine w_nil ?_
  refine then_normal ?_
  refine w_ret ?_
  refine end1 rfl (res_tmp (v := (.bool (decide (x < y)))) rfl) ?_
  exact ⟨rfl, H3.upd 0 rfl [] (fun _ h => h.elim)⟩

set_option maxRecDepth 100000 in
set_option maxHeartbeats 1000000 in
theorem insertionU_any (w : World) (g n c a b : Nat) (A : List Int) (hT : (rowU g n c A).ok w) (hn : n ≤ 1000000000000) (hab : a ≤ b ∧ b ≤ n) :
    Calls Try.prog 86 #[(.slice (some ⟨g, 0, none⟩) n c), (.int .i64 ((a : Int))), (.int .i64 ((b : Int)))] w fun e w' => ∃ B : List Int, e = .returned (.tuple #[]) ∧ B.length = n ∧ SegP a b A B ∧ Srt ltU a b B ∧ Sat w [rowU g n c B, restC w (rowU g n c A).fp] w' := by
  have H : Sat w [rowU g n c A, restC w (rowU g n c A).fp] w := Sat.start1 hT
  have hl := rowU_len hT
  have hw := swU
  refine calls_fr Try.func86 rfl 49 rfl (Nat.le_of_ble_eq_true rfl) ?_
  refine w_seq ?_
  refine w_lit ?_
  refine wl_pure (wants0 rfl) (d := 8) (v := (.int .i64 ((a : Int)))) rfl (by kernel_rfl) ?_
  refine wl_pure (wants0 rfl) (d := 9) (v := (.int .i64 ((a : Int) + 1))) rfl (e_int (z := (a : Int) + 1) (by kernel_rfl) (IntWalk.i64_in _ (by omega))) ?_
  refine wl_pure (wants0 rfl) (d := 6) (v := (.int .i64 ((a : Int) + 1))) rfl (by kernel_rfl) ?_
  refine w_nil ?_
  refine then_normal ?_
  refine w_block ?_
  refine wp_round [6, 7, 10, 11, 12, 13, 14, 15, 16, 17, 18, 19, 20, 21, 22, 23, 24, 25, 26, 27, 28, 29, 30, 31, 32, 33, 34, 35, 36, 37, 38, 39, 40, 41, 42, 43, 44, 45, 46, 47, 48] (fun F_ W_ m_ => ∃ (i : Nat) (B : List Int), F_ 6 = (.int .i64 ((i : Int))) ∧ (a + 1 ≤ i ∧ (i ≤ b ∨ i = a + 1)) ∧ (B.length = n) ∧ (SegP a b A B) ∧ (Srt ltU a i B) ∧ Sat w [rowU g n c B, restC w (rowU g n c A).fp] W_ ∧ m_ = b - i) _ ⟨(a + 1), A, (show ((.int .i64 ((a : Int) + 1)) : Value) = _ by first | rfl | go_num), (by omega), hl, .refl, (Srt.short (by omega)), H, rfl⟩ ?_
  rintro g1 w2 _ ⟨i, B, v4, hi, hlB, hS, hs, H3, rfl⟩
  refine wp_know 6 _ v4 ?_
  refine w_seq ?_
  refine w_seq ?_
  refine w_lit ?_
  refine wl_pure (wants0 rfl) (d := 10) (v := (.int .i64 ((i : Int)))) rfl (by kernel_rfl) ?_
  refine wl_pure (wants0 rfl) (d := 11) (v := (.int .i64 ((b : Int)))) rfl (by kernel_rfl) ?_
  refine wl_pure (wants0 rfl) (d := 12) (v := (.bool (decide ((i : Int) < (b : Int))))) rfl (by kernel_rfl) ?_
  refine w_nil ?_
  refine then_normal ?_
  refine (bsplit (decide ((i : Int) < (b : Int)))).elim (fun b6 => ?_) (fun b6 => ?_)
  · have g7 := of_decide_eq_true b6
    refine wp_know 12 (.bool true) (congrArg Value.bool b6) ?_
    have g8 := of_decide_eq_true b6
    refine wp_ift rfl ?_
    refine w_skip ?_
    refine then_normal ?_
    refine w_seq ?_
    refine w_block ?_
    refine w_seq ?_
    refine w_lit ?_
    refine wl_pure (wants0 rfl) (d := 15) (v := (.int .i64 ((i : Int)))) rfl (by kernel_rfl) ?_
    refine wl_pure (wants0 rfl) (d := 7) (v := (.int .i64 ((i : Int)))) rfl (by kernel_rfl) ?_
    refine w_nil ?_
    refine then_normal ?_
    refine w_block ?_
    refine wp_round [7, 16, 17, 18, 19, 20, 21, 22, 23, 24, 25, 26, 27, 28, 29, 30, 31, 32, 33, 34, 35, 36, 37, 38, 39, 40, 41, 42, 43, 44, 45, 46, 47, 48] (fun F_ W_ m_ => ∃ (j : Nat) (C : List Int), F_ 7 = (.int .i64 ((j : Int))) ∧ (a ≤ j ∧ j ≤ i) ∧ (C.length = n) ∧ (SegP a b A C) ∧ (Ins ltU a i j C) ∧ Sat w [rowU g n c C, restC w (rowU g n c A).fp] W_ ∧ m_ = j + 1) _ ⟨i, B, (show ((.int .i64 ((i : Int))) : Value) = _ by first | rfl | go_num), (by omega), hlB, hS, (Ins.start hs), H3, rfl⟩ ?_
    rintro g9 w10 _ ⟨j, C, v12, hj, hlC, hS2, hI, H11, rfl⟩
    refine wp_know 7 _ v12 ?_
    refine w_seq ?_
    refine w_seq ?_
    refine q_start H11 (by kernel_rfl) (by kernel_rfl) ?_
    refine q_val (wants0 rfl) (d := 16) (v := (.int .i64 ((j : Int)))) rfl (fun _ H' => (by kernel_rfl)) ?_
    refine q_val (wants0 rfl) (d := 17) (v := (.int .i64 ((a : Int)))) rfl (fun _ H' => (by kernel_rfl)) ?_
    refine q_val (wants0 rfl) (d := 18) (v := (.bool (decide ((j : Int) > (a : Int))))) rfl (fun _ H' => (by kernel_rfl)) ?_
    refine q_val (wants0 rfl) (d := 19) (v := (.bool (decide ((j : Int) > (a : Int))))) rfl (fun _ H' => (by kernel_rfl)) ?_
    refine (bsplit (decide ((j : Int) > (a : Int)))).elim (fun b14 => ?_) (fun b14 => ?_)
    · have g15 := of_decide_eq_true b14
      refine q_know 19 (.bool true) (congrArg Value.bool b14) ?_
      have g16 := of_decide_eq_true b14
      refine q_val (wantsY 3 19 true rfl (by kernel_rfl) rfl (by kernel_rfl)) (d := 20) (v := (.slice (some ⟨g, 0, none⟩) n c)) rfl (fun _ H' => (by kernel_rfl)) ?_
      refine q_val (wantsY 3 19 true rfl (by kernel_rfl) rfl (by kernel_rfl)) (d := 21) (v := (.int .i64 ((j : Int)))) rfl (fun _ H' => (by kernel_rfl)) ?_
      refine q_val (wantsY 3 19 true rfl (by kernel_rfl) rfl (by kernel_rfl)) (d := 22) (v := (.pointer (some ⟨g, 0 + ((j : Int)).toNat * 1, none⟩))) rfl (fun _ H' => (e_indexAddr (E := 22) (by kernel_rfl) (by kernel_rfl) (Nat.le_of_ble_eq_true rfl) rfl rfl (by omega) (by omega))) ?_
      obtain ⟨x17, h18⟩ := get_at (show j < C.length by omega)
      refine q_val (wantsY 3 19 true rfl (by kernel_rfl) rfl (by kernel_rfl)) (d := 23) (v := (.int .u64 (x17))) rfl (fun _ H' => (e_load1 rfl (by kernel_rfl) (rowU_cell (H'.at 0 rfl) h18 (show 0 + ((j : Int)).toNat * 1 = j by omega)))) ?_
      refine q_val (wantsY 3 19 true rfl (by kernel_rfl) rfl (by kernel_rfl)) (d := 24) (v := (.slice (some ⟨g, 0, none⟩) n c)) rfl (fun _ H' => (by kernel_rfl)) ?_
      refine q_val (wantsY 3 19 true rfl (by kernel_rfl) rfl (by kernel_rfl)) (d := 25) (v := (.int .i64 ((j : Int)))) rfl (fun _ H' => (by kernel_rfl)) ?_
      refine q_val (wantsY 3 19 true rfl (by kernel_rfl) rfl (by kernel_rfl)) (d := 26) (v := (.int .i64 ((j : Int) - 1))) rfl (fun _ H' => (e_int (z := (j : Int) - 1) (by kernel_rfl) (IntWalk.i64_in _ (by omega)))) ?_
      refine q_val (wantsY 3 19 true rfl (by kernel_rfl) rfl (by kernel_rfl)) (d := 27) (v := (.pointer (some ⟨g, 0 + ((j : Int) - 1).toNat * 1, none⟩))) rfl (fun _ H' => (e_indexAddr (E := 22) (by kernel_rfl) (by kernel_rfl) (Nat.le_of_ble_eq_true rfl) rfl rfl (by omega) (by omega))) ?_
      obtain ⟨x19, h20⟩ := get_at (show (j - 1) < C.length by omega)
      refine q_val (wantsY 3 19 true rfl (by kernel_rfl) rfl (by kernel_rfl)) (d := 28) (v := (.int .u64 (x19))) rfl (fun _ H' => (e_load1 rfl (by kernel_rfl) (rowU_cell (H'.at 0 rfl) h20 (show 0 + ((j : Int) - 1).toNat * 1 = (j - 1) by omega)))) ?_
      refine q_call (wantsY 3 19 true rfl (by kernel_rfl) rfl (by kernel_rfl)) (d := 29) (v := (.bool (ltU x17 x19))) rfl (fun _ _ => by kernel_rfl) (fun w' H' => (lessU_any w' x17 x19).mono fun _ _ h => ⟨h.1, H'.keepU h.2⟩) ?_
      refine q_val (wants0 rfl) (d := 30) (v := (.bool (ltU x17 x19))) rfl (fun _ H' => (by kernel_rfl)) ?_
      refine q_end ?_
      intro w21 H22
      refine then_normal ?_
      refine (bsplit (ltU x17 x19)).elim (fun b23 => ?_) (fun b23 => ?_)
      · refine wp_know 30 (.bool true) (congrArg Value.bool b23) ?_
        refine wp_ift rfl ?_
        refine w_skip ?_
        refine then_normal ?_
        refine w_seq ?_
        refine w_block ?_
        refine k_start H22 [rowU g n c C, restC w (rowU g n c A).fp] [15, 17] 18 rfl (by kernel_rfl) (fun Hx => (Hx.pick [0, 1] (by decide))) ?_
        intro w24 H25 S26
        refine k_pure 0 rfl (by kernel_rfl) (by kernel_rfl) (by kernel_rfl) (fun _ _ _ h => h) S26 (wants0 rfl) rfl (d := 33) (v := (.slice (some ⟨g, 0, none⟩) n c)) rfl (fun _ => (by kernel_rfl)) ?_
        refine k_pure 1 rfl (by kernel_rfl) (by kernel_rfl) (by kernel_rfl) (fun _ _ _ h => h) S26 (wants0 rfl) rfl (d := 34) (v := (.int .i64 ((j : Int)))) rfl (fun _ => (by kernel_rfl)) ?_
        refine k_pure 2 rfl (by kernel_rfl) (by kernel_rfl) (by kernel_rfl) (fun _ _ _ h => h) S26 (wants0 rfl) rfl (d := 35) (v := (.slice (some ⟨g, 0, none⟩) n c)) rfl (fun _ => (by kernel_rfl)) ?_
        refine k_pure 3 rfl (by kernel_rfl) (by kernel_rfl) (by kernel_rfl) (fun _ _ _ h => h) S26 (wants0 rfl) rfl (d := 36) (v := (.int .i64 ((j : Int)))) rfl (fun _ => (by kernel_rfl)) ?_
        refine k_pure 4 rfl (by kernel_rfl) (by kernel_rfl) (by kernel_rfl) (fun _ _ _ h => h) S26 (wants0 rfl) rfl (d := 37) (v := (.int .i64 ((j : Int) - 1))) rfl (fun _ => (e_int (z := (j : Int) - 1) (by kernel_rfl) (IntWalk.i64_in _ (by omega)))) ?_
        refine k_pure 5 rfl (by kernel_rfl) (by kernel_rfl) (by kernel_rfl) (fun _ _ _ h => h) S26 (wants0 rfl) rfl (d := 38) (v := (.slice (some ⟨g, 0, none⟩) n c)) rfl (fun _ => (by kernel_rfl)) ?_
        refine k_pure 6 rfl (by kernel_rfl) (by kernel_rfl) (by kernel_rfl) (fun _ _ _ h => h) S26 (wants0 rfl) rfl (d := 39) (v := (.int .i64 ((j : Int)))) rfl (fun _ => (by kernel_rfl)) ?_
        refine k_pure 7 rfl (by kernel_rfl) (by kernel_rfl) (by kernel_rfl) (fun _ _ _ h => h) S26 (wants0 rfl) rfl (d := 40) (v := (.int .i64 ((j : Int) - 1))) rfl (fun _ => (e_int (z := (j : Int) - 1) (by kernel_rfl) (IntWalk.i64_in _ (by omega)))) ?_
        refine k_pure 8 rfl (by kernel_rfl) (by kernel_rfl) (by kernel_rfl) (fun _ _ _ h => h) S26 (wants0 rfl) rfl (d := 41) (v := (.pointer (some ⟨g, 0 + ((j : Int) - 1).toNat * 1, none⟩))) rfl (fun _ => (e_indexAddr (E := 22) (by kernel_rfl) (by kernel_rfl) (Nat.le_of_ble_eq_true rfl) rfl rfl (by omega) (by omega))) ?_
        refine k_val 9 rfl (by kernel_rfl) (by kernel_rfl) (by kernel_rfl) (fun _ _ _ h => h) S26 (wants0 rfl) rfl (by kernel_rfl) (d := 42) (v := (.int .u64 (x19))) rfl (fun _ H' => (e_load1 rfl (by kernel_rfl) (rowU_cell (H'.at 0 rfl) h20 (show 0 + ((j : Int) - 1).toNat * 1 = (j - 1) by omega)))) ?_
        refine k_pure 10 rfl (by kernel_rfl) (by kernel_rfl) (by kernel_rfl) (fun _ _ _ h => h) S26 (wants0 rfl) rfl (d := 43) (v := (.slice (some ⟨g, 0, none⟩) n c)) rfl (fun _ => (by kernel_rfl)) ?_
        refine k_pure 11 rfl (by kernel_rfl) (by kernel_rfl) (by kernel_rfl) (fun _ _ _ h => h) S26 (wants0 rfl) rfl (d := 44) (v := (.int .i64 ((j : Int)))) rfl (fun _ => (by kernel_rfl)) ?_
        refine k_pure 12 rfl (by kernel_rfl) (by kernel_rfl) (by kernel_rfl) (fun _ _ _ h => h) S26 (wants0 rfl) rfl (d := 45) (v := (.pointer (some ⟨g, 0 + ((j : Int)).toNat * 1, none⟩))) rfl (fun _ => (e_indexAddr (E := 22) (by kernel_rfl) (by kernel_rfl) (Nat.le_of_ble_eq_true rfl) rfl rfl (by omega) (by omega))) ?_
        refine k_val 13 rfl (by kernel_rfl) (by kernel_rfl) (by kernel_rfl) (fun _ _ _ h => h) S26 (wants0 rfl) rfl (by kernel_rfl) (d := 46) (v := (.int .u64 (x17))) rfl (fun _ H' => (e_load1 rfl (by kernel_rfl) (rowU_cell (H'.at 0 rfl) h18 (show 0 + ((j : Int)).toNat * 1 = j by omega)))) ?_
        refine k_pure 14 rfl (by kernel_rfl) (by kernel_rfl) (by kernel_rfl) (fun _ _ _ h => h) S26 (wants0 rfl) rfl (d := 47) (v := (.pointer (some ⟨g, 0 + ((j : Int)).toNat * 1, none⟩))) rfl (fun _ => (e_indexAddr (E := 22) (by kernel_rfl) (by kernel_rfl) (Nat.le_of_ble_eq_true rfl) rfl rfl (by omega) (by omega))) ?_
        refine k_brk 15 (Sat w [restC w (rowU g n c A).fp]) rfl (by kernel_rfl) (wants0 rfl) rfl (fun K27 hK27 => ?_)
        refine d_storeU rfl H25 0 rfl rfl rfl (by kernel_rfl) (show 0 + ((j : Int)).toNat * 1 = j by omega) (by omega) ?_
        intro w28 (H29 : Sat w [rowU g n c (C.set j x19), restC w (rowU g n c A).fp] w28)
        have hlH29 : (C.set j x19).length = C.length := List.length_set
        have S30 := H29.pick [1] (by decide)
        refine hK27 _ _ S30 ?_
        clear hK27 K27
        refine h_val 16 rfl (by kernel_rfl) (by kernel_rfl) (by kernel_rfl) (fun _ _ _ h => h) S30 (wants0 rfl) (d := 48) (v := (.pointer (some ⟨g, 0 + ((j : Int) - 1).toNat * 1, none⟩))) rfl (fun _ H' => (e_indexAddr (E := 22) (by kernel_rfl) (by kernel_rfl) (Nat.le_of_ble_eq_true rfl) rfl rfl (by omega) (by omega))) ?_
        refine h_do 17 rfl (by kernel_rfl) (wants0 rfl) (fun K31 hK31 => ?_)
        refine d_storeU rfl H29 0 rfl rfl rfl (by kernel_rfl) (show 0 + ((j : Int) - 1).toNat * 1 = (j - 1) by omega) (by omega) ?_
        intro w32 (H33 : Sat w [rowU g n c ((C.set j x19).set (j - 1) x17), restC w (rowU g n c A).fp] w32)
        have hlH33 : ((C.set j x19).set (j - 1) x17).length = (C.set j x19).length := List.length_set
        have S34 := H33.pick [1] (by decide)
        refine hK31 _ _ S34 ?_
        clear hK31 K31
        refine h_fin (by kernel_rfl) ?_
        refine blk_normal ?_
        refine then_normal ?_
        refine w_lit ?_
        refine wl_pure (wants0 rfl) (d := 31) (v := (.int .i64 ((j : Int)))) rfl (by kernel_rfl) ?_
        refine wl_pure (wants0 rfl) (d := 32) (v := (.int .i64 ((j : Int) - 1))) rfl (e_int (z := (j : Int) - 1) (by kernel_rfl) (IntWalk.i64_in _ (by omega))) ?_
        refine wl_pure (wants0 rfl) (d := 7) (v := (.int .i64 ((j : Int) - 1))) rfl (by kernel_rfl) ?_
        refine w_nil ?_
        refine round_back ?_ _ ⟨(j - 1), ((C.set j x19).set (j - 1) x17), (show ((.int .i64 ((j : Int) - 1)) : Value) = _ by first | rfl | go_num), (by omega), (by omega), (hS2.swap (by omega) (by omega) (by omega) (by omega) h18 h20), (hI.step hw (by omega) (by omega) h18 h20 b23), H33, rfl⟩ (by omega)
        exact (same_upd rfl (same_upd rfl (same_upd rfl (same_upd rfl (same_upd rfl (same_upd rfl (same_upd rfl (same_upd rfl (same_upd rfl (same_upd rfl (same_upd rfl (same_upd rfl (same_upd rfl (same_upd rfl (same_upd rfl (same_upd rfl (same_upd rfl (same_upd rfl (same_upd rfl (same_upd rfl (same_upd rfl (same_upd rfl (same_upd rfl (same_upd rfl (same_upd rfl (same_upd rfl (same_upd rfl (same_upd rfl (same_upd rfl (same_upd rfl (same_upd rfl (same_upd rfl (same_upd rfl (same_upd rfl (same_upd rfl (same_upd rfl (same_upd rfl (same_ovr))))))))))))))))))))))))))))))))))))))
      · refine wp_know 30 (.bool false) (congrArg Value.bool b23) ?_
        refine wp_iff rfl ?_
        refine w_exit ?_
        refine then_exit ?_
        refine back_exit ?_
        refine blk_hit ?_
        refine blk_normal ?_
        refine then_normal ?_
        refine w_lit ?_
        refine wl_pure (wants0 rfl) (d := 13) (v := (.int .i64 ((i : Int)))) rfl (by kernel_rfl) ?_
        refine wl_pure (wants0 rfl) (d := 14) (v := (.int .i64 ((i : Int) + 1))) rfl (e_int (z := (i : Int) + 1) (by kernel_rfl) (IntWalk.i64_in _ (by omega))) ?_
        refine wl_pure (wants0 rfl) (d := 6) (v := (.int .i64 ((i : Int) + 1))) rfl (by kernel_rfl) ?_
        refine w_nil ?_
        have hs2 : Srt ltU a (i + 1) C := by
          exact hI.stop hw (by omega) (by omega) h18 h20 b23
        refine round_back ?_ _ ⟨(i + 1), C, (show ((.int .i64 ((i : Int) + 1)) : Value) = _ by first | rfl | go_num), (by omega), hlC, hS2, hs2, H22, rfl⟩ (by omega)
        exact (same_upd rfl (same_upd rfl (same_upd rfl (same_upd rfl (same_upd rfl (same_upd rfl (same_upd rfl (same_upd rfl (same_upd rfl (same_upd rfl (same_upd rfl (same_upd rfl (same_upd rfl (same_upd rfl (same_upd rfl (same_upd rfl (same_upd rfl (same_upd rfl (same_upd rfl (same_upd rfl (same_upd rfl (same_ovr2 rfl (same_upd rfl (same_upd rfl (same_upd rfl (same_upd rfl (same_upd rfl (same_upd rfl (same_upd rfl (same_ovr))))))))))))))))))))))))))))))
    · have g35 := of_decide_eq_false b14
      refine q_know 19 (.bool false) (congrArg Value.bool b14) ?_
      have g36 := of_decide_eq_false b14
      refine q_pass (wantsN 3 19 true rfl (by kernel_rfl) rfl (by kernel_rfl)) rfl ?_
      refine q_pass (wantsN 3 19 true rfl (by kernel_rfl) rfl (by kernel_rfl)) rfl ?_
      refine q_pass (wantsN 3 19 true rfl (by kernel_rfl) rfl (by kernel_rfl)) rfl ?_
      refine q_pass (wantsN 3 19 true rfl (by kernel_rfl) rfl (by kernel_rfl)) rfl ?_
      refine q_pass (wantsN 3 19 true rfl (by kernel_rfl) rfl (by kernel_rfl)) rfl ?_
      refine q_pass (wantsN 3 19 true rfl (by kernel_rfl) rfl (by kernel_rfl)) rfl ?_
      refine q_pass (wantsN 3 19 true rfl (by kernel_rfl) rfl (by kernel_rfl)) rfl ?_
      refine q_pass (wantsN 3 19 true rfl (by kernel_rfl) rfl (by kernel_rfl)) rfl ?_
      refine q_pass (wantsN 3 19 true rfl (by kernel_rfl) rfl (by kernel_rfl)) rfl ?_
      refine q_pass (wantsN 3 19 true rfl (by kernel_rfl) rfl (by kernel_rfl)) rfl ?_
      refine q_val (wants0 rfl) (d := 30) (v := (.bool false)) rfl (fun _ H' => (by kernel_rfl)) ?_
      refine q_end ?_
      intro w37 H38
      refine then_normal ?_
      refine wp_iff rfl ?_
      refine w_exit ?_
      refine then_exit ?_
      refine back_exit ?_
      refine blk_hit ?_
      refine blk_normal ?_
      refine then_normal ?_
      refine w_lit ?_
      refine wl_pure (wants0 rfl) (d := 13) (v := (.int .i64 ((i : Int)))) rfl (by kernel_rfl) ?_
      refine wl_pure (wants0 rfl) (d := 14) (v := (.int .i64 ((i : Int) + 1))) rfl (e_int (z := (i : Int) + 1) (by kernel_rfl) (IntWalk.i64_in _ (by omega))) ?_
      refine wl_pure (wants0 rfl) (d := 6) (v := (.int .i64 ((i : Int) + 1))) rfl (by kernel_rfl) ?_
      refine w_nil ?_
      have hs2 : Srt ltU a (i + 1) C := by
        obtain rfl : j = a := by omega
        exact hI.low
      refine round_back ?_ _ ⟨(i + 1), C, (show ((.int .i64 ((i : Int) + 1)) : Value) = _ by first | rfl | go_num), (by omega), hlC, hS2, hs2, H38, rfl⟩ (by omega)
      exact (same_upd rfl (same_upd rfl (same_upd rfl (same_upd rfl (same_upd rfl (same_upd rfl (same_upd rfl (same_upd rfl (same_upd rfl (same_upd rfl (same_upd rfl (same_upd rfl (same_upd rfl (same_upd rfl (same_upd rfl (same_upd rfl (same_upd rfl (same_upd rfl (same_upd rfl (same_upd rfl (same_ovr2 rfl (same_upd rfl (same_upd rfl (same_upd rfl (same_upd rfl (same_upd rfl (same_upd rfl (same_upd rfl (same_ovr)))))))))))))))))))))))))))))
  · have g39 := of_decide_eq_false b6
    refine wp_know 12 (.bool false) (congrArg Value.bool b6) ?_
    have g40 := of_decide_eq_false b6
    refine wp_iff rfl ?_
    refine w_exit ?_
    refine then_exit ?_
    refine back_exit ?_
    refine blk_hit ?_
    refine end_normal ?_
    refine end0 rfl  ?_
    exact ⟨B, rfl, hlB, hS, hs.sub (Nat.le_refl _) (by omega), H3⟩

end Go.Proofs.Ytenihpghfdcpkaa
namespace Go.Proofs.Ytenihpghfdcpkaa
open Go.RowKit

set_option maxRecDepth 100000 in
set_option maxHeartbeats 400000 in
theorem pdqSU_any (w : World) (g n c : Nat) (lim : Int) (A : List Int) (hT : (rowU g n c A).ok w) (hn12 : n ≤ 12) :
    Calls Try.prog 84 #[(.slice (some ⟨g, 0, none⟩) n c), (.int .i64 (0)), (.int .i64 ((n : Int))), (.int .i64 (lim))] w fun e w' => ∃ B : List Int, e = .returned (.tuple #[]) ∧ B.length = n ∧ B.Perm A ∧ Srt ltU 0 B.length B ∧ Sat w [rowU g n c B, restC w (rowU g n c A).fp] w' := by
  have H : Sat w [rowU g n c A, restC w (rowU g n c A).fp] w := Sat.start1 hT
  have hl := rowU_len hT
  have hw := swU
  have hn : n ≤ 1000000000000 := by omega
  refine calls_fr Try.func84 rfl 134 rfl (Nat.le_of_ble_eq_true rfl) ?_
  refine w_seq ?_
  refine w_lit ?_
  refine wl_pure (wants0 rfl) (d := 8) (v := (.bool true)) rfl (by kernel_rfl) ?_
  refine w_nil ?_
  refine then_normal ?_
  refine w_seq ?_
  refine w_lit ?_
  refine wl_pure (wants0 rfl) (d := 9) (v := (.bool true)) rfl (by kernel_rfl) ?_
  refine w_nil ?_
  refine then_normal ?_
  refine w_block ?_
  refine wp_round [1, 2, 3, 8, 9, 10, 11, 12, 13, 14, 15, 16, 17, 18, 19, 20, 21, 22, 23, 24, 25, 26, 27, 28, 29, 30, 31, 32, 33, 34, 35, 36, 37, 38, 39, 40, 41, 42, 43, 44, 45, 46, 47, 48, 49, 50, 51, 52, 53, 54, 55, 56, 57, 58, 59, 60, 61, 62, 63, 64, 65, 66, 67, 68, 69, 70, 71, 72, 73, 74, 75, 76, 77, 78, 79, 80, 81, 82, 83, 84, 85, 86, 87, 88, 89, 90, 91, 92, 93, 94, 95, 96, 97, 98, 99, 100, 101, 102, 103, 104, 105, 106, 107, 108, 109, 110, 111, 112, 113, 114, 115, 116, 117, 118, 119, 120, 121, 122, 123, 124, 125, 126, 127, 128, 129, 130, 131, 132, 133] (fun F_ W_ m_ => ∃ (z_ : Nat), F_ 1 = (.int .i64 (0)) ∧ F_ 2 = (.int .i64 ((n : Int))) ∧ F_ 3 = (.int .i64 (lim)) ∧ F_ 8 = (.bool true) ∧ F_ 9 = (.bool true) ∧ (True) ∧ Sat w [rowU g n c A, restC w (rowU g n c A).fp] W_ ∧ m_ = z_) _ ⟨0, (show ((.int .i64 (0)) : Value) = _ by first | rfl | go_num), (show ((.int .i64 ((n : Int))) : Value) = _ by first | rfl | go_num), (show ((.int .i64 (lim)) : Value) = _ by first | rfl | go_num), (by first | rfl | go_num), (by first | rfl | go_num), trivial, H, rfl⟩ ?_
  rintro g1 w2 _ ⟨z_, v4, v5, v6, v7, v8, ht_, H3, rfl⟩
  refine wp_know 1 _ v4 ?_
  refine wp_know 2 _ v5 ?_
  refine wp_know 3 _ v6 ?_
  refine wp_know 8 _ v7 ?_
  refine wp_know 9 _ v8 ?_
  refine w_block ?_
  refine w_seq ?_
  refine w_lit ?_
  refine wl_pure (wants0 rfl) (d := 19) (v := (.int .i64 ((n : Int)))) rfl (by kernel_rfl) ?_
  refine wl_pure (wants0 rfl) (d := 20) (v := (.int .i64 (0))) rfl (by kernel_rfl) ?_
  refine wl_pure (wants0 rfl) (d := 21) (v := (.int .i64 ((n : Int) - 0))) rfl (e_int (z := (n : Int) - 0) (by kernel_rfl) (IntWalk.i64_in _ (by omega))) ?_
  refine wl_pure (wants0 rfl) (d := 10) (v := (.int .i64 ((n : Int) - 0))) rfl (by kernel_rfl) ?_
  refine w_nil ?_
  refine then_normal ?_
  refine w_seq ?_
  refine w_seq ?_
  refine w_lit ?_
  refine wl_pure (wants0 rfl) (d := 22) (v := (.int .i64 ((n : Int) - 0))) rfl (by kernel_rfl) ?_
  refine wl_pure (wants0 rfl) (d := 23) (v := (.bool (decide (((n : Int) - 0) ≤ 12)))) rfl (by kernel_rfl) ?_
  refine w_nil ?_
  refine then_normal ?_
  have b10 : (decide (((n : Int) - 0) ≤ 12)) = true := by exact decide_eq_true (by omega)
  refine wp_know 23 (.bool true) (congrArg Value.bool b10) ?_
  have g11 := of_decide_eq_true b10
  refine wp_ift rfl ?_
  refine w_seq ?_
  refine w_lit ?_
  refine wl_pure (wants0 rfl) (d := 24) (v := (.slice (some ⟨g, 0, none⟩) n c)) rfl (by kernel_rfl) ?_
  refine wl_pure (wants0 rfl) (d := 25) (v := (.int .i64 (0))) rfl (by kernel_rfl) ?_
  refine wl_pure (wants0 rfl) (d := 26) (v := (.int .i64 ((n : Int)))) rfl (by kernel_rfl) ?_
  refine wl_do (wants0 rfl) (fun K12 hK12 => ?_)
  refine d_call (d := 27) rfl (by kernel_rfl) (insertionU_any w2 g n c 0 n A (H3.at 0 rfl) hn (by omega)) ?_
  rintro _ w14 ⟨B13, rfl, l15, S16, h18, T17⟩
  have H20 : Sat w [rowU g n c B13, restC w (rowU g n c A).fp] w14 := (Sat.turn1 (L' := [rowU g n c B13]) (R := [restC w (rowU g n c A).fp]) H3 0 [1] (by decide) rfl rfl T17).pick [0, 1] (by decide)
  refine ⟨_, rfl, ?_⟩
  refine hK12 _ _ ?_
  clear hK12 K12
  refine w_nil ?_
  refine then_normal ?_
  refine w_ret ?_
  refine then_ret ?_
  refine blk_ret ?_
  refine back_ret ?_
  refine blk_ret ?_
  refine end0 rfl  ?_
  exact ⟨B13, rfl, l15, S16.perm, by have q := h18; rw [← l15] at q; exact q, H20⟩
theorem blenS_any (w : World) (x : Int) (hx : 0 ≤ x ∧ x ≤ 18446744073709551615) : Calls Try.prog 44 #[.int .u64 x] w fun e w' => e = .returned (.int .i64 (Lib.bitLen x.toNat)) ∧ Upd [] w w' :=
  (Go.Proofs.Any.bits_Len bitsL x w hx.1 hx.2).mono fun _ _ ⟨he, hw⟩ => ⟨he, hw ▸ Upd.refl _ _⟩
set_option maxRecDepth 100000 in
set_option maxHeartbeats 400000 in
theorem sortSU_any (w : World) (g n c : Nat) (A : List Int) (hT : (rowU g n c A).ok w) (hn : n ≤ 12) :
    Calls Try.prog 75 #[(.slice (some ⟨g, 0, none⟩) n c)] w fun e w' => ∃ B : List Int, e = .returned (.tuple #[]) ∧ B.length = n ∧ B.Perm A ∧ Srt ltU 0 B.length B ∧ Sat w [rowU g n c B, restC w (rowU g n c A).fp] w' := by
  have H : Sat w [rowU g n c A, restC w (rowU g n c A).fp] w := Sat.start1 hT
  have hl := rowU_len hT
  have hw := swU
  refine calls_fr Try.func75 rfl 11 rfl (Nat.le_of_ble_eq_true rfl) ?_
  refine w_seq ?_
  refine w_lit ?_
  refine wl_pure (wants0 rfl) (d := 3) (v := (.slice (some ⟨g, 0, none⟩) n c)) rfl (by kernel_rfl) ?_
  refine wl_pure (wants0 rfl) (d := 4) (v := (.int .i64 ((n : Int)))) rfl (by kernel_rfl) ?_
  refine wl_pure (wants0 rfl) (d := 2) (v := (.int .i64 ((n : Int)))) rfl (by kernel_rfl) ?_
  refine w_nil ?_
  refine then_normal ?_
  refine w_lit ?_
  refine wl_pure (wants0 rfl) (d := 5) (v := (.slice (some ⟨g, 0, none⟩) n c)) rfl (by kernel_rfl) ?_
  refine wl_pure (wants0 rfl) (d := 6) (v := (.int .i64 ((n : Int)))) rfl (by kernel_rfl) ?_
  refine wl_pure (wants0 rfl) (d := 7) (v := (.int .i64 ((n : Int)))) rfl (by kernel_rfl) ?_
  refine wl_pure (wants0 rfl) (d := 8) (v := (.int .u64 ((n : Int)))) rfl (e_int (z := (n : Int)) (by kernel_rfl) (wrap_u64 (by omega))) ?_
  refine wl_do (wants0 rfl) (fun K1 hK1 => ?_)
  refine d_call (d := 9) rfl (by kernel_rfl) (blenS_any w (n : Int) (by omega)) ?_
  rintro _ w2 ⟨rfl, u4⟩
  have H3 := H.keepU u4
  refine ⟨_, rfl, ?_⟩
  refine hK1 _ _ ?_
  clear hK1 K1
  refine wl_do (wants0 rfl) (fun K5 hK5 => ?_)
  refine d_call (d := 10) rfl (by kernel_rfl) (pdqSU_any w2 g n c (Lib.bitLen (n : Int).toNat : Int) A (H3.at 0 rfl) hn) ?_
  rintro _ w7 ⟨B6, rfl, l8, S9, s10, T11⟩
  have H12 : Sat w [rowU g n c B6, restC w (rowU g n c A).fp] w7 := Sat.turn1 (L' := [rowU g n c B6]) (R := [restC w (rowU g n c A).fp]) H3 0 [1] (by decide) rfl rfl T11
  refine ⟨_, rfl, ?_⟩
  refine hK5 _ _ ?_
  clear hK5 K5
  refine w_nil ?_
  refine end_normal ?_
  refine end0 rfl  ?_
  exact ⟨B6, rfl, l8, S9, s10, H12⟩

end Go.Proofs.Ytenihpghfdcpkaa
namespace Go.Proofs.Ytenihpghfdcpkaa
open Go.RowKit
theorem take_eq_step {xs ys : List Int} {i : Nat} (h : xs.take i = ys.take i) (h1 : i < xs.length) (h2 : i < ys.length) (e : xs.getD i 0 = ys.getD i 0) : xs.take (i + 1) = ys.take (i + 1) := by
  rw [List.getD_eq_getElem?_getD, List.getElem?_eq_getElem h1, List.getD_eq_getElem?_getD, List.getElem?_eq_getElem h2] at e
  rw [List.take_add_one, List.take_add_one, h, List.getElem?_eq_getElem h1, List.getElem?_eq_getElem h2]
  simp only [Option.getD_some] at e
  rw [e]
theorem heap_keep {w w' : World} {b T : Nat} {v : Value} (h : (restC w fun _ => False).ok w') (hb : (cellC b T [v]).ok w) : (cellC b T [v]).ok w' := (h b (heap_lt hb) (fun h => h)).trans hb

set_option maxRecDepth 100000 in
set_option maxHeartbeats 400000 in
theorem valuesU_any0 (w : World) (va : Option Addr) (vn vc : Nat) :
    Calls Try.prog 56 #[(.slice va vn vc)] w fun e w' => ∃ b, e = .returned (.func (.func 76) #[] #[.pointer (some ⟨b, 0, none⟩)]) ∧ (cellC b 115 [(.slice va vn vc)]).ok w' ∧ Upd [] w w' ∧ w.heap.size ≤ b := by
  have H := Sat.start0 w
  refine calls_fr Try.func56 rfl 4 rfl (Nat.le_of_ble_eq_true rfl) ?_
  refine w_seq ?_
  refine w_lit ?_
  refine wl_do (wants0 rfl) (fun K1 hK1 => ?_)
  refine d_box (vs := ([(.slice va vn vc)] : List Value)) rfl H rfl rfl ?_
  intro b2 w3 (H4 : Sat w [restC w (fun _ => False), cellC b2 115 ([(.slice va vn vc)] : List Value)] w3)
  refine hK1 _ _ ?_
  clear hK1 K1
  refine wl_pure (wants0 rfl) (d := 2) (v := (Go.Value.nilFunc)) rfl (by kernel_rfl) ?_
  refine w_nil ?_
  refine then_normal ?_
  refine w_seq ?_
  refine w_lit ?_
  refine wl_pure (wants0 rfl) (d := 3) (v := (.func (.func 76) #[] #[(.pointer (some ⟨b2, 0, none⟩))])) rfl (by kernel_rfl) ?_
  refine wl_pure (wants0 rfl) (d := 2) (v := (.func (.func 76) #[] #[(.pointer (some ⟨b2, 0, none⟩))])) rfl (by kernel_rfl) ?_
  refine w_nil ?_
  refine then_normal ?_
  refine w_ret ?_
  refine end1 rfl (res_tmp (v := (.func (.func 76) #[] #[(.pointer (some ⟨b2, 0, none⟩))])) rfl) ?_
  exact ⟨b2, rfl, H4.at 1 rfl, H4.upd 0 rfl [] (fun _ h => h.elim), H4.fresh 0 rfl (fun _ h => h) 1 rfl rfl b2 rfl⟩
theorem valuesU_any (w : World) (v : Value) (hv : ∃ a n c, v = .slice a n c) : Calls Try.prog 56 #[v] w fun e w' => ∃ b, e = .returned (.func (.func 76) #[] #[.pointer (some ⟨b, 0, none⟩)]) ∧ (cellC b 115 [v]).ok w' ∧ Upd [] w w' ∧ w.heap.size ≤ b := by
  obtain ⟨a, n, c, rfl⟩ := hv
  exact valuesU_any0 w a n c

set_option maxRecDepth 100000 in
set_option maxHeartbeats 400000 in
theorem collectU_any (w : World) (b : Nat) (v : Value) (xs : List Int) (hb : (cellC b 115 [v]).ok w) (hv : ListAt encU 1 w v xs) (hx : xs.length ≤ 12) :
    Calls Try.prog 74 #[(.func (.func 76) #[] #[(.pointer (some ⟨b, 0, none⟩))])] w fun e w' => ∃ u, e = .returned u ∧ (rowC 22 1 u xs.length (xs.flatMap encU)).ok w' ∧ Upd [] w w' ∧ ∀ b, u.ownBlock = some b → w.heap.size ≤ b := by
  have H := Sat.start0 w
  refine calls_fr Try.func74 rfl 5 rfl (Nat.le_of_ble_eq_true rfl) ?_
  refine w_seq ?_
  refine w_lit ?_
  refine wl_pure (wants0 rfl) (d := 2) (v := (.slice none 0 0)) rfl (by kernel_rfl) ?_
  refine w_nil ?_
  refine then_normal ?_
  refine w_seq ?_
  refine w_lit ?_
  refine wl_pure (wants0 rfl) (d := 3) (v := (.func (.func 76) #[] #[(.pointer (some ⟨b, 0, none⟩))])) rfl (by kernel_rfl) ?_
  refine wl_do (wants0 rfl) (fun K1 hK1 => ?_)
  refine d_call (d := 4) rfl (by kernel_rfl) (appendSeqU_any w b v xs ((heap_keep (H.at 0 rfl) hb)) (ListAt.now H 0 rfl hv) (by omega)) ?_
  rintro _ w2 ⟨u3, rfl, k4, p5, q6⟩
  have H7 : Sat w [restC w (fun _ => False), rowC 22 1 u3 xs.length (xs.flatMap encU)] w2 := H.addU p5 k4 q6
  obtain ⟨a8, c9, rfl⟩ := ownsRow_shape (H7.at 1 rfl)
  refine ⟨_, rfl, ?_⟩
  refine hK1 _ _ ?_
  clear hK1 K1
  refine wl_pure (wants0 rfl) (d := 2) (v := (.slice a8 xs.length c9)) rfl (by kernel_rfl) ?_
  refine w_nil ?_
  refine then_normal ?_
  refine w_ret ?_
  refine end1 rfl (res_tmp (v := (.slice a8 xs.length c9)) rfl) ?_
  exact ⟨_, rfl, H7.at 1 rfl, H7.upd 0 rfl [] (fun _ h => h.elim), H7.fresh 0 rfl (fun _ h => h) 1 rfl rfl⟩

set_option maxRecDepth 100000 in
set_option maxHeartbeats 400000 in
theorem sortedU_any (w : World) (b : Nat) (v : Value) (xs : List Int) (hb : (cellC b 115 [v]).ok w) (hv : ListAt encU 1 w v xs) (hx : xs.length ≤ 12) (h0 : 0 < xs.length) :
    Calls Try.prog 55 #[(.func (.func 76) #[] #[(.pointer (some ⟨b, 0, none⟩))])] w fun e w' => ∃ u B, e = .returned u ∧ (rowC 22 1 u B.length (B.flatMap encU)).ok w' ∧ Upd [] w w' ∧ (∀ k, u.ownBlock = some k → w.heap.size ≤ k) ∧ B.Perm xs ∧ Srt ltU 0 B.length B := by
  have H := Sat.start0 w
  refine calls_fr Try.func55 rfl 9 rfl (Nat.le_of_ble_eq_true rfl) ?_
  refine w_seq ?_
  refine w_lit ?_
  refine wl_pure (wants0 rfl) (d := 2) (v := (.slice none 0 0)) rfl (by kernel_rfl) ?_
  refine w_nil ?_
  refine then_normal ?_
  refine w_seq ?_
  refine w_lit ?_
  refine wl_pure (wants0 rfl) (d := 4) (v := (.func (.func 76) #[] #[(.pointer (some ⟨b, 0, none⟩))])) rfl (by kernel_rfl) ?_
  refine wl_do (wants0 rfl) (fun K1 hK1 => ?_)
  refine d_call (d := 5) rfl (by kernel_rfl) (collectU_any w b v xs (heap_keep (H.at 0 rfl) hb) (ListAt.now H 0 rfl hv) (by omega)) ?_
  rintro _ w2 ⟨u3, rfl, k4, p5, q6⟩
  have H7 : Sat w [restC w (fun _ => False), rowC 22 1 u3 xs.length (xs.flatMap encU)] w2 := H.addU p5 k4 q6
  obtain ⟨a8, c9, rfl⟩ := ownsRow_shape (H7.at 1 rfl)
  refine ⟨_, rfl, ?_⟩
  refine hK1 _ _ ?_
  clear hK1 K1
  refine wl_pure (wants0 rfl) (d := 3) (v := (.slice a8 xs.length c9)) rfl (by kernel_rfl) ?_
  refine w_nil ?_
  refine then_normal ?_
  refine w_seq ?_
  obtain ⟨g10, c11, e12⟩ := row_shape (H7.at 1 rfl) (by omega)
  obtain rfl : a8 = some ⟨g10, 0, none⟩ := by cases e12; rfl
  have H13 : Sat w [restC w (fun _ => False), rowU g10 xs.length c9 xs] w2 := H7
  refine w_lit ?_
  refine wl_pure (wants0 rfl) (d := 6) (v := (.slice (some ⟨g10, 0, none⟩) xs.length c9)) rfl (by kernel_rfl) ?_
  refine wl_do (wants0 rfl) (fun K14 hK14 => ?_)
  refine d_call (d := 7) rfl (by kernel_rfl) (sortSU_any w2 g10 xs.length c9 xs (H13.at 1 rfl) (by omega)) ?_
  rintro _ w16 ⟨B15, rfl, l17, p18, s19, T20⟩
  have H21 : Sat w [restC w (fun _ => False), rowU g10 xs.length c9 B15] w16 := (Sat.turn1 (L' := [rowU g10 xs.length c9 B15]) (R := [restC w (fun _ => False)]) H13 1 [0] (by decide) rfl rfl T20).pick [1, 0] (by decide)
  refine ⟨_, rfl, ?_⟩
  refine hK14 _ _ ?_
  clear hK14 K14
  refine w_nil ?_
  refine then_normal ?_
  refine w_seq ?_
  refine w_lit ?_
  refine wl_pure (wants0 rfl) (d := 8) (v := (.slice (some ⟨g10, 0, none⟩) xs.length c9)) rfl (by kernel_rfl) ?_
  refine wl_pure (wants0 rfl) (d := 2) (v := (.slice (some ⟨g10, 0, none⟩) xs.length c9)) rfl (by kernel_rfl) ?_
  refine w_nil ?_
  refine then_normal ?_
  refine w_ret ?_
  refine end1 rfl (res_tmp (v := (.slice (some ⟨g10, 0, none⟩) xs.length c9)) rfl) ?_
  exact ⟨_, B15, rfl, (by have q := H21.at 1 rfl; have e : (xs.length : Nat) = B15.length := l17.symm; unfold rowU at q; rw [e] at q ⊢; exact q), H21.upd 0 rfl [] (fun _ h => h.elim), H21.fresh 0 rfl (fun _ h => h) 1 rfl rfl, p18, s19⟩

set_option maxRecDepth 100000 in
set_option maxHeartbeats 400000 in
theorem medC_any0 (w : World) (va : Option Addr) (vc : Nat) (xs : List Int) (hxs : ListAt encU 1 w (.slice va xs.length vc) xs) (hx : xs.length ≤ 12) :
    Calls Try.prog 41 #[(.slice va xs.length vc)] w fun e w' => e = .returned (.tuple #[.int .u64 (medV xs), .bool (decide (xs.length % 2 = 1))]) ∧ Upd [] w w' := by
  have H := Sat.start0 w
  refine calls_fr Try.func41 rfl 18 rfl (Nat.le_of_ble_eq_true rfl) ?_
  refine w_seq ?_
  refine w_lit ?_
  refine wl_pure (wants0 rfl) (d := 2) (v := (.int .u64 (0))) rfl (by kernel_rfl) ?_
  refine wl_pure (wants0 rfl) (d := 3) (v := (.bool false)) rfl (by kernel_rfl) ?_
  refine w_nil ?_
  refine then_normal ?_
  refine w_seq ?_
  refine w_seq ?_
  refine w_lit ?_
  refine wl_pure (wants0 rfl) (d := 5) (v := (.slice va xs.length vc)) rfl (by kernel_rfl) ?_
  refine wl_pure (wants0 rfl) (d := 6) (v := (.int .i64 ((xs.length : Int)))) rfl (by kernel_rfl) ?_
  refine wl_pure (wants0 rfl) (d := 7) (v := (.int .i64 ((xs.length : Int) % 2))) rfl (e_rem (by kernel_rfl) (by omega) (by omega)) ?_
  refine wl_pure (wants0 rfl) (d := 8) (v := (.bool (decide (((xs.length : Int) % 2) = 0)))) rfl (by kernel_rfl) ?_
  refine w_nil ?_
  refine then_normal ?_
  refine (bsplit (decide (((xs.length : Int) % 2) = 0))).elim (fun b1 => ?_) (fun b1 => ?_)
  · have g2 := of_decide_eq_true b1
    refine wp_know 8 (.bool true) (congrArg Value.bool b1) ?_
    have g3 := of_decide_eq_true b1
    refine wp_ift rfl ?_
    refine w_seq ?_
    refine w_lit ?_
    refine wl_pure (wants0 rfl) (d := 2) (v := (.int .u64 (0))) rfl (by kernel_rfl) ?_
    refine wl_pure (wants0 rfl) (d := 3) (v := (.bool false)) rfl (by kernel_rfl) ?_
    refine w_nil ?_
    refine then_normal ?_
    refine w_ret ?_
    refine then_ret ?_
    refine end2 rfl (res_tmp (v := (.int .u64 (0))) rfl) (res_tmp (v := (.bool false)) rfl) ?_
    exact ⟨by rw [medV_even (by omega), decide_eq_false (show ¬ xs.length % 2 = 1 by omega)], H.upd 0 rfl [] (fun _ h => h.elim)⟩
  · have g4 := of_decide_eq_false b1
    refine wp_know 8 (.bool false) (congrArg Value.bool b1) ?_
    have g5 := of_decide_eq_false b1
    refine wp_iff rfl ?_
    refine w_skip ?_
    refine then_normal ?_
    refine w_seq ?_
    refine w_lit ?_
    refine wl_pure (wants0 rfl) (d := 9) (v := (.slice va xs.length vc)) rfl (by kernel_rfl) ?_
    refine wl_do (wants0 rfl) (fun K6 hK6 => ?_)
    refine d_call (d := 10) rfl (by kernel_rfl) (valuesU_any w (.slice va xs.length vc) ⟨_, _, _, rfl⟩) ?_
    rintro _ w8 ⟨b7, rfl, k9, p10, q11⟩
    have H12 : Sat w [restC w (fun _ => False), cellC b7 115 ([(.slice va xs.length vc)] : List Value)] w8 := H.addU p10 k9 (fun _ h => h ▸ q11)
    refine ⟨_, rfl, ?_⟩
    refine hK6 _ _ ?_
    clear hK6 K6
    refine wl_do (wants0 rfl) (fun K13 hK13 => ?_)
    refine d_call (d := 11) rfl (by kernel_rfl) (sortedU_any w8 b7 (.slice va xs.length vc) xs (H12.at 1 rfl) (ListAt.now H12 0 rfl hxs) (by omega) (by omega)) ?_
    rintro _ w14 ⟨u15, B19, rfl, k16, p17, q18, p20, s21⟩
    have H22 : Sat w [restC w (fun _ => False), cellC b7 115 ([(.slice va xs.length vc)] : List Value), rowC 22 1 u15 B19.length (B19.flatMap encU)] w14 := H12.addU p17 k16 q18
    obtain ⟨a23, c24, rfl⟩ := ownsRow_shape (H22.at 2 rfl)
    refine ⟨_, rfl, ?_⟩
    have hlB19 : B19.length = xs.length := p20.length_eq
    refine hK13 _ _ ?_
    clear hK13 K13
    refine wl_pure (wants0 rfl) (d := 4) (v := (.slice a23 B19.length c24)) rfl (by kernel_rfl) ?_
    refine w_nil ?_
    refine then_normal ?_
    refine w_seq ?_
    refine w_lit ?_
    refine wl_pure (wants0 rfl) (d := 12) (v := (.slice a23 B19.length c24)) rfl (by kernel_rfl) ?_
    refine wl_pure (wants0 rfl) (d := 13) (v := (.slice a23 B19.length c24)) rfl (by kernel_rfl) ?_
    refine wl_pure (wants0 rfl) (d := 14) (v := (.int .i64 ((B19.length : Int)))) rfl (by kernel_rfl) ?_
    refine wl_pure (wants0 rfl) (d := 15) (v := (.int .i64 ((B19.length : Int) / 2))) rfl (e_quo (by kernel_rfl) (by omega) (by omega) (IntWalk.i64_in _ (by omega))) ?_
    obtain ⟨g25, c26, e27⟩ := row_shape (H22.at 2 rfl) (by omega)
    obtain ⟨x28, h29⟩ := get_at (show ((B19.length : Int) / 2).toNat < B19.length by omega)
    refine wl_pure (wants0 rfl) (d := 16) (v := (.pointer (some ⟨g25, 0 + ((B19.length : Int) / 2).toNat * 1, none⟩))) rfl (e_indexAddrV (E := 22) (by kernel_rfl) (by kernel_rfl) (Nat.le_of_ble_eq_true rfl) rfl e27 rfl (by omega) (by omega)) ?_
    refine wl_pure (wants0 rfl) (d := 17) (v := (.int .u64 (x28))) rfl (e_load1 rfl (by kernel_rfl) (rows_cell (H22.at 2 rfl) e27 encU_len h29 0 rfl (show 0 + ((B19.length : Int) / 2).toNat * 1 = ((B19.length : Int) / 2).toNat * 1 + 0 by omega) (by kernel_rfl))) ?_
    refine wl_pure (wants0 rfl) (d := 2) (v := (.int .u64 (x28))) rfl (by kernel_rfl) ?_
    refine wl_pure (wants0 rfl) (d := 3) (v := (.bool true)) rfl (by kernel_rfl) ?_
    refine w_nil ?_
    refine then_normal ?_
    refine w_ret ?_
    refine end2 rfl (res_tmp (v := (.int .u64 (x28))) rfl) (res_tmp (v := (.bool true)) rfl) ?_
    have hm : medV xs = x28 := (medV_perm p20).symm.trans (medV_eq (by omega) (srt_le s21 (by rw [show B19.length / 2 = ((B19.length : Int) / 2).toNat by omega]; exact h29)))
    exact ⟨by rw [hm, decide_eq_true (show xs.length % 2 = 1 by omega)], H22.upd 0 rfl [] (fun _ h => h.elim)⟩
theorem medC_any (w : World) (v : Value) (xs : List Int) (hxs : ListAt encU 1 w v xs) (hx : xs.length ≤ 12) : Calls Try.prog 41 #[v] w fun e w' => e = .returned (.tuple #[.int .u64 (medV xs), .bool (decide (xs.length % 2 = 1))]) ∧ Upd [] w w' := by
  obtain ⟨a, c, rfl⟩ := hxs.len
  exact medC_any0 w a c xs hxs hx

set_option maxRecDepth 100000 in
set_option maxHeartbeats 400000 in
theorem medR_any0 (w : World) (va : Option Addr) (vc : Nat) (xs : List Int) (hxs : ListAt encU 1 w (.slice va xs.length vc) xs) (hx : xs.length ≤ 12) :
    Calls Try.prog 47 #[(.slice va xs.length vc)] w fun e w' => e = .returned (.tuple #[.int .u64 (medV xs), .bool (decide (xs.length % 2 = 1))]) ∧ Upd [] w w' := by
  have H := Sat.start0 w
  
  refine calls_fr Try.func47 rfl 64 rfl (Nat.le_of_ble_eq_true rfl) ?_
  refine w_seq ?_
  refine w_lit ?_
  refine wl_pure (wants0 rfl) (d := 2) (v := (.int .u64 (0))) rfl (by kernel_rfl) ?_
  refine wl_pure (wants0 rfl) (d := 3) (v := (.bool false)) rfl (by kernel_rfl) ?_
  refine w_nil ?_
  refine then_normal ?_
  refine w_seq ?_
  refine w_seq ?_
  refine w_lit ?_
  refine wl_pure (wants0 rfl) (d := 8) (v := (.slice va xs.length vc)) rfl (by kernel_rfl) ?_
  refine wl_pure (wants0 rfl) (d := 9) (v := (.int .i64 ((xs.length : Int)))) rfl (by kernel_rfl) ?_
  refine wl_pure (wants0 rfl) (d := 10) (v := (.int .i64 ((xs.length : Int) % 2))) rfl (e_rem (by kernel_rfl) (by omega) (by omega)) ?_
  refine wl_pure (wants0 rfl) (d := 11) (v := (.bool (decide (((xs.length : Int) % 2) = 0)))) rfl (by kernel_rfl) ?_
  refine w_nil ?_
  refine then_normal ?_
  refine (bsplit (decide (((xs.length : Int) % 2) = 0))).elim (fun b1 => ?_) (fun b1 => ?_)
  · have g2 := of_decide_eq_true b1
    refine wp_know 11 (.bool true) (congrArg Value.bool b1) ?_
    have g3 := of_decide_eq_true b1
    refine wp_ift rfl ?_
    refine w_seq ?_
    refine w_lit ?_
    refine wl_pure (wants0 rfl) (d := 2) (v := (.int .u64 (0))) rfl (by kernel_rfl) ?_
    refine wl_pure (wants0 rfl) (d := 3) (v := (.bool false)) rfl (by kernel_rfl) ?_
    refine w_nil ?_
    refine then_normal ?_
    refine w_ret ?_
    refine then_ret ?_
    refine end2 rfl (res_tmp (v := (.int .u64 (0))) rfl) (res_tmp (v := (.bool false)) rfl) ?_
    exact ⟨by rw [medV_even (by omega), decide_eq_false (show ¬ xs.length % 2 = 1 by omega)], H.upd 0 rfl [] (fun _ h => h.elim)⟩
  · have g4 := of_decide_eq_false b1
    refine wp_know 11 (.bool false) (congrArg Value.bool b1) ?_
    have g5 := of_decide_eq_false b1
    refine wp_iff rfl ?_
    refine w_skip ?_
    refine then_normal ?_
    refine w_seq ?_
    refine w_seq ?_
    refine w_lit ?_
    refine wl_pure (wants0 rfl) (d := 12) (v := (.slice va xs.length vc)) rfl (by kernel_rfl) ?_
    refine wl_pure (wants0 rfl) (d := 13) (v := (.int .i64 ((xs.length : Int)))) rfl (by kernel_rfl) ?_
    refine wl_pure (wants0 rfl) (d := 14) (v := (.int .i64 (0))) rfl (by kernel_rfl) ?_
    refine w_nil ?_
    refine then_normal ?_
    refine w_block ?_
    refine wp_round [2, 3, 4, 5, 6, 7, 14, 15, 16, 17, 18, 19, 20, 21, 22, 23, 24, 25, 26, 27, 28, 29, 30, 31, 32, 33, 34, 35, 36, 37, 38, 39, 40, 41, 42, 43, 44, 45, 46, 47, 48, 49, 50, 51, 52, 53, 54, 55, 56, 57, 58, 59, 60, 61, 62, 63] (fun F_ W_ m_ => ∃ (i : Nat), F_ 14 = (.int .i64 ((i : Int))) ∧ (i ≤ xs.length) ∧ (∀ j, j < i → NotMed xs j) ∧ Sat w [restC w (fun _ => False)] W_ ∧ m_ = xs.length + 1 - i) _ ⟨0, (show ((.int .i64 (0)) : Value) = _ by first | rfl | go_num), by omega, by intro j hj; omega, H, rfl⟩ ?_
    rintro g6 w7 _ ⟨i, v9, hi, hno, H8, rfl⟩
    refine wp_know 14 _ v9 ?_
    refine w_seq ?_
    refine w_lit ?_
    refine wl_pure (wants0 rfl) (d := 15) (v := (.bool (decide ((i : Int) < (xs.length : Int))))) rfl (by kernel_rfl) ?_
    refine w_nil ?_
    refine then_normal ?_
    refine w_seq ?_
    refine (bsplit (decide ((i : Int) < (xs.length : Int)))).elim (fun b11 => ?_) (fun b11 => ?_)
    · have g12 := of_decide_eq_true b11
      refine wp_know 15 (.bool true) (congrArg Value.bool b11) ?_
      have g13 := of_decide_eq_true b11
      refine wp_ift rfl ?_
      refine w_skip ?_
      refine then_normal ?_
      refine w_seq ?_
      refine w_block ?_
      refine w_seq ?_
      refine w_lit ?_
      refine wl_pure (wants0 rfl) (d := 16) (v := (.int .i64 ((i : Int)))) rfl (by kernel_rfl) ?_
      refine wl_pure (wants0 rfl) (d := 4) (v := (.int .i64 ((i : Int)))) rfl (by kernel_rfl) ?_
      refine w_nil ?_
      refine then_normal ?_
      refine w_seq ?_
      refine w_lit ?_
      refine wl_pure (wants0 rfl) (d := 5) (v := (.int .i64 (0))) rfl (by kernel_rfl) ?_
      refine wl_pure (wants0 rfl) (d := 6) (v := (.int .i64 (0))) rfl (by kernel_rfl) ?_
      refine w_nil ?_
      refine then_normal ?_
      refine w_seq ?_
      refine w_seq ?_
      refine w_lit ?_
      refine wl_pure (wants0 rfl) (d := 17) (v := (.slice va xs.length vc)) rfl (by kernel_rfl) ?_
      refine wl_pure (wants0 rfl) (d := 18) (v := (.int .i64 ((xs.length : Int)))) rfl (by kernel_rfl) ?_
      refine wl_pure (wants0 rfl) (d := 19) (v := (.int .i64 (0))) rfl (by kernel_rfl) ?_
      refine w_nil ?_
      refine then_normal ?_
      refine w_block ?_
      refine wp_round [5, 6, 7, 19, 20, 21, 22, 23, 24, 25, 26, 27, 28, 29, 30, 31, 32, 33, 34, 35, 36, 37, 38, 39, 40, 41, 42, 43, 44] (fun F_ W_ m_ => ∃ (k : Nat), F_ 19 = (.int .i64 ((k : Int))) ∧ F_ 5 = (.int .i64 ((((xs.take k).countP (fun x => decide (x < xs.getD i 0)) : Nat) : Int))) ∧ F_ 6 = (.int .i64 ((((xs.take k).countP (fun x => decide (x = xs.getD i 0)) : Nat) : Int))) ∧ (k ≤ xs.length) ∧ Sat w [restC w (fun _ => False)] W_ ∧ m_ = xs.length + 1 - k) _ ⟨0, (show ((.int .i64 (0)) : Value) = _ by first | rfl | go_num), (show ((.int .i64 (0)) : Value) = _ by first | rfl | go_num), (show ((.int .i64 (0)) : Value) = _ by first | rfl | go_num), by omega, H8, rfl⟩ ?_
      rintro g14 w15 _ ⟨k, v17, v18, v19, hk, H16, rfl⟩
      refine wp_know 19 _ v17 ?_
      refine wp_know 5 _ v18 ?_
      refine wp_know 6 _ v19 ?_
      refine w_seq ?_
      refine w_lit ?_
      refine wl_pure (wants0 rfl) (d := 20) (v := (.bool (decide ((k : Int) < (xs.length : Int))))) rfl (by kernel_rfl) ?_
      refine w_nil ?_
      refine then_normal ?_
      refine w_seq ?_
      refine (bsplit (decide ((k : Int) < (xs.length : Int)))).elim (fun b21 => ?_) (fun b21 => ?_)
      · have g22 := of_decide_eq_true b21
        refine wp_know 20 (.bool true) (congrArg Value.bool b21) ?_
        have g23 := of_decide_eq_true b21
        refine wp_ift rfl ?_
        refine w_skip ?_
        refine then_normal ?_
        refine w_seq ?_
        refine w_block ?_
        refine w_seq ?_
        refine w_lit ?_
        refine wl_pure (wants0 rfl) (d := 21) (v := (.int .i64 ((k : Int)))) rfl (by kernel_rfl) ?_
        refine wl_pure (wants0 rfl) (d := 7) (v := (.int .i64 ((k : Int)))) rfl (by kernel_rfl) ?_
        refine w_nil ?_
        refine then_normal ?_
        refine w_seq ?_
        refine w_seq ?_
        refine q_start H16 (by kernel_rfl) (by kernel_rfl) ?_
        refine q_val (wants0 rfl) (d := 22) (v := (.slice va xs.length vc)) rfl (fun _ H' => (by kernel_rfl)) ?_
        refine q_val (wants0 rfl) (d := 23) (v := (.int .i64 ((k : Int)))) rfl (fun _ H' => (by kernel_rfl)) ?_
        obtain ⟨g24, o25, c26, e27, R28⟩ := SliceOf.atD hxs 0 (show k < xs.length by omega)
        refine q_val (wants0 rfl) (d := 24) (v := (.pointer (some ⟨g24, o25 + ((k : Int)).toNat * 1, none⟩))) rfl (fun _ H' => (e_indexAddrW (E := 22) (by kernel_rfl) (by kernel_rfl) (Nat.le_of_ble_eq_true rfl) rfl e27 rfl (by omega) (by omega))) ?_
        refine q_val (wants0 rfl) (d := 25) (v := (.int .u64 ((xs.getD k 0)))) rfl (fun _ H' => (e_load1 rfl (by kernel_rfl) (H'.cellR 0 rfl (cells_at R28 0 (by kernel_rfl) (show o25 + ((k : Int)).toNat * 1 = o25 + k * 1 + 0 by omega)) (fun h => h)))) ?_
        refine q_val (wants0 rfl) (d := 26) (v := (.slice va xs.length vc)) rfl (fun _ H' => (by kernel_rfl)) ?_
        refine q_val (wants0 rfl) (d := 27) (v := (.int .i64 ((i : Int)))) rfl (fun _ H' => (by kernel_rfl)) ?_
        obtain ⟨g29, o30, c31, e32, R33⟩ := SliceOf.atD hxs 0 (show i < xs.length by omega)
        refine q_val (wants0 rfl) (d := 28) (v := (.pointer (some ⟨g29, o30 + ((i : Int)).toNat * 1, none⟩))) rfl (fun _ H' => (e_indexAddrW (E := 22) (by kernel_rfl) (by kernel_rfl) (Nat.le_of_ble_eq_true rfl) rfl e32 rfl (by omega) (by omega))) ?_
        refine q_val (wants0 rfl) (d := 29) (v := (.int .u64 ((xs.getD i 0)))) rfl (fun _ H' => (e_load1 rfl (by kernel_rfl) (H'.cellR 0 rfl (cells_at R33 0 (by kernel_rfl) (show o30 + ((i : Int)).toNat * 1 = o30 + i * 1 + 0 by omega)) (fun h => h)))) ?_
        refine q_val (wants0 rfl) (d := 30) (v := (.bool (decide ((xs.getD k 0) < (xs.getD i 0))))) rfl (fun _ H' => (by kernel_rfl)) ?_
        refine q_end ?_
        intro w34 H35
        refine then_normal ?_
        refine (bsplit (decide ((xs.getD k 0) < (xs.getD i 0)))).elim (fun b36 => ?_) (fun b36 => ?_)
        · have g37 := of_decide_eq_true b36
          refine wp_know 30 (.bool true) (congrArg Value.bool b36) ?_
          have g38 := of_decide_eq_true b36
          refine wp_ift rfl ?_
          refine w_lit ?_
          refine wl_pure (wants0 rfl) (d := 31) (v := (.int .i64 ((((xs.take k).countP (fun x => decide (x < xs.getD i 0)) : Nat) : Int)))) rfl (by kernel_rfl) ?_
          refine wl_pure (wants0 rfl) (d := 32) (v := (.int .i64 ((((xs.take k).countP (fun x => decide (x < xs.getD i 0)) : Nat) : Int) + 1))) rfl (e_int (z := (((xs.take k).countP (fun x => decide (x < xs.getD i 0)) : Nat) : Int) + 1) (by kernel_rfl) (IntWalk.i64_in _ (by have q1 := cnt_take_le (fun x => decide (x < xs.getD i 0)) xs k; have q2 := cnt_take_le (fun x => decide (x = xs.getD i 0)) xs k; omega))) ?_
          refine wl_pure (wants0 rfl) (d := 5) (v := (.int .i64 ((((xs.take k).countP (fun x => decide (x < xs.getD i 0)) : Nat) : Int) + 1))) rfl (by kernel_rfl) ?_
          refine w_nil ?_
          refine then_normal ?_
          refine w_seq ?_
          refine q_start H35 (by kernel_rfl) (by kernel_rfl) ?_
          refine q_val (wants0 rfl) (d := 33) (v := (.slice va xs.length vc)) rfl (fun _ H' => (by kernel_rfl)) ?_
          refine q_val (wants0 rfl) (d := 34) (v := (.int .i64 ((k : Int)))) rfl (fun _ H' => (by kernel_rfl)) ?_
          refine q_val (wants0 rfl) (d := 35) (v := (.pointer (some ⟨g24, o25 + ((k : Int)).toNat * 1, none⟩))) rfl (fun _ H' => (e_indexAddrW (E := 22) (by kernel_rfl) (by kernel_rfl) (Nat.le_of_ble_eq_true rfl) rfl e27 rfl (by omega) (by omega))) ?_
          refine q_val (wants0 rfl) (d := 36) (v := (.int .u64 ((xs.getD k 0)))) rfl (fun _ H' => (e_load1 rfl (by kernel_rfl) (H'.cellR 0 rfl (cells_at R28 0 (by kernel_rfl) (show o25 + ((k : Int)).toNat * 1 = o25 + k * 1 + 0 by omega)) (fun h => h)))) ?_
          refine q_val (wants0 rfl) (d := 37) (v := (.slice va xs.length vc)) rfl (fun _ H' => (by kernel_rfl)) ?_
          refine q_val (wants0 rfl) (d := 38) (v := (.int .i64 ((i : Int)))) rfl (fun _ H' => (by kernel_rfl)) ?_
          refine q_val (wants0 rfl) (d := 39) (v := (.pointer (some ⟨g29, o30 + ((i : Int)).toNat * 1, none⟩))) rfl (fun _ H' => (e_indexAddrW (E := 22) (by kernel_rfl) (by kernel_rfl) (Nat.le_of_ble_eq_true rfl) rfl e32 rfl (by omega) (by omega))) ?_
          refine q_val (wants0 rfl) (d := 40) (v := (.int .u64 ((xs.getD i 0)))) rfl (fun _ H' => (e_load1 rfl (by kernel_rfl) (H'.cellR 0 rfl (cells_at R33 0 (by kernel_rfl) (show o30 + ((i : Int)).toNat * 1 = o30 + i * 1 + 0 by omega)) (fun h => h)))) ?_
          refine q_val (wants0 rfl) (d := 41) (v := (.bool (decide ((xs.getD k 0) = (xs.getD i 0))))) rfl (fun _ H' => (by kernel_rfl)) ?_
          refine q_end ?_
          intro w39 H40
          refine then_normal ?_
          refine (bsplit (decide ((xs.getD k 0) = (xs.getD i 0)))).elim (fun b41 => ?_) (fun b41 => ?_)
          · have g42 := of_decide_eq_true b41
            refine wp_know 41 (.bool true) (congrArg Value.bool b41) ?_
            have g43 := of_decide_eq_true b41
            refine wp_ift rfl ?_
            refine w_lit ?_
            refine wl_pure (wants0 rfl) (d := 42) (v := (.int .i64 ((((xs.take k).countP (fun x => decide (x = xs.getD i 0)) : Nat) : Int)))) rfl (by kernel_rfl) ?_
            refine wl_pure (wants0 rfl) (d := 43) (v := (.int .i64 ((((xs.take k).countP (fun x => decide (x = xs.getD i 0)) : Nat) : Int) + 1))) rfl (e_int (z := (((xs.take k).countP (fun x => decide (x = xs.getD i 0)) : Nat) : Int) + 1) (by kernel_rfl) (IntWalk.i64_in _ (by have q1 := cnt_take_le (fun x => decide (x < xs.getD i 0)) xs k; have q2 := cnt_take_le (fun x => decide (x = xs.getD i 0)) xs k; omega))) ?_
            refine wl_pure (wants0 rfl) (d := 6) (v := (.int .i64 ((((xs.take k).countP (fun x => decide (x = xs.getD i 0)) : Nat) : Int) + 1))) rfl (by kernel_rfl) ?_
            refine w_nil ?_
            refine blk_normal ?_
            refine then_normal ?_
            refine w_lit ?_
            refine wl_pure (wants0 rfl) (d := 44) (v := (.int .i64 ((k : Int) + 1))) rfl (e_int (z := (k : Int) + 1) (by kernel_rfl) (IntWalk.i64_in _ (by have q1 := cnt_take_le (fun x => decide (x < xs.getD i 0)) xs k; have q2 := cnt_take_le (fun x => decide (x = xs.getD i 0)) xs k; omega))) ?_
            refine wl_pure (wants0 rfl) (d := 19) (v := (.int .i64 ((k : Int) + 1))) rfl (by kernel_rfl) ?_
            refine w_nil ?_
            refine round_back ?_ _ ⟨(k + 1), (show ((.int .i64 ((k : Int) + 1)) : Value) = _ by first | rfl | go_num), (show ((.int .i64 ((((xs.take k).countP (fun x => decide (x < xs.getD i 0)) : Nat) : Int) + 1)) : Value) = _ by have q := take_cnt (fun x => decide (x < xs.getD i 0)) xs k (by omega); simp only [b36, b41, if_true, if_false, Bool.false_eq_true] at q; first | (rw [q]; rfl) | (rw [q]; go_num)), (show ((.int .i64 ((((xs.take k).countP (fun x => decide (x = xs.getD i 0)) : Nat) : Int) + 1)) : Value) = _ by have q := take_cnt (fun x => decide (x = xs.getD i 0)) xs k (by omega); simp only [b36, b41, if_true, if_false, Bool.false_eq_true] at q; first | (rw [q]; rfl) | (rw [q]; go_num)), by omega, H40, rfl⟩ (by omega)
            exact (same_upd rfl (same_upd rfl (same_upd rfl (same_upd rfl (same_upd rfl (same_upd rfl (same_upd rfl (same_upd rfl (same_upd rfl (same_upd rfl (same_upd rfl (same_upd rfl (same_upd rfl (same_upd rfl (same_upd rfl (same_upd rfl (same_upd rfl (same_upd rfl (same_upd rfl (same_upd rfl (same_upd rfl (same_upd rfl (same_upd rfl (same_upd rfl (same_upd rfl (same_upd rfl (same_upd rfl (same_upd rfl (same_upd rfl (same_upd rfl (same_upd rfl (same_upd rfl (same_upd rfl (same_upd rfl (same_upd rfl (same_ovr))))))))))))))))))))))))))))))))))))
          · have g44 := of_decide_eq_false b41
            refine wp_know 41 (.bool false) (congrArg Value.bool b41) ?_
            have g45 := of_decide_eq_false b41
            refine wp_iff rfl ?_
            refine w_skip ?_
            refine blk_normal ?_
            refine then_normal ?_
            refine w_lit ?_
            refine wl_pure (wants0 rfl) (d := 44) (v := (.int .i64 ((k : Int) + 1))) rfl (e_int (z := (k : Int) + 1) (by kernel_rfl) (IntWalk.i64_in _ (by have q1 := cnt_take_le (fun x => decide (x < xs.getD i 0)) xs k; have q2 := cnt_take_le (fun x => decide (x = xs.getD i 0)) xs k; omega))) ?_
            refine wl_pure (wants0 rfl) (d := 19) (v := (.int .i64 ((k : Int) + 1))) rfl (by kernel_rfl) ?_
            refine w_nil ?_
            refine round_back ?_ _ ⟨(k + 1), (show ((.int .i64 ((k : Int) + 1)) : Value) = _ by first | rfl | go_num), (show ((.int .i64 ((((xs.take k).countP (fun x => decide (x < xs.getD i 0)) : Nat) : Int) + 1)) : Value) = _ by have q := take_cnt (fun x => decide (x < xs.getD i 0)) xs k (by omega); simp only [b36, b41, if_true, if_false, Bool.false_eq_true] at q; first | (rw [q]; rfl) | (rw [q]; go_num)), (show ((.int .i64 ((((xs.take k).countP (fun x => decide (x = xs.getD i 0)) : Nat) : Int))) : Value) = _ by have q := take_cnt (fun x => decide (x = xs.getD i 0)) xs k (by omega); simp only [b36, b41, if_true, if_false, Bool.false_eq_true] at q; first | (rw [q]; rfl) | (rw [q]; go_num)), by omega, H40, rfl⟩ (by omega)
            exact (same_upd rfl (same_upd rfl (same_upd rfl (same_upd rfl (same_upd rfl (same_upd rfl (same_upd rfl (same_upd rfl (same_upd rfl (same_upd rfl (same_upd rfl (same_upd rfl (same_upd rfl (same_upd rfl (same_upd rfl (same_upd rfl (same_upd rfl (same_upd rfl (same_upd rfl (same_upd rfl (same_upd rfl (same_upd rfl (same_upd rfl (same_upd rfl (same_upd rfl (same_upd rfl (same_upd rfl (same_upd rfl (same_upd rfl (same_upd rfl (same_upd rfl (same_upd rfl (same_ovr)))))))))))))))))))))))))))))))))
        · have g46 := of_decide_eq_false b36
          refine wp_know 30 (.bool false) (congrArg Value.bool b36) ?_
          have g47 := of_decide_eq_false b36
          refine wp_iff rfl ?_
          refine w_skip ?_
          refine then_normal ?_
          refine w_seq ?_
          refine q_start H35 (by kernel_rfl) (by kernel_rfl) ?_
          refine q_val (wants0 rfl) (d := 33) (v := (.slice va xs.length vc)) rfl (fun _ H' => (by kernel_rfl)) ?_
          refine q_val (wants0 rfl) (d := 34) (v := (.int .i64 ((k : Int)))) rfl (fun _ H' => (by kernel_rfl)) ?_
          refine q_val (wants0 rfl) (d := 35) (v := (.pointer (some ⟨g24, o25 + ((k : Int)).toNat * 1, none⟩))) rfl (fun _ H' => (e_indexAddrW (E := 22) (by kernel_rfl) (by kernel_rfl) (Nat.le_of_ble_eq_true rfl) rfl e27 rfl (by omega) (by omega))) ?_
          refine q_val (wants0 rfl) (d := 36) (v := (.int .u64 ((xs.getD k 0)))) rfl (fun _ H' => (e_load1 rfl (by kernel_rfl) (H'.cellR 0 rfl (cells_at R28 0 (by kernel_rfl) (show o25 + ((k : Int)).toNat * 1 = o25 + k * 1 + 0 by omega)) (fun h => h)))) ?_
          refine q_val (wants0 rfl) (d := 37) (v := (.slice va xs.length vc)) rfl (fun _ H' => (by kernel_rfl)) ?_
          refine q_val (wants0 rfl) (d := 38) (v := (.int .i64 ((i : Int)))) rfl (fun _ H' => (by kernel_rfl)) ?_
          refine q_val (wants0 rfl) (d := 39) (v := (.pointer (some ⟨g29, o30 + ((i : Int)).toNat * 1, none⟩))) rfl (fun _ H' => (e_indexAddrW (E := 22) (by kernel_rfl) (by kernel_rfl) (Nat.le_of_ble_eq_true rfl) rfl e32 rfl (by omega) (by omega))) ?_
          refine q_val (wants0 rfl) (d := 40) (v := (.int .u64 ((xs.getD i 0)))) rfl (fun _ H' => (e_load1 rfl (by kernel_rfl) (H'.cellR 0 rfl (cells_at R33 0 (by kernel_rfl) (show o30 + ((i : Int)).toNat * 1 = o30 + i * 1 + 0 by omega)) (fun h => h)))) ?_
          refine q_val (wants0 rfl) (d := 41) (v := (.bool (decide ((xs.getD k 0) = (xs.getD i 0))))) rfl (fun _ H' => (by kernel_rfl)) ?_
          refine q_end ?_
          intro w48 H49
          refine then_normal ?_
          refine (bsplit (decide ((xs.getD k 0) = (xs.getD i 0)))).elim (fun b50 => ?_) (fun b50 => ?_)
          · have g51 := of_decide_eq_true b50
            refine wp_know 41 (.bool true) (congrArg Value.bool b50) ?_
            have g52 := of_decide_eq_true b50
            refine wp_ift rfl ?_
            refine w_lit ?_
            refine wl_pure (wants0 rfl) (d := 42) (v := (.int .i64 ((((xs.take k).countP (fun x => decide (x = xs.getD i 0)) : Nat) : Int)))) rfl (by kernel_rfl) ?_
            refine wl_pure (wants0 rfl) (d := 43) (v := (.int .i64 ((((xs.take k).countP (fun x => decide (x = xs.getD i 0)) : Nat) : Int) + 1))) rfl (e_int (z := (((xs.take k).countP (fun x => decide (x = xs.getD i 0)) : Nat) : Int) + 1) (by kernel_rfl) (IntWalk.i64_in _ (by have q1 := cnt_take_le (fun x => decide (x < xs.getD i 0)) xs k; have q2 := cnt_take_le (fun x => decide (x = xs.getD i 0)) xs k; omega))) ?_
            refine wl_pure (wants0 rfl) (d := 6) (v := (.int .i64 ((((xs.take k).countP (fun x => decide (x = xs.getD i 0)) : Nat) : Int) + 1))) rfl (by kernel_rfl) ?_
            refine w_nil ?_
            refine blk_normal ?_
            refine then_normal ?_
            refine w_lit ?_
            refine wl_pure (wants0 rfl) (d := 44) (v := (.int .i64 ((k : Int) + 1))) rfl (e_int (z := (k : Int) + 1) (by kernel_rfl) (IntWalk.i64_in _ (by have q1 := cnt_take_le (fun x => decide (x < xs.getD i 0)) xs k; have q2 := cnt_take_le (fun x => decide (x = xs.getD i 0)) xs k; omega))) ?_
            refine wl_pure (wants0 rfl) (d := 19) (v := (.int .i64 ((k : Int) + 1))) rfl (by kernel_rfl) ?_
            refine w_nil ?_
            refine round_back ?_ _ ⟨(k + 1), (show ((.int .i64 ((k : Int) + 1)) : Value) = _ by first | rfl | go_num), (show ((.int .i64 ((((xs.take k).countP (fun x => decide (x < xs.getD i 0)) : Nat) : Int))) : Value) = _ by have q := take_cnt (fun x => decide (x < xs.getD i 0)) xs k (by omega); simp only [b36, b50, if_true, if_false, Bool.false_eq_true] at q; first | (rw [q]; rfl) | (rw [q]; go_num)), (show ((.int .i64 ((((xs.take k).countP (fun x => decide (x = xs.getD i 0)) : Nat) : Int) + 1)) : Value) = _ by have q := take_cnt (fun x => decide (x = xs.getD i 0)) xs k (by omega); simp only [b36, b50, if_true, if_false, Bool.false_eq_true] at q; first | (rw [q]; rfl) | (rw [q]; go_num)), by omega, H49, rfl⟩ (by omega)
            exact (same_upd rfl (same_upd rfl (same_upd rfl (same_upd rfl (same_upd rfl (same_upd rfl (same_upd rfl (same_upd rfl (same_upd rfl (same_upd rfl (same_upd rfl (same_upd rfl (same_upd rfl (same_upd rfl (same_upd rfl (same_upd rfl (same_upd rfl (same_upd rfl (same_upd rfl (same_upd rfl (same_upd rfl (same_upd rfl (same_upd rfl (same_upd rfl (same_upd rfl (same_upd rfl (same_upd rfl (same_upd rfl (same_upd rfl (same_upd rfl (same_upd rfl (same_upd rfl (same_ovr)))))))))))))))))))))))))))))))))
          · have g53 := of_decide_eq_false b50
            refine wp_know 41 (.bool false) (congrArg Value.bool b50) ?_
            have g54 := of_decide_eq_false b50
            refine wp_iff rfl ?_
            refine w_skip ?_
            refine blk_normal ?_
            refine then_normal ?_
            refine w_lit ?_
            refine wl_pure (wants0 rfl) (d := 44) (v := (.int .i64 ((k : Int) + 1))) rfl (e_int (z := (k : Int) + 1) (by kernel_rfl) (IntWalk.i64_in _ (by have q1 := cnt_take_le (fun x => decide (x < xs.getD i 0)) xs k; have q2 := cnt_take_le (fun x => decide (x = xs.getD i 0)) xs k; omega))) ?_
            refine wl_pure (wants0 rfl) (d := 19) (v := (.int .i64 ((k : Int) + 1))) rfl (by kernel_rfl) ?_
            refine w_nil ?_
            refine round_back ?_ _ ⟨(k + 1), (show ((.int .i64 ((k : Int) + 1)) : Value) = _ by first | rfl | go_num), (show ((.int .i64 ((((xs.take k).countP (fun x => decide (x < xs.getD i 0)) : Nat) : Int))) : Value) = _ by have q := take_cnt (fun x => decide (x < xs.getD i 0)) xs k (by omega); simp only [b36, b50, if_true, if_false, Bool.false_eq_true] at q; first | (rw [q]; rfl) | (rw [q]; go_num)), (show ((.int .i64 ((((xs.take k).countP (fun x => decide (x = xs.getD i 0)) : Nat) : Int))) : Value) = _ by have q := take_cnt (fun x => decide (x = xs.getD i 0)) xs k (by omega); simp only [b36, b50, if_true, if_false, Bool.false_eq_true] at q; first | (rw [q]; rfl) | (rw [q]; go_num)), by omega, H49, rfl⟩ (by omega)
            exact (same_upd rfl (same_upd rfl (same_upd rfl (same_upd rfl (same_upd rfl (same_upd rfl (same_upd rfl (same_upd rfl (same_upd rfl (same_upd rfl (same_upd rfl (same_upd rfl (same_upd rfl (same_upd rfl (same_upd rfl (same_upd rfl (same_upd rfl (same_upd rfl (same_upd rfl (same_upd rfl (same_upd rfl (same_upd rfl (same_upd rfl (same_upd rfl (same_upd rfl (same_upd rfl (same_upd rfl (same_upd rfl (same_upd rfl (same_ovr))))))))))))))))))))))))))))))
      · have g55 := of_decide_eq_false b21
        refine wp_know 20 (.bool false) (congrArg Value.bool b21) ?_
        have g56 := of_decide_eq_false b21
        refine wp_iff rfl ?_
        refine w_exit ?_
        refine then_exit ?_
        refine back_exit ?_
        refine blk_hit ?_
        refine then_normal ?_
        refine w_seq ?_
        have e5 : xs.take k = xs := List.take_of_length_le (by omega)
        have c1 := cLt_le xs (xs.getD i 0)
        have c2 := cEq_le xs (xs.getD i 0)
        refine wp_know 5 (.int .i64 (((cLt xs (xs.getD i 0) : Nat) : Int))) (show ((.int .i64 ((((xs.take k).countP (fun x => decide (x < xs.getD i 0)) : Nat) : Int))) : Value) = _ by rw [e5]; rfl) ?_
        refine wp_know 6 (.int .i64 (((cEq xs (xs.getD i 0) : Nat) : Int))) (show ((.int .i64 ((((xs.take k).countP (fun x => decide (x = xs.getD i 0)) : Nat) : Int))) : Value) = _ by rw [e5]; rfl) ?_
        refine w_lit ?_
        refine wl_pure (wants0 rfl) (d := 45) (v := (.int .i64 (((cLt xs (xs.getD i 0) : Nat) : Int)))) rfl (by kernel_rfl) ?_
        refine wl_pure (wants0 rfl) (d := 46) (v := (.slice va xs.length vc)) rfl (by kernel_rfl) ?_
        refine wl_pure (wants0 rfl) (d := 47) (v := (.int .i64 ((xs.length : Int)))) rfl (by kernel_rfl) ?_
        refine wl_pure (wants0 rfl) (d := 48) (v := (.int .i64 ((xs.length : Int) / 2))) rfl (e_quo (by kernel_rfl) (by omega) (by omega) (IntWalk.i64_in _ (by omega))) ?_
        refine wl_pure (wants0 rfl) (d := 49) (v := (.bool (decide (((cLt xs (xs.getD i 0) : Nat) : Int) ≤ ((xs.length : Int) / 2))))) rfl (by kernel_rfl) ?_
        refine wl_pure (wants0 rfl) (d := 50) (v := (.bool (decide (((cLt xs (xs.getD i 0) : Nat) : Int) ≤ ((xs.length : Int) / 2))))) rfl (by kernel_rfl) ?_
        refine (bsplit (decide (((cLt xs (xs.getD i 0) : Nat) : Int) ≤ ((xs.length : Int) / 2)))).elim (fun b57 => ?_) (fun b57 => ?_)
        · have g58 := of_decide_eq_true b57
          refine wl_know 50 (.bool true) (congrArg Value.bool b57) ?_
          have g59 := of_decide_eq_true b57
          refine wl_pure (wantsY 5 50 true rfl (by kernel_rfl) rfl (by kernel_rfl)) (d := 51) (v := (.slice va xs.length vc)) rfl (by kernel_rfl) ?_
          refine wl_pure (wantsY 5 50 true rfl (by kernel_rfl) rfl (by kernel_rfl)) (d := 52) (v := (.int .i64 ((xs.length : Int)))) rfl (by kernel_rfl) ?_
          refine wl_pure (wantsY 5 50 true rfl (by kernel_rfl) rfl (by kernel_rfl)) (d := 53) (v := (.int .i64 ((xs.length : Int) / 2))) rfl (e_quo (by kernel_rfl) (by omega) (by omega) (IntWalk.i64_in _ (by omega))) ?_
          refine wl_pure (wantsY 5 50 true rfl (by kernel_rfl) rfl (by kernel_rfl)) (d := 54) (v := (.int .i64 (((cLt xs (xs.getD i 0) : Nat) : Int)))) rfl (by kernel_rfl) ?_
          refine wl_pure (wantsY 5 50 true rfl (by kernel_rfl) rfl (by kernel_rfl)) (d := 55) (v := (.int .i64 (((cEq xs (xs.getD i 0) : Nat) : Int)))) rfl (by kernel_rfl) ?_
          refine wl_pure (wantsY 5 50 true rfl (by kernel_rfl) rfl (by kernel_rfl)) (d := 56) (v := (.int .i64 (((cLt xs (xs.getD i 0) : Nat) : Int) + ((cEq xs (xs.getD i 0) : Nat) : Int)))) rfl (e_int (z := ((cLt xs (xs.getD i 0) : Nat) : Int) + ((cEq xs (xs.getD i 0) : Nat) : Int)) (by kernel_rfl) (IntWalk.i64_in _ (by omega))) ?_
          refine wl_pure (wantsY 5 50 true rfl (by kernel_rfl) rfl (by kernel_rfl)) (d := 57) (v := (.bool (decide (((xs.length : Int) / 2) < (((cLt xs (xs.getD i 0) : Nat) : Int) + ((cEq xs (xs.getD i 0) : Nat) : Int)))))) rfl (by kernel_rfl) ?_
          refine wl_pure (wants0 rfl) (d := 58) (v := (.bool (decide (((xs.length : Int) / 2) < (((cLt xs (xs.getD i 0) : Nat) : Int) + ((cEq xs (xs.getD i 0) : Nat) : Int)))))) rfl (by kernel_rfl) ?_
          refine w_nil ?_
          refine then_normal ?_
          refine (bsplit (decide (((xs.length : Int) / 2) < (((cLt xs (xs.getD i 0) : Nat) : Int) + ((cEq xs (xs.getD i 0) : Nat) : Int))))).elim (fun b60 => ?_) (fun b60 => ?_)
          · have g61 := of_decide_eq_true b60
            refine wp_know 58 (.bool true) (congrArg Value.bool b60) ?_
            have g62 := of_decide_eq_true b60
            refine wp_ift rfl ?_
            refine w_seq ?_
            refine w_lit ?_
            refine wl_pure (wants0 rfl) (d := 59) (v := (.slice va xs.length vc)) rfl (by kernel_rfl) ?_
            refine wl_pure (wants0 rfl) (d := 60) (v := (.int .i64 ((i : Int)))) rfl (by kernel_rfl) ?_
            obtain ⟨g63, o64, c65, e66, R67⟩ := SliceOf.atD hxs 0 (show i < xs.length by omega)
            refine wl_pure (wants0 rfl) (d := 61) (v := (.pointer (some ⟨g63, o64 + ((i : Int)).toNat * 1, none⟩))) rfl (e_indexAddrW (E := 22) (by kernel_rfl) (by kernel_rfl) (Nat.le_of_ble_eq_true rfl) rfl e66 rfl (by omega) (by omega)) ?_
            refine wl_pure (wants0 rfl) (d := 62) (v := (.int .u64 ((xs.getD i 0)))) rfl (e_load1 rfl (by kernel_rfl) (H16.cellR 0 rfl (cells_at R67 0 (by kernel_rfl) (show o64 + ((i : Int)).toNat * 1 = o64 + i * 1 + 0 by omega)) (fun h => h))) ?_
            refine wl_pure (wants0 rfl) (d := 2) (v := (.int .u64 ((xs.getD i 0)))) rfl (by kernel_rfl) ?_
            refine wl_pure (wants0 rfl) (d := 3) (v := (.bool true)) rfl (by kernel_rfl) ?_
            refine w_nil ?_
            refine then_normal ?_
            refine w_ret ?_
            refine blk_ret ?_
            refine then_ret ?_
            refine back_ret ?_
            refine blk_ret ?_
            refine then_ret ?_
            refine end2 rfl (res_tmp (v := (.int .u64 ((xs.getD i 0)))) rfl) (res_tmp (v := (.bool true)) rfl) ?_
            simp only [decide_eq_true_eq, Bool.and_eq_true] at *
            exact ⟨by rw [medV_at (j := i) (by omega) (by omega) (by omega) (by omega), decide_eq_true (show xs.length % 2 = 1 by omega)], H16.upd 0 rfl [] (fun _ h => h.elim)⟩
          · have g68 := of_decide_eq_false b60
            refine wp_know 58 (.bool false) (congrArg Value.bool b60) ?_
            have g69 := of_decide_eq_false b60
            refine wp_iff rfl ?_
            refine w_skip ?_
            refine blk_normal ?_
            refine then_normal ?_
            refine w_lit ?_
            refine wl_pure (wants0 rfl) (d := 63) (v := (.int .i64 ((i : Int) + 1))) rfl (e_int (z := (i : Int) + 1) (by kernel_rfl) (IntWalk.i64_in _ (by omega))) ?_
            refine wl_pure (wants0 rfl) (d := 14) (v := (.int .i64 ((i : Int) + 1))) rfl (by kernel_rfl) ?_
            refine w_nil ?_
            refine round_back ?_ _ ⟨(i + 1), (show ((.int .i64 ((i : Int) + 1)) : Value) = _ by first | rfl | go_num), by omega, notMed_step hno (by unfold NotMed; rintro ⟨q1, q2⟩; simp only [decide_eq_true_eq, decide_eq_false_iff_not, Bool.and_eq_false_iff] at *; omega), H16, rfl⟩ (by omega)
            exact (same_upd rfl (same_upd rfl (same_upd rfl (same_upd rfl (same_upd rfl (same_upd rfl (same_upd rfl (same_upd rfl (same_upd rfl (same_upd rfl (same_upd rfl (same_upd rfl (same_upd rfl (same_upd rfl (same_upd rfl (same_upd rfl (same_upd rfl (same_upd rfl (same_upd rfl (same_upd rfl (same_upd rfl (same_upd rfl (same_upd rfl (same_upd rfl (same_upd rfl (same_ovr2 rfl (same_upd rfl (same_upd rfl (same_upd rfl (same_upd rfl (same_upd rfl (same_upd rfl (same_upd rfl (same_upd rfl (same_upd rfl (same_upd rfl (same_ovr)))))))))))))))))))))))))))))))))))))
        · have g70 := of_decide_eq_false b57
          refine wl_know 50 (.bool false) (congrArg Value.bool b57) ?_
          have g71 := of_decide_eq_false b57
          refine wl_pass (wantsN 5 50 true rfl (by kernel_rfl) rfl (by kernel_rfl)) rfl ?_
          refine wl_pass (wantsN 5 50 true rfl (by kernel_rfl) rfl (by kernel_rfl)) rfl ?_
          refine wl_pass (wantsN 5 50 true rfl (by kernel_rfl) rfl (by kernel_rfl)) rfl ?_
          refine wl_pass (wantsN 5 50 true rfl (by kernel_rfl) rfl (by kernel_rfl)) rfl ?_
          refine wl_pass (wantsN 5 50 true rfl (by kernel_rfl) rfl (by kernel_rfl)) rfl ?_
          refine wl_pass (wantsN 5 50 true rfl (by kernel_rfl) rfl (by kernel_rfl)) rfl ?_
          refine wl_pass (wantsN 5 50 true rfl (by kernel_rfl) rfl (by kernel_rfl)) rfl ?_
          refine wl_pure (wants0 rfl) (d := 58) (v := (.bool false)) rfl (by kernel_rfl) ?_
          refine w_nil ?_
          refine then_normal ?_
          refine wp_iff rfl ?_
          refine w_skip ?_
          refine blk_normal ?_
          refine then_normal ?_
          refine w_lit ?_
          refine wl_pure (wants0 rfl) (d := 63) (v := (.int .i64 ((i : Int) + 1))) rfl (e_int (z := (i : Int) + 1) (by kernel_rfl) (IntWalk.i64_in _ (by omega))) ?_
          refine wl_pure (wants0 rfl) (d := 14) (v := (.int .i64 ((i : Int) + 1))) rfl (by kernel_rfl) ?_
          refine w_nil ?_
          refine round_back ?_ _ ⟨(i + 1), (show ((.int .i64 ((i : Int) + 1)) : Value) = _ by first | rfl | go_num), by omega, notMed_step hno (by unfold NotMed; rintro ⟨q1, q2⟩; simp only [decide_eq_true_eq, decide_eq_false_iff_not, Bool.and_eq_false_iff] at *; omega), H16, rfl⟩ (by omega)
          exact (same_upd rfl (same_upd rfl (same_upd rfl (same_upd rfl (same_upd rfl (same_upd rfl (same_upd rfl (same_upd rfl (same_upd rfl (same_upd rfl (same_upd rfl (same_upd rfl (same_upd rfl (same_upd rfl (same_upd rfl (same_upd rfl (same_upd rfl (same_upd rfl (same_upd rfl (same_upd rfl (same_upd rfl (same_upd rfl (same_upd rfl (same_upd rfl (same_ovr2 rfl (same_upd rfl (same_upd rfl (same_upd rfl (same_upd rfl (same_upd rfl (same_upd rfl (same_upd rfl (same_upd rfl (same_upd rfl (same_upd rfl (same_ovr))))))))))))))))))))))))))))))))))))
    · have g72 := of_decide_eq_false b11
      refine wp_know 15 (.bool false) (congrArg Value.bool b11) ?_
      have g73 := of_decide_eq_false b11
      refine wp_iff rfl ?_
      refine w_exit ?_
      refine then_exit ?_
      refine back_exit ?_
      refine blk_hit ?_
      refine then_normal ?_
      refine w_seq ?_
      refine w_lit ?_
      refine wl_pure (wants0 rfl) (d := 2) (v := (.int .u64 (0))) rfl (by kernel_rfl) ?_
      refine wl_pure (wants0 rfl) (d := 3) (v := (.bool false)) rfl (by kernel_rfl) ?_
      refine w_nil ?_
      refine then_normal ?_
      refine w_ret ?_
      refine end2 rfl (res_tmp (v := (.int .u64 (0))) rfl) (res_tmp (v := (.bool false)) rfl) ?_
      exact (medV_no (xs := xs) (by omega) (fun j hj => hno j (by omega))).elim
theorem medR_any (w : World) (v : Value) (xs : List Int) (hxs : ListAt encU 1 w v xs) (hx : xs.length ≤ 12) : Calls Try.prog 47 #[v] w fun e w' => e = .returned (.tuple #[.int .u64 (medV xs), .bool (decide (xs.length % 2 = 1))]) ∧ Upd [] w w' := by
  obtain ⟨a, c, rfl⟩ := hxs.len
  exact medR_any0 w a c xs hxs hx

end Go.Proofs.Ytenihpghfdcpkaa
namespace Go.Proofs.Ytenihpghfdcpkaa
open Go.RowKit

set_option maxRecDepth 100000 in
set_option maxHeartbeats 1000000 in
theorem wTime_any (w : World) (x : CommitD) (sa : Option Addr) (sc : Nat) (S : List StampD) (hS : ListAt encSt 38 w (.slice sa S.length sc) S) (hlS : S.length ≤ 12) :
    Calls Try.prog 20 #[(.agg ⟨(([(.int .i64 (x.cl)), (.int .i64 (x.seq))] : List Value) ++ hc x.h ++ ([(.int .i64 (x.len)), (.int .i64 (x.sb)), (.int .i64 (x.sm)), (.slice sa S.length sc)] : List Value))⟩)] w fun e w' => e = .returned (.int .u64 (timeD S)) ∧ Upd [] w w' := by
  have H := Sat.start0 w
  refine calls_fr Try.func20 rfl 27 rfl (Nat.le_of_ble_eq_true rfl) ?_
  refine w_seq ?_
  refine w_lit ?_
  refine wl_do (wants0 rfl) (fun K1 hK1 => ?_)
  refine d_box (vs := (([(.int .i64 (x.cl)), (.int .i64 (x.seq))] : List Value) ++ hc x.h ++ ([(.int .i64 (x.len)), (.int .i64 (x.sb)), (.int .i64 (x.sm)), (.slice sa S.length sc)] : List Value))) rfl H rfl rfl ?_
  intro b2 w3 (H4 : Sat w [restC w (fun _ => False), cellC b2 42 (([(.int .i64 (x.cl)), (.int .i64 (x.seq))] : List Value) ++ hc x.h ++ ([(.int .i64 (x.len)), (.int .i64 (x.sb)), (.int .i64 (x.sm)), (.slice sa S.length sc)] : List Value))] w3)
  refine hK1 _ _ ?_
  clear hK1 K1
  refine wl_pure (wants0 rfl) (d := 2) (v := (.int .u64 (0))) rfl (by kernel_rfl) ?_
  refine w_nil ?_
  refine then_normal ?_
  refine w_seq ?_
  refine w_lit ?_
  refine wl_pure (wants0 rfl) (d := 3) (v := (.slice none 0 0)) rfl (by kernel_rfl) ?_
  refine w_nil ?_
  refine then_normal ?_
  refine w_seq ?_
  refine w_seq ?_
  refine w_lit ?_
  refine wl_pure (wants0 rfl) (d := 8) (v := (.pointer (some ⟨b2, 37, none⟩))) rfl (by kernel_rfl) ?_
  refine wl_pure (wants0 rfl) (d := 9) (v := (.slice sa S.length sc)) rfl (e_load1 rfl (by kernel_rfl) (H4.cell 1 rfl (by kernel_rfl))) ?_
  refine wl_pure (wants0 rfl) (d := 10) (v := (.int .i64 ((S.length : Int)))) rfl (by kernel_rfl) ?_
  refine wl_pure (wants0 rfl) (d := 11) (v := (.int .i64 (0))) rfl (by kernel_rfl) ?_
  refine w_nil ?_
  refine then_normal ?_
  refine w_block ?_
  have H5 := H4.addNil 22 1
  refine wp_round [3, 5, 11, 12, 13, 14, 15, 16, 17, 18, 19, 20] (fun F_ W_ m_ => ∃ (i : Nat) (a : Option Addr) (c : Nat) (D : List Int), F_ 11 = (.int .i64 ((i : Int))) ∧ F_ 3 = (.slice a D.length c) ∧ (i ≤ S.length) ∧ (D = timesD (S.take i)) ∧ Sat w [restC w (fun _ => False), cellC b2 42 (([(.int .i64 (x.cl)), (.int .i64 (x.seq))] : List Value) ++ hc x.h ++ ([(.int .i64 (x.len)), (.int .i64 (x.sb)), (.int .i64 (x.sm)), (.slice sa S.length sc)] : List Value)), rowC 22 1 (.slice a D.length c) D.length (D.flatMap encU)] W_ ∧ m_ = S.length - i) _ ⟨0, none, 0, [], (show ((.int .i64 (0)) : Value) = _ by first | rfl | go_num), (by first | rfl | go_num), (Nat.zero_le _), rfl, H5, rfl⟩ ?_
  rintro g6 w7 _ ⟨i, a, c, D, v9, v10, hi, hD, H8, rfl⟩
  refine wp_know 11 _ v9 ?_
  refine wp_know 3 _ v10 ?_
  have hDl : D.length = i := by rw [hD, times_len, List.length_take]; omega
  refine w_seq ?_
  refine w_lit ?_
  refine wl_pure (wants0 rfl) (d := 12) (v := (.bool (decide ((i : Int) < (S.length : Int))))) rfl (by kernel_rfl) ?_
  refine w_nil ?_
  refine then_normal ?_
  refine w_seq ?_
  refine (bsplit (decide ((i : Int) < (S.length : Int)))).elim (fun b12 => ?_) (fun b12 => ?_)
  · have g13 := of_decide_eq_true b12
    refine wp_know 12 (.bool true) (congrArg Value.bool b12) ?_
    have g14 := of_decide_eq_true b12
    refine wp_ift rfl ?_
    refine w_skip ?_
    refine then_normal ?_
    refine w_seq ?_
    refine w_block ?_
    refine w_seq ?_
    refine w_lit ?_
    obtain ⟨g15, o16, c17, e18, R19⟩ := SliceOf.atD hS stamp0 (show i < S.length by omega)
    refine wl_pure (wants0 rfl) (d := 13) (v := (.pointer (some ⟨g15, o16 + ((i : Int)).toNat * 38, none⟩))) rfl (e_indexAddrW (E := 46) (by kernel_rfl) (by kernel_rfl) (Nat.le_of_ble_eq_true rfl) rfl e18 rfl (by omega) (by omega)) ?_
    refine wl_pure (wants0 rfl) (d := 14) (v := (.agg ⟨(([(.int .i64 ((S.getD i stamp0).r)), (.int .i64 ((S.getD i stamp0).cl)), (.int .i64 ((S.getD i stamp0).seq))] : List Value) ++ hc (S.getD i stamp0).h ++ ([(.int .u64 ((S.getD i stamp0).t)), (.int .i64 ((S.getD i stamp0).sb)), (.int .i64 ((S.getD i stamp0).sm))] : List Value))⟩)) rfl (e_loadRun (vs := (([(.int .i64 ((S.getD i stamp0).r)), (.int .i64 ((S.getD i stamp0).cl)), (.int .i64 ((S.getD i stamp0).seq))] : List Value) ++ hc (S.getD i stamp0).h ++ ([(.int .u64 ((S.getD i stamp0).t)), (.int .i64 ((S.getD i stamp0).sb)), (.int .i64 ((S.getD i stamp0).sm))] : List Value))) rfl (by kernel_rfl) (by kernel_rfl) (Nat.le_of_ble_eq_true (by kernel_rfl)) (H8.runR 0 rfl (cells_run R19 0 (by kernel_rfl) (show o16 + ((i : Int)).toNat * 38 = o16 + i * 38 + 0 by omega)) (fun h => h))) ?_
    refine wl_do (wants0 rfl) (fun K20 hK20 => ?_)
    refine d_alloc (zs := (([(.int .i64 (0)), (.int .i64 (0)), (.int .i64 (0))] : List Value) ++ hc hash0 ++ ([(.int .u64 (0)), (.int .i64 (0)), (.int .i64 (0))] : List Value))) (z := (.agg ⟨(([(.int .i64 (0)), (.int .i64 (0)), (.int .i64 (0))] : List Value) ++ hc hash0 ++ ([(.int .u64 (0)), (.int .i64 (0)), (.int .i64 (0))] : List Value))⟩)) rfl H8 (by kernel_rfl) (by kernel_rfl) ?_
    intro b21 w22 (H23 : Sat w [restC w (fun _ => False), cellC b2 42 (([(.int .i64 (x.cl)), (.int .i64 (x.seq))] : List Value) ++ hc x.h ++ ([(.int .i64 (x.len)), (.int .i64 (x.sb)), (.int .i64 (x.sm)), (.slice sa S.length sc)] : List Value)), rowC 22 1 (.slice a D.length c) D.length (D.flatMap encU), cellC b21 46 (([(.int .i64 (0)), (.int .i64 (0)), (.int .i64 (0))] : List Value) ++ hc hash0 ++ ([(.int .u64 (0)), (.int .i64 (0)), (.int .i64 (0))] : List Value))] w22)
    refine hK20 _ _ ?_
    clear hK20 K20
    refine wl_do (wants0 rfl) (fun K24 hK24 => ?_)
    refine d_storeX (vs := (([(.int .i64 ((S.getD i stamp0).r)), (.int .i64 ((S.getD i stamp0).cl)), (.int .i64 ((S.getD i stamp0).seq))] : List Value) ++ hc (S.getD i stamp0).h ++ ([(.int .u64 ((S.getD i stamp0).t)), (.int .i64 ((S.getD i stamp0).sb)), (.int .i64 ((S.getD i stamp0).sm))] : List Value))) (cs' := (([(.int .i64 ((S.getD i stamp0).r)), (.int .i64 ((S.getD i stamp0).cl)), (.int .i64 ((S.getD i stamp0).seq))] : List Value) ++ hc (S.getD i stamp0).h ++ ([(.int .u64 ((S.getD i stamp0).t)), (.int .i64 ((S.getD i stamp0).sb)), (.int .i64 ((S.getD i stamp0).sm))] : List Value))) rfl H23 3 rfl rfl rfl rfl (by kernel_rfl) (Nat.le_of_ble_eq_true (by kernel_rfl)) (Nat.le_of_ble_eq_true (by kernel_rfl)) (by kernel_rfl) (by kernel_rfl) ?_
    intro w25 (H26 : Sat w [restC w (fun _ => False), cellC b2 42 (([(.int .i64 (x.cl)), (.int .i64 (x.seq))] : List Value) ++ hc x.h ++ ([(.int .i64 (x.len)), (.int .i64 (x.sb)), (.int .i64 (x.sm)), (.slice sa S.length sc)] : List Value)), rowC 22 1 (.slice a D.length c) D.length (D.flatMap encU), cellC b21 46 (([(.int .i64 ((S.getD i stamp0).r)), (.int .i64 ((S.getD i stamp0).cl)), (.int .i64 ((S.getD i stamp0).seq))] : List Value) ++ hc (S.getD i stamp0).h ++ ([(.int .u64 ((S.getD i stamp0).t)), (.int .i64 ((S.getD i stamp0).sb)), (.int .i64 ((S.getD i stamp0).sm))] : List Value))] w25)
    refine hK24 _ _ ?_
    clear hK24 K24
    refine w_nil ?_
    refine then_normal ?_
    refine w_lit ?_
    refine wl_pure (wants0 rfl) (d := 15) (v := (.slice a D.length c)) rfl (by kernel_rfl) ?_
    refine wl_pure (wants0 rfl) (d := 16) (v := (.pointer (some ⟨b21, 35, none⟩))) rfl (by kernel_rfl) ?_
    refine wl_pure (wants0 rfl) (d := 17) (v := (.int .u64 ((S.getD i stamp0).t))) rfl (e_load1 rfl (by kernel_rfl) (H26.cell 3 rfl (by kernel_rfl))) ?_
    refine wl_do (wants0 rfl) (fun K28 hK28 => ?_)
    refine d_buildSlice (e := 22) (size := 1) (bytes := 8) (z := (.int .u64 (0))) (pvs := [(0, (.int .u64 ((S.getD i stamp0).t)))]) (vs := ([(.int .u64 ((S.getD i stamp0).t))] : List Value)) rfl H26 (by kernel_rfl) (by kernel_rfl) (by kernel_rfl) (by kernel_rfl) (by kernel_rfl) rfl rfl ?_
    intro b29 w30 (H31 : Sat w [restC w (fun _ => False), cellC b2 42 (([(.int .i64 (x.cl)), (.int .i64 (x.seq))] : List Value) ++ hc x.h ++ ([(.int .i64 (x.len)), (.int .i64 (x.sb)), (.int .i64 (x.sm)), (.slice sa S.length sc)] : List Value)), rowC 22 1 (.slice a D.length c) D.length (D.flatMap encU), cellC b21 46 (([(.int .i64 ((S.getD i stamp0).r)), (.int .i64 ((S.getD i stamp0).cl)), (.int .i64 ((S.getD i stamp0).seq))] : List Value) ++ hc (S.getD i stamp0).h ++ ([(.int .u64 ((S.getD i stamp0).t)), (.int .i64 ((S.getD i stamp0).sb)), (.int .i64 ((S.getD i stamp0).sm))] : List Value)), rowC 22 1 (.slice (some ⟨b29, 0, none⟩) 1 1) 1 ([(.int .u64 ((S.getD i stamp0).t))] : List Value)] w30)
    have H32 : Sat w [restC w (fun _ => False), cellC b2 42 (([(.int .i64 (x.cl)), (.int .i64 (x.seq))] : List Value) ++ hc x.h ++ ([(.int .i64 (x.len)), (.int .i64 (x.sb)), (.int .i64 (x.sm)), (.slice sa S.length sc)] : List Value)), rowC 22 1 (.slice a D.length c) D.length (D.flatMap encU), cellC b21 46 (([(.int .i64 ((S.getD i stamp0).r)), (.int .i64 ((S.getD i stamp0).cl)), (.int .i64 ((S.getD i stamp0).seq))] : List Value) ++ hc (S.getD i stamp0).h ++ ([(.int .u64 ((S.getD i stamp0).t)), (.int .i64 ((S.getD i stamp0).sb)), (.int .i64 ((S.getD i stamp0).sm))] : List Value)), rowC 22 1 (.slice (some ⟨b29, 0, none⟩) 1 1) 1 ([(S.getD i stamp0).t].flatMap encU)] w30 := H31.cast (by rw [show (([(.int .u64 ((S.getD i stamp0).t))] : List Value) : List Value) = [(S.getD i stamp0).t].flatMap encU from rfl])
    refine hK28 _ _ ?_
    clear hK28 K28
    refine wl_do (wants0 rfl) (fun K33 hK33 => ?_)
    refine d_append (T := 115) (e := 22) (size := 1) (bytes := 8) rfl H32 (by kernel_rfl) 2 4 rfl rfl rfl rfl (flat_one encU encU_one [(S.getD i stamp0).t]) (by omega) (by omega) ?_
    intro v34 w35 (H36 : Sat w [restC w (fun _ => False), cellC b2 42 (([(.int .i64 (x.cl)), (.int .i64 (x.seq))] : List Value) ++ hc x.h ++ ([(.int .i64 (x.len)), (.int .i64 (x.sb)), (.int .i64 (x.sm)), (.slice sa S.length sc)] : List Value)), rowC 22 1 v34 (D.length + 1) ((D.flatMap encU) ++ ([(S.getD i stamp0).t].flatMap encU)), cellC b21 46 (([(.int .i64 ((S.getD i stamp0).r)), (.int .i64 ((S.getD i stamp0).cl)), (.int .i64 ((S.getD i stamp0).seq))] : List Value) ++ hc (S.getD i stamp0).h ++ ([(.int .u64 ((S.getD i stamp0).t)), (.int .i64 ((S.getD i stamp0).sb)), (.int .i64 ((S.getD i stamp0).sm))] : List Value)), rowC 22 1 (.slice (some ⟨b29, 0, none⟩) 1 1) 1 ([(S.getD i stamp0).t].flatMap encU)] w35)
    have H39 : Sat w [restC w (fun _ => False), cellC b2 42 (([(.int .i64 (x.cl)), (.int .i64 (x.seq))] : List Value) ++ hc x.h ++ ([(.int .i64 (x.len)), (.int .i64 (x.sb)), (.int .i64 (x.sm)), (.slice sa S.length sc)] : List Value)), rowC 22 1 v34 ((D ++ [(S.getD i stamp0).t]).length) ((D ++ [(S.getD i stamp0).t]).flatMap encU), cellC b21 46 (([(.int .i64 ((S.getD i stamp0).r)), (.int .i64 ((S.getD i stamp0).cl)), (.int .i64 ((S.getD i stamp0).seq))] : List Value) ++ hc (S.getD i stamp0).h ++ ([(.int .u64 ((S.getD i stamp0).t)), (.int .i64 ((S.getD i stamp0).sb)), (.int .i64 ((S.getD i stamp0).sm))] : List Value)), rowC 22 1 (.slice (some ⟨b29, 0, none⟩) 1 1) 1 ([(S.getD i stamp0).t].flatMap encU)] w35 := H36.cast (by simp only [List.length_append, List.flatMap_append] <;> rfl)
    obtain ⟨a37, c38, rfl⟩ := ownsRow_shape (H39.at 2 rfl)
    refine hK33 _ _ ?_
    clear hK33 K33
    refine wl_pure (wants0 rfl) (d := 3) (v := (.slice a37 ((D ++ [(S.getD i stamp0).t]).length) c38)) rfl (by kernel_rfl) ?_
    refine w_nil ?_
    refine blk_normal ?_
    refine then_normal ?_
    refine w_lit ?_
    refine wl_pure (wants0 rfl) (d := 20) (v := (.int .i64 ((i : Int) + 1))) rfl (e_int (z := (i : Int) + 1) (by kernel_rfl) (IntWalk.i64_in _ (by omega))) ?_
    refine wl_pure (wants0 rfl) (d := 11) (v := (.int .i64 ((i : Int) + 1))) rfl (by kernel_rfl) ?_
    refine w_nil ?_
    have hDl : D.length = i := by rw [hD, times_len, List.length_take]; omega
    have H40 : Sat w [restC w (fun _ => False), cellC b2 42 (([(.int .i64 (x.cl)), (.int .i64 (x.seq))] : List Value) ++ hc x.h ++ ([(.int .i64 (x.len)), (.int .i64 (x.sb)), (.int .i64 (x.sm)), (.slice sa S.length sc)] : List Value)), rowC 22 1 (.slice a37 ((D ++ [(S.getD i stamp0).t]).length) c38) ((D ++ [(S.getD i stamp0).t]).length) ((D ++ [(S.getD i stamp0).t]).flatMap encU)] w35 := H39.pick [0, 1, 2] (by decide)
    refine round_back ?_ _ ⟨(i + 1), a37, c38, (D ++ [(S.getD i stamp0).t]), (show ((.int .i64 ((i : Int) + 1)) : Value) = _ by first | rfl | go_num), (show ((.slice a37 ((D ++ [(S.getD i stamp0).t]).length) c38) : Value) = _ by first | rfl | go_num), (by omega), (by rw [hD, times_step S (by omega)]), H40, rfl⟩ (by omega)
    exact (same_upd rfl (same_upd rfl (same_upd rfl (same_upd rfl (same_upd rfl (same_upd rfl (same_upd rfl (same_upd rfl (same_upd rfl (same_upd rfl (same_upd rfl (same_upd rfl (same_upd rfl (same_upd rfl (same_upd rfl (same_ovr))))))))))))))))
  · have g41 := of_decide_eq_false b12
    refine wp_know 12 (.bool false) (congrArg Value.bool b12) ?_
    have g42 := of_decide_eq_false b12
    refine wp_iff rfl ?_
    refine w_exit ?_
    refine then_exit ?_
    refine back_exit ?_
    refine blk_hit ?_
    refine then_normal ?_
    refine w_seq ?_
    refine w_lit ?_
    refine wl_pure (wants0 rfl) (d := 22) (v := (.slice a D.length c)) rfl (by kernel_rfl) ?_
    refine wl_do (wants0 rfl) (fun K43 hK43 => ?_)
    refine d_call (d := 23) rfl (by kernel_rfl) (medC_any w7 (.slice a D.length c) D (ListAt.row (enc := encU) (sz := 1) encU_len (by decide) (H8.at 2 rfl)) (by omega)) ?_
    rintro _ w44 ⟨rfl, u46⟩
    have H45 := H8.keepU u46
    refine ⟨_, rfl, ?_⟩
    refine hK43 _ _ ?_
    clear hK43 K43
    refine wl_pure (wants0 rfl) (d := 21) (v := (.tuple #[(.int .u64 (medV D)), (.bool (decide (D.length % 2 = 1)))])) rfl (by kernel_rfl) ?_
    refine wl_pure (wants0 rfl) (d := 24) (v := (.int .u64 (medV D))) rfl (by kernel_rfl) ?_
    refine wl_pure (wants0 rfl) (d := 25) (v := (.bool (decide (D.length % 2 = 1)))) rfl (by kernel_rfl) ?_
    refine wl_pure (wants0 rfl) (d := 6) (v := (.int .u64 (medV D))) rfl (by kernel_rfl) ?_
    refine wl_pure (wants0 rfl) (d := 7) (v := (.bool (decide (D.length % 2 = 1)))) rfl (by kernel_rfl) ?_
    refine w_nil ?_
    refine then_normal ?_
    refine w_seq ?_
    refine w_lit ?_
    refine wl_pure (wants0 rfl) (d := 26) (v := (.int .u64 (medV D))) rfl (by kernel_rfl) ?_
    refine wl_pure (wants0 rfl) (d := 2) (v := (.int .u64 (medV D))) rfl (by kernel_rfl) ?_
    refine w_nil ?_
    refine then_normal ?_
    refine w_ret ?_
    refine end1 rfl (res_tmp (v := (.int .u64 (medV D))) rfl) ?_
    have hT : D = timesD S := by rw [hD, List.take_of_length_le (by omega)]
    exact ⟨by unfold timeD; rw [← hT], H45.upd 0 rfl [] (fun _ h => h.elim)⟩

set_option maxRecDepth 100000 in
set_option maxHeartbeats 1000000 in
theorem rTime_any (w : World) (x : CommitD) (sa : Option Addr) (sc : Nat) (S : List StampD) (hS : ListAt encSt 38 w (.slice sa S.length sc) S) (hlS : S.length ≤ 12) :
    Calls Try.prog 27 #[(.agg ⟨(([(.int .i64 (x.cl)), (.int .i64 (x.seq))] : List Value) ++ hc x.h ++ ([(.int .i64 (x.len)), (.int .i64 (x.sb)), (.int .i64 (x.sm)), (.slice sa S.length sc)] : List Value))⟩)] w fun e w' => e = .returned (.int .u64 (timeD S)) ∧ Upd [] w w' := by
  have H := Sat.start0 w
  refine calls_fr Try.func27 rfl 29 rfl (Nat.le_of_ble_eq_true rfl) ?_
  refine w_seq ?_
  refine w_lit ?_
  refine wl_do (wants0 rfl) (fun K1 hK1 => ?_)
  refine d_box (vs := (([(.int .i64 (x.cl)), (.int .i64 (x.seq))] : List Value) ++ hc x.h ++ ([(.int .i64 (x.len)), (.int .i64 (x.sb)), (.int .i64 (x.sm)), (.slice sa S.length sc)] : List Value))) rfl H rfl rfl ?_
  intro b2 w3 (H4 : Sat w [restC w (fun _ => False), cellC b2 42 (([(.int .i64 (x.cl)), (.int .i64 (x.seq))] : List Value) ++ hc x.h ++ ([(.int .i64 (x.len)), (.int .i64 (x.sb)), (.int .i64 (x.sm)), (.slice sa S.length sc)] : List Value))] w3)
  refine hK1 _ _ ?_
  clear hK1 K1
  refine wl_pure (wants0 rfl) (d := 2) (v := (.int .u64 (0))) rfl (by kernel_rfl) ?_
  refine w_nil ?_
  refine then_normal ?_
  refine w_seq ?_
  refine w_lit ?_
  refine wl_pure (wants0 rfl) (d := 3) (v := (.slice none 0 0)) rfl (by kernel_rfl) ?_
  refine w_nil ?_
  refine then_normal ?_
  refine w_seq ?_
  refine w_seq ?_
  refine w_lit ?_
  refine wl_pure (wants0 rfl) (d := 7) (v := (.pointer (some ⟨b2, 37, none⟩))) rfl (by kernel_rfl) ?_
  refine wl_pure (wants0 rfl) (d := 8) (v := (.slice sa S.length sc)) rfl (e_load1 rfl (by kernel_rfl) (H4.cell 1 rfl (by kernel_rfl))) ?_
  refine wl_pure (wants0 rfl) (d := 9) (v := (.int .i64 ((S.length : Int)))) rfl (by kernel_rfl) ?_
  refine wl_pure (wants0 rfl) (d := 10) (v := (.int .i64 (0))) rfl (by kernel_rfl) ?_
  refine w_nil ?_
  refine then_normal ?_
  refine w_block ?_
  have H5 := H4.addNil 22 1
  refine wp_round [3, 4, 10, 11, 12, 13, 14, 15, 16, 17, 18, 19, 20, 21, 22] (fun F_ W_ m_ => ∃ (i : Nat) (a : Option Addr) (c : Nat) (D : List Int), F_ 10 = (.int .i64 ((i : Int))) ∧ F_ 3 = (.slice a D.length c) ∧ (i ≤ S.length) ∧ (D = timesD (S.take i)) ∧ Sat w [restC w (fun _ => False), cellC b2 42 (([(.int .i64 (x.cl)), (.int .i64 (x.seq))] : List Value) ++ hc x.h ++ ([(.int .i64 (x.len)), (.int .i64 (x.sb)), (.int .i64 (x.sm)), (.slice sa S.length sc)] : List Value)), rowC 22 1 (.slice a D.length c) D.length (D.flatMap encU)] W_ ∧ m_ = S.length - i) _ ⟨0, none, 0, [], (show ((.int .i64 (0)) : Value) = _ by first | rfl | go_num), (by first | rfl | go_num), (Nat.zero_le _), rfl, H5, rfl⟩ ?_
  rintro g6 w7 _ ⟨i, a, c, D, v9, v10, hi, hD, H8, rfl⟩
  refine wp_know 10 _ v9 ?_
  refine wp_know 3 _ v10 ?_
  have hDl : D.length = i := by rw [hD, times_len, List.length_take]; omega
  refine w_seq ?_
  refine w_lit ?_
  refine wl_pure (wants0 rfl) (d := 11) (v := (.bool (decide ((i : Int) < (S.length : Int))))) rfl (by kernel_rfl) ?_
  refine w_nil ?_
  refine then_normal ?_
  refine w_seq ?_
  refine (bsplit (decide ((i : Int) < (S.length : Int)))).elim (fun b12 => ?_) (fun b12 => ?_)
  · have g13 := of_decide_eq_true b12
    refine wp_know 11 (.bool true) (congrArg Value.bool b12) ?_
    have g14 := of_decide_eq_true b12
    refine wp_ift rfl ?_
    refine w_skip ?_
    refine then_normal ?_
    refine w_seq ?_
    refine w_block ?_
    refine w_seq ?_
    refine w_lit ?_
    refine wl_pure (wants0 rfl) (d := 12) (v := (.int .i64 ((i : Int)))) rfl (by kernel_rfl) ?_
    refine wl_pure (wants0 rfl) (d := 4) (v := (.int .i64 ((i : Int)))) rfl (by kernel_rfl) ?_
    refine w_nil ?_
    refine then_normal ?_
    refine w_lit ?_
    refine wl_pure (wants0 rfl) (d := 13) (v := (.slice a D.length c)) rfl (by kernel_rfl) ?_
    refine wl_pure (wants0 rfl) (d := 14) (v := (.pointer (some ⟨b2, 37, none⟩))) rfl (by kernel_rfl) ?_
    refine wl_pure (wants0 rfl) (d := 15) (v := (.slice sa S.length sc)) rfl (e_load1 rfl (by kernel_rfl) (H8.cell 1 rfl (by kernel_rfl))) ?_
    refine wl_pure (wants0 rfl) (d := 16) (v := (.int .i64 ((i : Int)))) rfl (by kernel_rfl) ?_
    obtain ⟨g15, o16, c17, e18, R19⟩ := SliceOf.atD hS stamp0 (show i < S.length by omega)
    refine wl_pure (wants0 rfl) (d := 17) (v := (.pointer (some ⟨g15, o16 + ((i : Int)).toNat * 38, none⟩))) rfl (e_indexAddrW (E := 46) (by kernel_rfl) (by kernel_rfl) (Nat.le_of_ble_eq_true rfl) rfl e18 rfl (by omega) (by omega)) ?_
    refine wl_pure (wants0 rfl) (d := 18) (v := (.pointer (some ⟨g15, o16 + ((i : Int)).toNat * 38 + 35, none⟩))) rfl (by kernel_rfl) ?_
    refine wl_pure (wants0 rfl) (d := 19) (v := (.int .u64 ((S.getD i stamp0).t))) rfl (e_load1 rfl (by kernel_rfl) (H8.cellR 0 rfl (cells_at R19 35 (by kernel_rfl) (show o16 + ((i : Int)).toNat * 38 + 35 = o16 + i * 38 + 35 by omega)) (fun h => h))) ?_
    refine wl_do (wants0 rfl) (fun K20 hK20 => ?_)
    refine d_buildSlice (e := 22) (size := 1) (bytes := 8) (z := (.int .u64 (0))) (pvs := [(0, (.int .u64 ((S.getD i stamp0).t)))]) (vs := ([(.int .u64 ((S.getD i stamp0).t))] : List Value)) rfl H8 (by kernel_rfl) (by kernel_rfl) (by kernel_rfl) (by kernel_rfl) (by kernel_rfl) rfl rfl ?_
    intro b21 w22 (H23 : Sat w [restC w (fun _ => False), cellC b2 42 (([(.int .i64 (x.cl)), (.int .i64 (x.seq))] : List Value) ++ hc x.h ++ ([(.int .i64 (x.len)), (.int .i64 (x.sb)), (.int .i64 (x.sm)), (.slice sa S.length sc)] : List Value)), rowC 22 1 (.slice a D.length c) D.length (D.flatMap encU), rowC 22 1 (.slice (some ⟨b21, 0, none⟩) 1 1) 1 ([(.int .u64 ((S.getD i stamp0).t))] : List Value)] w22)
    have H24 : Sat w [restC w (fun _ => False), cellC b2 42 (([(.int .i64 (x.cl)), (.int .i64 (x.seq))] : List Value) ++ hc x.h ++ ([(.int .i64 (x.len)), (.int .i64 (x.sb)), (.int .i64 (x.sm)), (.slice sa S.length sc)] : List Value)), rowC 22 1 (.slice a D.length c) D.length (D.flatMap encU), rowC 22 1 (.slice (some ⟨b21, 0, none⟩) 1 1) 1 ([(S.getD i stamp0).t].flatMap encU)] w22 := H23.cast (by rw [show (([(.int .u64 ((S.getD i stamp0).t))] : List Value) : List Value) = [(S.getD i stamp0).t].flatMap encU from rfl])
    refine hK20 _ _ ?_
    clear hK20 K20
    refine wl_do (wants0 rfl) (fun K25 hK25 => ?_)
    refine d_append (T := 115) (e := 22) (size := 1) (bytes := 8) rfl H24 (by kernel_rfl) 2 3 rfl rfl rfl rfl (flat_one encU encU_one [(S.getD i stamp0).t]) (by omega) (by omega) ?_
    intro v26 w27 (H28 : Sat w [restC w (fun _ => False), cellC b2 42 (([(.int .i64 (x.cl)), (.int .i64 (x.seq))] : List Value) ++ hc x.h ++ ([(.int .i64 (x.len)), (.int .i64 (x.sb)), (.int .i64 (x.sm)), (.slice sa S.length sc)] : List Value)), rowC 22 1 v26 (D.length + 1) ((D.flatMap encU) ++ ([(S.getD i stamp0).t].flatMap encU)), rowC 22 1 (.slice (some ⟨b21, 0, none⟩) 1 1) 1 ([(S.getD i stamp0).t].flatMap encU)] w27)
    have H31 : Sat w [restC w (fun _ => False), cellC b2 42 (([(.int .i64 (x.cl)), (.int .i64 (x.seq))] : List Value) ++ hc x.h ++ ([(.int .i64 (x.len)), (.int .i64 (x.sb)), (.int .i64 (x.sm)), (.slice sa S.length sc)] : List Value)), rowC 22 1 v26 ((D ++ [(S.getD i stamp0).t]).length) ((D ++ [(S.getD i stamp0).t]).flatMap encU), rowC 22 1 (.slice (some ⟨b21, 0, none⟩) 1 1) 1 ([(S.getD i stamp0).t].flatMap encU)] w27 := H28.cast (by simp only [List.length_append, List.flatMap_append] <;> rfl)
    obtain ⟨a29, c30, rfl⟩ := ownsRow_shape (H31.at 2 rfl)
    refine hK25 _ _ ?_
    clear hK25 K25
    refine wl_pure (wants0 rfl) (d := 3) (v := (.slice a29 ((D ++ [(S.getD i stamp0).t]).length) c30)) rfl (by kernel_rfl) ?_
    refine w_nil ?_
    refine blk_normal ?_
    refine then_normal ?_
    refine w_lit ?_
    refine wl_pure (wants0 rfl) (d := 22) (v := (.int .i64 ((i : Int) + 1))) rfl (e_int (z := (i : Int) + 1) (by kernel_rfl) (IntWalk.i64_in _ (by omega))) ?_
    refine wl_pure (wants0 rfl) (d := 10) (v := (.int .i64 ((i : Int) + 1))) rfl (by kernel_rfl) ?_
    refine w_nil ?_
    have hDl : D.length = i := by rw [hD, times_len, List.length_take]; omega
    have H32 : Sat w [restC w (fun _ => False), cellC b2 42 (([(.int .i64 (x.cl)), (.int .i64 (x.seq))] : List Value) ++ hc x.h ++ ([(.int .i64 (x.len)), (.int .i64 (x.sb)), (.int .i64 (x.sm)), (.slice sa S.length sc)] : List Value)), rowC 22 1 (.slice a29 ((D ++ [(S.getD i stamp0).t]).length) c30) ((D ++ [(S.getD i stamp0).t]).length) ((D ++ [(S.getD i stamp0).t]).flatMap encU)] w27 := H31.pick [0, 1, 2] (by decide)
    refine round_back ?_ _ ⟨(i + 1), a29, c30, (D ++ [(S.getD i stamp0).t]), (show ((.int .i64 ((i : Int) + 1)) : Value) = _ by first | rfl | go_num), (show ((.slice a29 ((D ++ [(S.getD i stamp0).t]).length) c30) : Value) = _ by first | rfl | go_num), (by omega), (by rw [hD, times_step S (by omega)]), H32, rfl⟩ (by omega)
    exact (same_upd rfl (same_upd rfl (same_upd rfl (same_upd rfl (same_upd rfl (same_upd rfl (same_upd rfl (same_upd rfl (same_upd rfl (same_upd rfl (same_upd rfl (same_upd rfl (same_upd rfl (same_upd rfl (same_upd rfl (same_upd rfl (same_upd rfl (same_upd rfl (same_ovr)))))))))))))))))))
  · have g33 := of_decide_eq_false b12
    refine wp_know 11 (.bool false) (congrArg Value.bool b12) ?_
    have g34 := of_decide_eq_false b12
    refine wp_iff rfl ?_
    refine w_exit ?_
    refine then_exit ?_
    refine back_exit ?_
    refine blk_hit ?_
    refine then_normal ?_
    refine w_seq ?_
    refine w_lit ?_
    refine wl_pure (wants0 rfl) (d := 24) (v := (.slice a D.length c)) rfl (by kernel_rfl) ?_
    refine wl_do (wants0 rfl) (fun K35 hK35 => ?_)
    refine d_call (d := 25) rfl (by kernel_rfl) (medR_any w7 (.slice a D.length c) D (ListAt.row (enc := encU) (sz := 1) encU_len (by decide) (H8.at 2 rfl)) (by omega)) ?_
    rintro _ w36 ⟨rfl, u38⟩
    have H37 := H8.keepU u38
    refine ⟨_, rfl, ?_⟩
    refine hK35 _ _ ?_
    clear hK35 K35
    refine wl_pure (wants0 rfl) (d := 23) (v := (.tuple #[(.int .u64 (medV D)), (.bool (decide (D.length % 2 = 1)))])) rfl (by kernel_rfl) ?_
    refine wl_pure (wants0 rfl) (d := 26) (v := (.int .u64 (medV D))) rfl (by kernel_rfl) ?_
    refine wl_pure (wants0 rfl) (d := 27) (v := (.bool (decide (D.length % 2 = 1)))) rfl (by kernel_rfl) ?_
    refine wl_pure (wants0 rfl) (d := 5) (v := (.int .u64 (medV D))) rfl (by kernel_rfl) ?_
    refine wl_pure (wants0 rfl) (d := 6) (v := (.bool (decide (D.length % 2 = 1)))) rfl (by kernel_rfl) ?_
    refine w_nil ?_
    refine then_normal ?_
    refine w_seq ?_
    refine w_lit ?_
    refine wl_pure (wants0 rfl) (d := 28) (v := (.int .u64 (medV D))) rfl (by kernel_rfl) ?_
    refine wl_pure (wants0 rfl) (d := 2) (v := (.int .u64 (medV D))) rfl (by kernel_rfl) ?_
    refine w_nil ?_
    refine then_normal ?_
    refine w_ret ?_
    refine end1 rfl (res_tmp (v := (.int .u64 (medV D))) rfl) ?_
    have hT : D = timesD S := by rw [hD, List.take_of_length_le (by omega)]
    exact ⟨by unfold timeD; rw [← hT], H37.upd 0 rfl [] (fun _ h => h.elim)⟩

end Go.Proofs.Ytenihpghfdcpkaa
