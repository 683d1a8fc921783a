/- WHAT IS PROVED: how a law's arguments are opened, and how its row is closed once its call is known to answer true and to leave old memory as it was. Conditions: stated with each. -/
import Derived.Test.YtenihpghfdcpkaaReg
import Derived.ProofKit
import Derived.OpenShut
import Derived.JoinedCond
import Derived.Deep.Slices
namespace Go.Proofs.Ytenihpghfdcpkaa
open Go.ChangeShapes Go.WideShapes Go.ChangeAt Go.RowKit Go.Deep

section
variable {H : Type} {enc : TypeId × Value → H} {P : Program} {W : World}

theorem choose_list {α : Type} {p : Nat → α → Prop} : ∀ (n : Nat), (∀ i, i < n → ∃ x, p i x) → ∃ xs : List α, xs.length = n ∧ ∀ i (h : i < xs.length), p i xs[i]
  | 0, _ => ⟨[], rfl, fun i h => by simp at h⟩
  | k + 1, each => by
    obtain ⟨xs, h1, h2⟩ := choose_list k (fun i hi => each i (by omega))
    obtain ⟨x, hx⟩ := each k (by omega)
    refine ⟨xs ++ [x], by simp [h1], fun i hi => ?_⟩
    by_cases hik : i < xs.length
    · rw [List.getElem_append_left hik]; exact h2 i hik
    · have : i = k := by simp at hi; omega
      subst this
      rw [List.getElem_append_right (by omega)]
      simpa using hx

theorem open_sliceOf {α : Type} {R : World → Addr → α → Prop} {t e : TypeId} {sz : Nat} (ht : P.underlying t = some (.slice e)) (hc : P.cellsOf e = sz) (hpos : 0 < sz) {v : Value} {d : DataW H} {ps : List MemPlace} (hv : ∃ a len cap, v = .slice a len cap)
    (h : DataW.Trod enc P W 0 (fun _ => true) true t v d ps)
    (hel : ∀ (cs : List Value) (n : Nat) (y : DataW H × List MemPlace) (b off : Nat), cs.length = sz → (∀ j (hj : j < cs.length), W.cell? ⟨b, off + j, none⟩ = some cs[j]) → DataW.trod enc P W 0 (fun _ => true) true n e cs = some y → ∃ x, R W ⟨b, off, none⟩ x) :
    ∃ xs, SliceOf R sz W v xs := by
  obtain ⟨a, len, cap, rfl⟩ := hv
  obtain ⟨fuel, h⟩ := h
  rcases open_slice ht h with ⟨h0, _⟩ | ⟨ad, len', cap', m, n, D, Pl, h0, _, hl, hm, hmm, _, hx⟩
  · simp only [Value.cells, List.cons.injEq, Value.slice.injEq, and_true] at h0
    obtain ⟨rfl, rfl, rfl⟩ := h0
    exact ⟨[], SliceOf.nil⟩
  · simp only [Value.cells, List.cons.injEq, Value.slice.injEq, and_true] at h0
    obtain ⟨rfl, rfl, rfl⟩ := h0
    simp only [if_true] at hmm
    subst hmm
    rcases Nat.eq_zero_or_pos len with h0 | h0
    · subst h0
      exact ⟨[], .inl ⟨_, _, rfl, rfl, hm, by simp⟩⟩
    · rw [hc] at hx
      have hspot : ad.spot = none := by
        obtain ⟨cs, h1, _⟩ := hx 0 (by omega)
        obtain ⟨_, hlen, hcs⟩ := World.cells?_some h1
        have h2 := hcs 0 hpos
        rw [Nat.zero_mul] at h2
        simp only [Addr.add, if_true] at h2
        have h3 : cs[0]? = some cs[0] := List.getElem?_eq_getElem (by omega)
        rw [h3] at h2
        unfold World.cell? at h2
        split at h2
        · cases hs : ad.spot with
          | none => rfl
          | some _ => simp [hs] at h2
        · cases h2
      obtain ⟨b, off, sp⟩ := ad
      simp only at hspot
      subst hspot
      have each : ∀ i, i < len → ∃ x, R W ⟨b, off + i * sz, none⟩ x := by
        intro i hi
        obtain ⟨cs, h1, h2⟩ := hx i (by omega)
        obtain ⟨_, hlen, hcs⟩ := World.cells?_some h1
        refine hel cs n _ b (off + i * sz) hlen (fun j hj => ?_) h2
        have h3 := hcs j (by omega)
        rw [Addr.add_lit, Addr.add_lit, List.getElem?_eq_getElem hj] at h3
        exact h3
      obtain ⟨x0, _⟩ := each 0 h0
      have := choose_list len each
      obtain ⟨xs, h1, h2⟩ := this
      exact ⟨xs, .inr ⟨by omega, b, off, _, by rw [h1], ⟨by omega, hm⟩, h2⟩⟩

theorem trod_int_cell {n : Nat} {t : TypeId} {k : IntKind} {cs : List Value} {y : DataW H × List MemPlace} (ht : P.underlying t = some (.int k)) (h : DataW.trod enc P W 0 (fun _ => true) true n t cs = some y) : ∃ z, cs = [.int k z] ∧ (Lit.int k z).wf = true := by
  obtain ⟨z, h1, _, h2⟩ := DataW.trod_int ht h
  exact ⟨z, h1, h2⟩
theorem wf_i64 {z : Int} (h : (Lit.int .i64 z).wf = true) : -9223372036854775808 ≤ z ∧ z ≤ 9223372036854775807 := by
  simpa [Lit.wf, IntKind.min, IntKind.max, IntKind.signed, IntKind.bits] using h
theorem wf_u8 {z : Int} (h : (Lit.int .u8 z).wf = true) : 0 ≤ z ∧ z ≤ 255 := by
  simpa [Lit.wf, IntKind.min, IntKind.max, IntKind.signed, IntKind.bits] using h

/-- []int -/
theorem open_i64s {t e : TypeId} (ht : P.underlying t = some (.slice e)) (he : P.underlying e = some (.int .i64)) (hc : P.cellsOf e = 1) {v : Value} {d : DataW H} {ps : List MemPlace} (hv : ∃ a len cap, v = .slice a len cap)
    (h : DataW.Trod enc P W 0 (fun _ => true) true t v d ps) : ∃ xs, IntsAt W v xs := by
  obtain ⟨xs, hx⟩ := open_sliceOf (R := fun w a x => CellInt w a x ∧ -9223372036854775808 ≤ x ∧ x ≤ 9223372036854775807) ht hc (by omega) hv h (fun cs n y b off hl hcs hy => by
    obtain ⟨z, rfl, hz⟩ := trod_int_cell he hy
    exact ⟨z, hcs 0 (by simp), wf_i64 hz⟩)
  refine ⟨xs, fun n hn => ?_, SliceOf.imp hx fun _ _ h => h.1⟩
  obtain ⟨i, hi, rfl⟩ := List.mem_iff_getElem.1 hn
  obtain ⟨b, off, cap, _, _, hall⟩ := hx.some (by omega)
  exact (hall i hi).2

/-- []byte -/
theorem open_u8s {t e : TypeId} (ht : P.underlying t = some (.slice e)) (he : P.underlying e = some (.int .u8)) (hc : P.cellsOf e = 1) {v : Value} {d : DataW H} {ps : List MemPlace} (hv : ∃ a len cap, v = .slice a len cap)
    (h : DataW.Trod enc P W 0 (fun _ => true) true t v d ps) : ∃ xs, BytesAt W v xs :=
  open_sliceOf (R := CellU8) ht hc (by omega) hv h (fun cs n y b off hl hcs hy => by
    obtain ⟨z, rfl, hz⟩ := trod_int_cell he hy
    have hb := wf_u8 hz
    refine ⟨UInt8.ofNat z.toNat, ?_⟩
    have h1 := hcs 0 (by simp)
    simp only [Nat.add_zero, List.getElem_cons_zero] at h1
    have e1 : ((UInt8.ofNat z.toNat).toNat : Int) = z := by simp; omega
    simp only [CellU8, byteV, e1]
    exact h1)
theorem trod_slice_shape {n : Nat} {t e : TypeId} {cs : List Value} {y : DataW H × List MemPlace} (ht : P.underlying t = some (.slice e)) (h : DataW.trod enc P W 0 (fun _ => true) true n t cs = some y) : ∃ a len cap, cs = [.slice a len cap] := by
  rcases DataW.trod_slice ht h with ⟨rfl, _⟩ | ⟨a, len, cap, _, _, _, _, rfl, _⟩
  · exact ⟨_, _, _, rfl⟩
  · exact ⟨_, _, _, rfl⟩
/-- [][]byte -/
theorem open_texts {t e u : TypeId} (ht : P.underlying t = some (.slice e)) (he : P.underlying e = some (.slice u)) (hu : P.underlying u = some (.int .u8)) (hc : P.cellsOf e = 1) (hcu : P.cellsOf u = 1) {v : Value} {d : DataW H} {ps : List MemPlace} (hv : ∃ a len cap, v = .slice a len cap)
    (h : DataW.Trod enc P W 0 (fun _ => true) true t v d ps) : ∃ xs, TextsAt W v xs :=
  open_sliceOf (R := CellOf BytesAt) ht hc (by omega) hv h (fun cs n y b off hl hcs hy => by
    obtain ⟨a, len, cap, rfl⟩ := trod_slice_shape he hy
    obtain ⟨xs, hx⟩ := open_u8s (enc := enc) (P := P) (W := W) (v := .slice a len cap) (d := y.1) (ps := y.2) he hu hcu ⟨a, len, cap, rfl⟩ ⟨n, hy⟩
    have h1 := hcs 0 (by simp)
    simp only [Nat.add_zero, List.getElem_cons_zero] at h1
    exact ⟨xs, _, h1, hx⟩)

/-- what lies behind a law's call: it answered true, and old memory is as it was -/
theorem trodAll_below (hl : laidOutB P = true) {W' : World} (hb : Below W.heap.size W W') : ∀ {ts : List TypeId} {vs : List Value} {ds : List (DataW H)} {ps : List MemPlace}, ts.all (fun t => P.readableRec t && decide (t < P.types.size)) = true →
    DataW.TrodAll enc P W 0 (fun _ => true) true ts vs ds ps → (∀ x ∈ ps, x.block < W.heap.size) → DataW.TrodAll enc P W' 0 (fun b => decide (b < W.heap.size)) true ts vs ds ps
  | [], _, _, _, _, h, _ => by
    obtain ⟨rfl, rfl, rfl⟩ := trodAll_nil h
    exact trodAll_mk0
  | t :: ts, _, _, _, hr, h, hlt => by
    obtain ⟨v, vs, d, ds, p, q, rfl, rfl, rfl, h1, h2⟩ := trodAll_cons h
    simp only [List.all_cons, Bool.and_eq_true, decide_eq_true_eq] at hr
    exact trodAll_cons_mk (Below.trod hl hr.1.1 hr.1.2 h1 hb fun x hx => hlt x (List.mem_append_left _ hx)) (trodAll_below hl hb hr.2 h2 fun x hx => hlt x (List.mem_append_right _ hx))

theorem law_post {f : Func} {s : ChangeSpec} {W' : World} {args : Array Value} {ds gs : List (DataW H)} {before : List MemPlace} {tb : TypeId} (hv : s.vars = []) (hres : f.resultTypes = #[tb]) (hbool : P.underlying tb = some .bool) (hl : laidOutB P = true)
    (hr : f.params.toList.all (fun t => P.readableRec t && decide (t < P.types.size)) = true) (hW : DataW.Whole enc P f.params.toList s.vars false W args.toList ds gs before)
    (hs : (s.fn H (ds ++ gs)).results = [.lit (.bool true)] ∧ (s.fn H (ds ++ gs)).args = ds ∧ (s.fn H (ds ++ gs)).vars = []) (hb : Below W.heap.size W W') : s.post enc P f false true false false W args (.bool true) W' := by
  have hlt := hW.lt
  obtain ⟨p, q, hA, hV, rfl, hfz, hnd⟩ := hW
  have hV' := hV
  rw [hv] at hV'
  obtain ⟨rfl, rfl⟩ := trodVars_none hV'
  refine ⟨ds, [], p ++ [], [], p, [], ⟨p, [], hA, hV, rfl, hfz, hnd⟩, ?_, ?_, ?_, hb.frame _, fun h => by cases h⟩
  · rw [hs.1, hres]
    exact trodAll_mk1 (shut_bool hbool true)
  · rw [hs.2.1]
    exact trodAll_below hl hb hr hA fun x hx => hlt x (by simpa using hx)
  · rw [hs.2.2, hv]
    rfl
end
end Go.Proofs.Ytenihpghfdcpkaa
