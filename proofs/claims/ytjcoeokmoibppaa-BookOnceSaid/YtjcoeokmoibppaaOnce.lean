/- WHAT IS PROVED: BookOnce answers true whatever its input. No condition. -/
import Derived.Test.YtjcoeokmoibppaaWakes03
import Derived.Deep.RegionWith
import Derived.Deep.DeepCutAuto
import Derived.Deep.RegionHeld3
import Derived.Lib.Hide
namespace Go.Proofs.Ytjcoeokmoibppaa
open Go.RowKit

/-- the first k texts, signed one behind the other -/
def onceL (it : Nat → Signed) (k : Nat) : List Signed := (List.range k).foldl (fun l i => signL l (it i)) []
theorem onceL_succ (it : Nat → Signed) (k : Nat) : onceL it (k + 1) = signL (onceL it k) (it k) := by simp [onceL, List.range_succ]
theorem onceL_len (it : Nat → Signed) : ∀ k, (onceL it k).length ≤ k
  | 0 => by simp [onceL]
  | k + 1 => by rw [onceL_succ]; have := signL_len (onceL it k) (it k); have := onceL_len it k; omega
theorem onceL_mem (it : Nat → Signed) : ∀ k i, i < k → it i ∈ onceL it k
  | 0, i, h => by omega
  | k + 1, i, h => by
    rw [onceL_succ]
    by_cases e : i = k
    · subst e; exact signL_mem _ _
    · exact signL_sub (onceL_mem it k i (by omega))
/-- the mark that the i-th text got -/
def onceM (it : Nat → Signed) (i : Nat) : Int := markOf (onceL it (i + 1)) (it i)
theorem onceM_eq (it : Nat → Signed) (i : Nat) : ∀ k, i < k → markOf (onceL it k) (it i) = onceM it i
  | 0, h => by omega
  | k + 1, h => by
    by_cases e : i = k
    · subst e; rfl
    · rw [onceL_succ, markOf_signL (onceL_mem it k i (by omega)), onceM_eq it i k (by omega)]

theorem onceM_bd (it : Nat → Signed) (i : Nat) : 1 ≤ onceM it i ∧ onceM it i ≤ i + 1 := by
  have h1 := markOf_pos (onceL_mem it (i + 1) i (by omega))
  have h2 := onceL_len it (i + 1)
  unfold onceM; omega
theorem once_sign (it : Nat → Signed) (k : Nat) (hk : k ≤ 1000) (w : World) (b mb : Nat) (v : Value) (hb : BookAt w b mb (onceL it k)) (hv : BytesAt w v (it k).s) :
    Calls Try.prog 9 #[.pointer (some ⟨b, 0, none⟩), .int .i64 (it k).p, v] w fun e w' => e = .returned (.agg #[.int .i64 (it k).p, .int .i64 (onceM it k)]) ∧ BookAt w' b mb (onceL it (k + 1)) ∧ Upd [mb] w w' := by
  have h := sign_any w b mb _ (it k).p v (it k).s hb hv (by have := onceL_len it k; omega)
  rw [onceL_succ]
  unfold onceM
  rw [onceL_succ]
  exact h
theorem once_again (it : Nat → Signed) (i k : Nat) (hk : i < k) (w : World) (b mb : Nat) (v : Value) (hb : BookAt w b mb (onceL it k)) (hv : BytesAt w v (it i).s) :
    Calls Try.prog 9 #[.pointer (some ⟨b, 0, none⟩), .int .i64 (it i).p, v] w fun e w' => e = .returned (.agg #[.int .i64 (it i).p, .int .i64 (onceM it i)]) ∧ BookAt w' b mb (onceL it k) ∧ Upd [mb] w w' := by
  have h := sign_old w b mb _ (it i).p v (it i).s hb hv (onceL_mem it k i hk)
  rw [show (⟨(it i).p, (it i).s⟩ : Signed) = it i from rfl, onceM_eq it i k hk] at h
  exact h

theorem infoSig : (Try.prog.info? 30).map (fun i => (i.zero, i.size, i.bytes)) = some (some (.agg #[.int .i64 0, .int .i64 0]), 2, 16) := by kernel_rfl
theorem infoBytes : (Try.prog.info? 27).map (fun i => (i.zero, i.size, i.bytes)) = some (some (.slice none 0 0), 1, 24) := by kernel_rfl

theorem wrap_ne (a b : Int) (ha : -9223372036854775808 ≤ a ∧ a ≤ 9223372036854775807) (hb : 0 ≤ b ∧ b < 9) : ¬ IntKind.i64.wrap (IntKind.i64.wrap (a + 1) + b) = a := by
  simp [IntKind.wrap, IntKind.signed, IntKind.bits]
  omega
theorem once_right (it : Nat → Signed) (i j K : Nat) (hi : i < K) : rightB (onceL it K) (it i).p (onceM it i) (it j).s = decide ((it i).s = (it j).s) := by
  have h1 := onceM_eq it i K hi
  have h2 := onceM_bd it i
  have h3 := onceL_mem it K i hi
  unfold rightB
  by_cases h : (it i).s = (it j).s
  · rw [← h]
    have e : (⟨(it i).p, (it i).s⟩ : Signed) = it i := rfl
    rw [e, h1]
    simp; omega
  · rw [Bool.eq_iff_iff]
    simp only [decide_eq_true_eq, h, iff_false]
    rintro ⟨_, h5⟩
    have h6 := markOf_inj h3 (h1.trans h5.symm)
    exact h (by rw [h6])
theorem once_mark (it : Nat → Signed) (i j K : Nat) (hi : i < K) (hj : j < K) (hp : (it i).p = (it j).p) : (onceM it i == onceM it j) = decide ((it i).s = (it j).s) := by
  have h1 := onceM_eq it i K hi
  have h2 := onceM_eq it j K hj
  by_cases h : (it i).s = (it j).s
  · have e : it i = it j := by
      cases hx : it i; cases hy : it j
      rw [hx, hy] at hp h
      simp_all
    have : onceM it i = onceM it j := by rw [← h1, ← h2, e]
    simp [this, h]
  · have : ¬ onceM it i = onceM it j := fun e => h (by rw [markOf_inj (onceL_mem it K i hi) (h1.trans (e.trans h2.symm))])
    simp [this, h]
theorem sig_cells (it : Nat → Signed) (K i : Nat) (hi : i < K) :
    ((List.range K).flatMap fun j => [Value.int .i64 (it j).p, .int .i64 (onceM it j)])[i * 2]? = some (.int .i64 (it i).p) ∧ ((List.range K).flatMap fun j => [Value.int .i64 (it j).p, .int .i64 (onceM it j)])[i * 2 + 1]? = some (.int .i64 (onceM it i)) := by
  induction K with
  | zero => omega
  | succ K ih =>
    have hl : ((List.range K).flatMap fun j => [Value.int .i64 (it j).p, .int .i64 (onceM it j)]).length = K * 2 := by simp [List.length_flatMap, List.map_const', List.sum_replicate_nat]
    rw [List.range_succ, List.flatMap_append]
    by_cases h : i < K
    · rw [List.getElem?_append_left (by omega), List.getElem?_append_left (by omega)]
      exact ih h
    · obtain rfl : i = K := by omega
      rw [List.getElem?_append_right (by omega), List.getElem?_append_right (by omega), hl]
      simp
/-- what the first loop keeps -/
structure OnceRel (w1 : World) (pb mb : Nat) (it : Nat → Signed) (K k : Nat) (wr : World) (s12 s13 : Value) (vs : List Value) : Prop where
  le : k ≤ K
  book : BookAt wr pb mb (onceL it k)
  upd : Upd [mb] w1 wr
  sigs : wr.ownsRow w1.heap.size 30 2 s12 k ((List.range k).flatMap fun j => [.int .i64 (it j).p, .int .i64 (onceM it j)])
  txts : wr.ownsRow w1.heap.size 27 1 s13 k vs
  apart : ∀ b, s12.ownBlock = some b → s13.ownBlock ≠ some b
  each : ∀ j, j < k → BytesAt wr (vs.getD j undef) (it j).s ∧ ∀ b, (vs.getD j undef).ownBlock = some b → w1.heap.size ≤ b ∧ b < wr.heap.size ∧ s12.ownBlock ≠ some b ∧ s13.ownBlock ≠ some b

set_option maxRecDepth 100000 in
set_option maxHeartbeats 8000000 in
theorem once_walk (w : World) (ta : Option Addr) (tc : Nat) (ts : List (List UInt8)) (bo : Option Addr) (bc : Nat) (bs : List Int) (wh p mk : Int)
    (hts : TextsAt w (.slice ta ts.length tc) ts) (htl : ts.length ≤ 9223372036854775807) (hbs : IntsAt w (.slice bo bs.length bc) bs) (hbsl : bs.length ≤ 9223372036854775807)
    (hwh : -9223372036854775808 ≤ wh ∧ wh ≤ 9223372036854775807) (hp : -9223372036854775808 ≤ p ∧ p ≤ 9223372036854775807) (hmk : -9223372036854775808 ≤ mk ∧ mk ≤ 9223372036854775807) :
    Calls Try.prog 3 #[.slice ta ts.length tc, .slice bo bs.length bc, .int .i64 wh, .int .i64 p, .int .i64 mk] w fun e w' => e = .returned (.bool true) ∧ Below w.heap.size w w' := by
  obtain ⟨K, HK⟩ : ∃ K : Nat, Hid (K = min (min ts.length bs.length) 10) := ⟨_, rfl⟩
  have hK1 : K ≤ ts.length := by have := HK.out; omega
  have hK2 : K ≤ bs.length := by have := HK.out; omega
  have hK3 : K ≤ 10 := by have := HK.out; omega
  obtain ⟨it, HIT⟩ : ∃ it : Nat → Signed, Hid (∀ i, it i = ⟨bs.getD i 0, (ts.getD i []).take 30⟩) := ⟨fun i => ⟨bs.getD i 0, (ts.getD i []).take 30⟩, fun _ => rfl⟩
  go_enter Try.func3, Try.ntmps3
  go_wp2_with fail
  refine (new_any _).mono ?_
  rintro e w1 ⟨pb, mb, rfl, hbk, hu, hb1, hb2⟩
  have hbl := hbk.lt
  go_wp2_with fail
  go_loopw [12, 13, 14] (fun s12 s13 i wr => ∃ k : Nat, ∃ vs : List Value, i = .int .i64 k ∧ OnceRel w1 pb mb it K k wr s12 s13 vs) (fun _ _ i _ => K - (intOf i).toNat)
  case atStart => exact ⟨0, [], rfl, ⟨Nat.zero_le _, hbk, Upd.refl _ _, World.ownsRow_nil _ _ _ _, World.ownsRow_nil _ _ _ _, by simp [Value.ownBlock], fun j hj => by omega⟩⟩
  case round =>
    obtain ⟨k, vs, rfl, hk, hbk', hu', ho12, ho13, hap, hvs⟩ := hrel
    by_cases hlt : k < K
    ·
      have hlL := onceL_len it k
      obtain ⟨tb, tof, tcc, heq, hcs⟩ := hts.some (by omega)
      simp only [Value.slice.injEq] at heq
      obtain ⟨htv, _, _⟩ := heq
      rw [htv]
      clear htv
      obtain ⟨u, hcu, hbu⟩ := hcs k (by omega)
      have harg := ((hu.nil (E := [mb])).trans hu').args (by simp; omega)
      have hcu' := harg _ _ hcu
      have hbu' := hbu.mono harg
      obtain ⟨bb, bof, bcc, heq, _, hcs2⟩ := hbs.some (by omega)
      simp only [Value.slice.injEq] at heq
      obtain ⟨hbv, _, _⟩ := heq
      rw [hbv]
      clear hbv
      have hcb' := harg _ _ (hcs2 k (by omega))
      have hbb : bb < w.heap.size := World.block_lt_of_cell? w _ (hcs2 k (by omega))
      clear hcs hcs2 hcu hbu harg
      have hitp : (it k).p = bs.getD k 0 := by rw [HIT.out]
      have hits : (ts.getD k []).take 30 = (it k).s := by rw [HIT.out]
      rw [← hitp] at hcb'
      have hcut := cut_bytes wr u (ts.getD k []) 30 hbu' (by omega)
      rw [hits] at hcut
      clear hitp hits hbu'
      have hMb := onceM_bd it k
      go_wp2_with fail
      refine hcut.mono ?_
      clear hcut
      rintro e w2 ⟨v15, rfl, ho15, hu2⟩
      have hb15 := ownsRow_bytes ho15
      obtain ⟨a15, c15, hv15⟩ := hb15.len
      subst hv15
      have hap15 : ∀ b, (Value.slice a15 (it k).s.length c15).ownBlock = some b → wr.heap.size ≤ b := fun b hb => (ho15.lt b hb).1
      have hcb2 := hu2.cell hcb' (by simp)
      have hbk2' := hbk'.upd hu2 (by simp) (by simp)
      go_wp2_with fail
      refine (once_sign it k (by omega) _ pb mb (.slice a15 (it k).s.length c15) hbk2' hb15).mono ?_
      rintro e w3 ⟨rfl, hbk3, hu3⟩
      have ho15l := ho15.lt
      have hoff15 : Off [mb] (.slice a15 (it k).s.length c15) := fun b hb => by have := ho15l b hb; have := hbk'.lt; simp; omega
      have hb153 := hb15.upd hu3 hoff15
      have hcb3 := hu3.cell hcb2 (by simp; omega)
      go_upto_region 11 with fail
      generalize hW : World.alloc _ _ = W4
      have hu4 : Upd [] w3 W4 := by rw [← hW]; exact (Upd.refl _ _).alloc _
      have h16 : W4.heap[w3.heap.size]? = some (.cells #[.int .i64 (it k).p, .int .i64 (onceM it k)] 30) := by rw [← hW]; exact heap_alloc_at _ _
      clear hW
      have hbk4 := hbk3.upd hu4 (by simp) (by simp)
      have hb154 := hb153.upd hu4 (by intro b _; simp)
      have hcb4 := hu4.cell hcb3 (by simp)
      have hmb3 := hbk3.lt
      have f1 : ∀ x : Of (fun x => BookAt x pb mb (onceL it (k + 1)) ∧ Upd [mb] W4 x), x.w.cell? ⟨w3.heap.size, 0, none⟩ = some (.int .i64 (it k).p) := fun x => x.h.2.cell (cell_of_heap h16 0) (by simp; omega)
      have f2 : ∀ x : Of (fun x => BookAt x pb mb (onceL it (k + 1)) ∧ Upd [mb] W4 x), x.w.cell? ⟨w3.heap.size, 1, none⟩ = some (.int .i64 (onceM it k)) := fun x => x.h.2.cell (cell_of_heap h16 1) (by simp; omega)
      have f3 : ∀ x : Of (fun x => BookAt x pb mb (onceL it (k + 1)) ∧ Upd [mb] W4 x), x.w.cell? ⟨bb, bof + k, none⟩ = some (.int .i64 (it k).p) := fun x => x.h.2.cell hcb4 (by simp; omega)
      have g1 : ((it k).p != (it k).p) = false := by simp
      have g2 : decide (onceM it k < 1) = false := by simp; omega
      refine wp_region_of (fun x => BookAt x pb mb (onceL it (k + 1)) ∧ Upd [mb] W4 x) (by kernel_rfl) (by kernel_rfl) ⟨hbk4.drew, (Upd.refl _ _).drew⟩ (fun hne => ?_)
      repeat (go_big_quiet_step ((rename_i x; go_at_call 9; exact Calls.of (once_again it k (k + 1) (by omega) _ pb mb (.slice a15 (it k).s.length c15) x.h.1 (hb154.upd x.h.2 hoff15)) (fun e w' h => ⟨h.1, h.2.1, x.h.2.trans h.2.2⟩))))
      refine wpQuiet_nil ?_
      intro x
      obtain ⟨W5, hbk5, hu5⟩ := x
      have c1 := f1 ⟨W5, hbk5, hu5⟩
      have c2 := f2 ⟨W5, hbk5, hu5⟩
      clear f1 f2 f3 g1 g2 hne
      have huX : Upd [mb] wr W5 := hu2.nil.trans (hu3.trans (hu4.nil.trans hu5))
      have hl12 := ho12.lt
      have hl13 := ho13.lt
      have off12 : Off [mb] u12 := fun b hb => by have := hl12 b hb; simp; omega
      have off13 : Off [mb] u13 := fun b hb => by have := hl13 b hb; simp; omega
      have ho12 := ownsRow_upd ho12 huX off12
      have ho13 := ownsRow_upd ho13 huX off13
      have hb155 := hb154.upd hu5 hoff15
      have hw5 : w1.heap.size ≤ W5.heap.size := (hu'.trans huX).size
      obtain ⟨i1, hi1, hz1, hz2, hz3⟩ := info_parts infoSig
      obtain ⟨i2, hi2, hy1, hy2, hy3⟩ := info_parts infoBytes
      obtain ⟨v12, W6, hr1, ho12', hg1, hn1⟩ := append_own (P := Try.prog) (W5.alloc (.cells #[.int .i64 (it k).p, .int .i64 (onceM it k)] 30)) w1.heap.size 26 26 30 i1 _ 2 16 Try.underlying26 hi1 hz1 hz2 hz3 rfl (by decide) u12 k _ (ho12.alloc _)
        ⟨W5.heap.size, 0, none⟩ 1 1 [.int .i64 (it k).p, .int .i64 (onceM it k)] rfl (fun j u hj => by
          rw [Addr.add_lit, cell_of_heap (heap_alloc_at _ _)]; simpa using hj) (by simp [Value.oneCell']) (by unfold maxLen; omega) (by omega) (by simp; omega)
      have h13k : W6.ownsRow w1.heap.size 27 1 u13 k vs := (ho13.alloc _).kept hg1 (by
        cases h : u13.ownBlock with
        | none => exact .inl rfl
        | some b => exact .inr (fun e => hap b e.symm h))
      obtain ⟨v13, W7, hr2, ho13', hg2, hn2⟩ := append_own (P := Try.prog) (W6.alloc (.cells #[.slice a15 (it k).s.length c15] 27)) w1.heap.size 22 22 27 i2 _ 1 24 Try.underlying22 hi2 hy1 hy2 hy3 rfl (by decide) u13 k _ (h13k.alloc _)
        ⟨W6.heap.size, 0, none⟩ 1 1 [.slice a15 (it k).s.length c15] rfl (fun j u hj => by
          rw [Addr.add_lit, cell_of_heap (heap_alloc_at _ _)]; simpa using hj) (by simp [Value.oneCell']) (by unfold maxLen; omega) (by omega) (by have := hg1.size; simp at this; simp; omega)
      have hu6 : Upd [mb] w1 W6 := ((hu'.trans huX).alloc _).grown hg1 (fun b hb => Or.inl (hl12 b hb).1)
      have hu7 : Upd [mb] w1 W7 := (hu6.alloc _).grown hg2 (fun b hb => Or.inl (hl13 b hb).1)
      have hbk7 : BookAt W7 pb mb (onceL it (k + 1)) := by
        have h1 : Upd (u12.ownBlock.toList) W5 W6 := ((Upd.refl _ _).alloc _).grown hg1 (fun b hb => Or.inr (by simp [hb]))
        have h2 : Upd (u13.ownBlock.toList) W6 W7 := ((Upd.refl _ _).alloc _).grown hg2 (fun b hb => Or.inr (by simp [hb]))
        have e1 : ∀ b, b < w1.heap.size → b ∉ u12.ownBlock.toList := fun b hb hm => by simp at hm; have := hl12 b hm; omega
        have e2 : ∀ b, b < w1.heap.size → b ∉ u13.ownBlock.toList := fun b hb hm => by simp at hm; have := hl13 b hm; omega
        exact (hbk5.upd h1 (e1 _ hbl.1) (e1 _ hbl.2)).upd h2 (e2 _ hbl.1) (e2 _ hbl.2)
      go_wp2_with (at_builtin; first | refine wpList_append_run rfl _ _ _ rfl hr1 rfl rfl rfl ?_ | refine wpList_append_run rfl _ _ _ rfl hr2 rfl rfl rfl ?_)
      clear hr1 hr2
      have hvl : vs.length = k := by simpa using ho13.1
      have hrel' : OnceRel w1 pb mb it K (k + 1) W7 v12 v13 (vs ++ [.slice a15 (it k).s.length c15]) := by
        have hwr1 := hu'.size
        have hwr5 := huX.size
        have hwr6 := hg1.size
        rw [World.size_alloc] at hwr6
        have hb6 : ∀ (v : Value) (s : List UInt8), BytesAt W5 v s → (∀ b, v.ownBlock = some b → u12.ownBlock ≠ some b ∧ u13.ownBlock ≠ some b) → BytesAt W7 v s := by
          intro v s hv ho
          have h1 : Upd (u12.ownBlock.toList) W5 W6 := ((Upd.refl _ _).alloc _).grown hg1 (fun b hb => Or.inr (by simp [hb]))
          have h2 : Upd (u13.ownBlock.toList) W6 W7 := ((Upd.refl _ _).alloc _).grown hg2 (fun b hb => Or.inr (by simp [hb]))
          exact (hv.upd h1 (fun b hb hm => (ho b hb).1 (by simpa using hm))).upd h2 (fun b hb hm => (ho b hb).2 (by simpa using hm))
        refine ⟨by omega, hbk7, hu7, ?_, ho13', ?_, ?_⟩
        · have h1 : (W6.alloc (.cells #[.slice a15 (it k).s.length c15] 27)).ownsRow w1.heap.size 30 2 v12 (k + 1) _ := ho12'.alloc _
          have h2 := h1.kept hg2 (by
            cases h : v12.ownBlock with
            | none => exact .inl rfl
            | some b =>
              refine .inr (fun e => ?_)
              rcases hn1 b h with h3 | h3
              · exact hap b h3 e.symm
              · have := (hl13 b e.symm).2; simp at h3; omega)
          rw [List.range_succ, List.flatMap_append]
          simpa using h2
        · intro b hb e
          rcases hn1 b hb with h3 | h3
          · rcases hn2 b e with h4 | h4
            · exact hap b h3 h4
            · have := (hl12 b h3).2; simp at h4; omega
          · rcases hn2 b e with h4 | h4
            · have := (hl13 b h4).2; simp at h3; omega
            · have := (ho12'.lt b hb).2; simp at h4; omega
        · have hwr7 := hg2.size
          rw [World.size_alloc] at hwr7
          have new12 : ∀ b, b < wr.heap.size ∨ b < W5.heap.size → u12.ownBlock ≠ some b → v12.ownBlock ≠ some b := fun b hb h1 h2 => by
            rcases hn1 b h2 with h3 | h3
            · exact h1 h3
            · simp at h3; omega
          have new13 : ∀ b, b < wr.heap.size ∨ b < W5.heap.size → u13.ownBlock ≠ some b → v13.ownBlock ≠ some b := fun b hb h1 h2 => by
            rcases hn2 b h2 with h3 | h3
            · exact h1 h3
            · simp at h3; omega
          intro j hj
          by_cases hjk : j < k
          · have e : (vs ++ [Value.slice a15 (it k).s.length c15]).getD j undef = vs.getD j undef := by
              simp [List.getD, List.getElem?_append_left (show j < vs.length by omega)]
            rw [e]
            obtain ⟨h1, h2⟩ := hvs j hjk
            have h3 : BytesAt W5 (vs.getD j undef) (it j).s := h1.upd huX (fun b hb => by have := h2 b hb; simp; omega)
            refine ⟨hb6 _ _ h3 fun b hb => (h2 b hb).2.2, fun b hb => ?_⟩
            obtain ⟨h4, h5, h6, h7⟩ := h2 b hb
            exact ⟨h4, by omega, new12 b (Or.inl h5) h6, new13 b (Or.inl h5) h7⟩
          · obtain rfl : j = k := by omega
            have e : (vs ++ [Value.slice a15 (it j).s.length c15]).getD j undef = Value.slice a15 (it j).s.length c15 := by
              simp [List.getD, hvl]
            rw [e]
            have h2 : ∀ b, (Value.slice a15 (it j).s.length c15).ownBlock = some b → u12.ownBlock ≠ some b ∧ u13.ownBlock ≠ some b := fun b hb =>
              ⟨fun e => by have := (hl12 b e).2; have := hap15 b hb; omega, fun e => by have := (hl13 b e).2; have := hap15 b hb; omega⟩
            refine ⟨hb6 _ _ hb155 h2, fun b hb => ?_⟩
            have h5 := ho15l b hb
            have h6 : b < W5.heap.size := by have := hu3.size; have := hu4.size; have := hu5.size; omega
            exact ⟨by omega, by omega, new12 b (Or.inr h6) (h2 b hb).1, new13 b (Or.inr h6) (h2 b hb).2⟩
      refine ⟨⟨_, _, _, _, ⟨k + 1, by go_num, vs ++ [.slice a15 (it k).s.length c15], hrel'⟩, rfl, rfl, rfl, rfl⟩, by simp [intOf]; omega⟩
    · obtain rfl : k = K := by omega
      clear hlt hk
      go_upto_region 7 with fail
      go_cut [38] (fun s wx => s = .bool false ∧ wx = wr)
      case first =>
        by_cases h1 : k < ts.length
        · by_cases h2 : k < bs.length
          · have h3 : decide ((k : Int) < 10) = false := by have := HK.out; simp; omega
            go_wp2
            go_meet
            exact ⟨rfl, rfl⟩
          · go_wp2
            go_meet
            exact ⟨rfl, rfl⟩
        · go_wp2
          go_meet
          exact ⟨rfl, rfl⟩
      case rest =>
        obtain ⟨rfl, rfl⟩ := hcut
        by_cases hk0 : k = 0
        · subst hk0
          obtain ⟨a12, c12, h12⟩ := ownsRow_shape ho12
          subst h12
          have hR := right_any wc pb mb [] p mk (.slice none 0 0) [] hbk' SliceOf.nil
          rw [show rightB [] p mk [] = false by simp [rightB, markOf]] at hR
          have HR := Lib.hid hR
          have hL := len_any wc pb mb [] hbk'
          clear hR
          go_wp2_with fail
          go_loopw [86] (fun i wx => i = .int .i64 0 ∧ wx = wc) (fun _ _ => 0)
          case atStart => exact ⟨rfl, rfl⟩
          case round =>
            obtain ⟨rfl, rfl⟩ := hrel
            go_wp2_with fail
            refine hL.mono ?_
            rintro e w4 ⟨rfl, rfl⟩
            go_wp2_with fail
            refine HR.out.mono ?_
            rintro e w5 ⟨rfl, hu5⟩
            go_wp2_with fail
            refine (wakes_any _).mono ?_
            rintro e w6 ⟨rfl, hu6⟩
            go_wp2_with fail
            go_ret
            refine ⟨rfl, ?_⟩
            have hb1 : Upd [mb] w1 w6 := hu'.trans (hu5.nil.trans hu6.nil)
            exact (hu.own hb1 (by simp; omega)).toBelow (by simp)
        ·
          obtain ⟨g12, cp12, h12, _, _, hc12, _⟩ := ownsRow_cell ho12 (by omega)
          obtain ⟨g13, cp13, h13, _, _, hc13, _⟩ := ownsRow_cell ho13 (by omega)
          subst h12 h13
          go_wp2_with fail
          obtain ⟨wo, hwo⟩ : ∃ wo : World, wo = wc := ⟨_, rfl⟩
          subst hwo
          go_loopw [86] (fun i wx => ∃ m : Nat, m ≤ k ∧ i = .int .i64 m ∧ Upd [] wo wx) (fun i _ => k - (intOf i).toNat)
          case atStart => exact ⟨0, Nat.zero_le _, rfl, Upd.refl _ _⟩
          case round =>
            obtain ⟨m, hm, rfl, hux⟩ := hrel
            by_cases hlt : m < k
            · go_wp2_with fail
              obtain ⟨wp2, hwp⟩ : ∃ wp2 : World, wp2 = wr := ⟨_, rfl⟩
              subst hwp
              go_loopw [91] (fun i wx => ∃ j : Nat, j ≤ k ∧ i = .int .i64 j ∧ Upd [] wo wx) (fun i _ => k - (intOf i).toNat)
              case atStart => exact ⟨0, Nat.zero_le _, rfl, hux⟩
              case round =>
                obtain ⟨j, hj, rfl, huy⟩ := hrel
                by_cases hltj : j < k
                ·
                  go_upto_region 20 with fail
                  have hs1 := sig_cells it k m hlt
                  have hs2 := sig_cells it k j hltj
                  have hvl : vs.length = k := by simpa using ho13.1
                  have ht1 := hc13 m (vs.getD m undef) (by simp [List.getD, List.getElem?_eq_getElem (show m < vs.length by omega)])
                  have ht2 := hc13 j (vs.getD j undef) (by simp [List.getD, List.getElem?_eq_getElem (show j < vs.length by omega)])
                  have a0 := huy.cell (hc12 _ _ hs1.1) (by simp)
                  have a1 := huy.cell (hc12 _ _ hs1.2) (by simp)
                  have a2 := huy.cell (hc12 _ _ hs2.1) (by simp)
                  have a3 := huy.cell (hc12 _ _ hs2.2) (by simp)
                  have a4 := huy.cell ht1 (by simp)
                  have a5 := huy.cell ht2 (by simp)
                  clear hs1 hs2 ht1 ht2
                  have hy1 := (hvs m hlt).1.upd huy (by intro b _; simp)
                  have hy2 := (hvs j hltj).1.upd huy (by intro b _; simp)
                  have hbkY := hbk'.upd huy (by simp) (by simp)
                  have hrt := once_right it m j k hlt
                  have hmkk := once_mark it m j k hlt hltj
                  have hsl1 : (it m).s.length ≤ 30 := by rw [HIT.out]; simp [List.length_take]; omega
                  have hsl2 : (it j).s.length ≤ 30 := by rw [HIT.out]; simp [List.length_take]; omega
                  generalize onceM it m = M1 at *
                  generalize onceM it j = M2 at *
                  generalize (it m).p = P1 at *
                  generalize (it j).p = P2 at *
                  generalize (it m).s = S1 at *
                  generalize (it j).s = S2 at *
                  generalize vs.getD m undef = V1 at *
                  generalize vs.getD j undef = V2 at *
                  have k0 : ∀ x : Of (fun x => Upd [] wr x), x.w.cell? ⟨g12, m * 2, none⟩ = some (.int .i64 P1) := fun x => x.h.cell a0 (by simp)
                  have k1 : ∀ x : Of (fun x => Upd [] wr x), x.w.cell? ⟨g12, m * 2 + 1, none⟩ = some (.int .i64 M1) := fun x => x.h.cell a1 (by simp)
                  have k2 : ∀ x : Of (fun x => Upd [] wr x), x.w.cell? ⟨g12, j * 2, none⟩ = some (.int .i64 P2) := fun x => x.h.cell a2 (by simp)
                  have k3 : ∀ x : Of (fun x => Upd [] wr x), x.w.cell? ⟨g12, j * 2 + 1, none⟩ = some (.int .i64 M2) := fun x => x.h.cell a3 (by simp)
                  have k4 : ∀ x : Of (fun x => Upd [] wr x), x.w.cell? ⟨g13, m, none⟩ = some V1 := fun x => x.h.cell a4 (by simp)
                  have k5 : ∀ x : Of (fun x => Upd [] wr x), x.w.cell? ⟨g13, j, none⟩ = some V2 := fun x => x.h.cell a5 (by simp)
                  clear a0 a1 a2 a3 a4 a5
                  have hsame : ∀ x : World, Upd [] wr x → Calls Try.prog 10 #[V1, V2] x fun e w' => e = .returned (.bool (decide (S1 = S2))) ∧ ∃ n, w' = x.drewN n := fun x hx =>
                    same_bytes x V1 V2 S1 S2 (hy1.upd hx (by intro b _; simp)) (hy2.upd hx (by intro b _; simp)) (by omega) (by omega)
                  have hright : ∀ x : World, Upd [] wr x → Calls Try.prog 11 #[.pointer (some ⟨pb, 0, none⟩), .agg #[.int .i64 P1, .int .i64 M1], V2] x fun e w' => e = .returned (.bool (decide (S1 = S2))) ∧ Upd [] x w' := fun x hx => by
                    have := right_any x pb mb _ P1 M1 V2 S2 (hbkY.upd hx (by simp) (by simp)) (hy2.upd hx (by intro b _; simp))
                    rwa [hrt] at this
                  clear hrt
                  have HS := Lib.hid hsame
                  have HR := Lib.hid hright
                  clear hsame hright hy1 hy2
                  obtain ⟨q, hq⟩ : ∃ q : Bool, decide (S1 = S2) = q := ⟨_, rfl⟩
                  obtain ⟨r, hr⟩ : ∃ r : Bool, (P1 == P2) = r := ⟨_, rfl⟩
                  have HM : Hid (r = true → (M1 == M2) = q) := by
                    rintro rfl
                    rw [← hq]
                    exact hmkk (by simpa using hr)
                  clear hmkk
                  rw [hq] at HS HR
                  clear hq
                  cases q <;> cases r
                  all_goals
                    try have hM := HM.out rfl
                    refine wp_region_of (fun x => Upd [] wr x) (by kernel_rfl) (by kernel_rfl) (Upd.refl _ _).drew (fun hne => ?_)
                    repeat (go_big_quiet_step ((rename_i x; go_at_call 10; exact Calls.of (HS.out x.w x.h) (fun e w' h => ⟨h.1, by obtain ⟨n, rfl⟩ := h.2; exact x.h.drewN n⟩))))
                    refine wpQuiet_nil ?_
                    intro x
                    obtain ⟨W6, hu6⟩ := x
                    go_upto_region 21 with fail
                    refine wp_region_of (fun x => Upd [] wr x) (by kernel_rfl) (by kernel_rfl) hu6.drew (fun hne => ?_)
                    repeat (go_big_quiet_step ((first | (rename_i x; go_at_call 10; exact Calls.of (HS.out x.w x.h) (fun e w' h => ⟨h.1, by obtain ⟨n, rfl⟩ := h.2; exact x.h.drewN n⟩)) | (rename_i x; go_at_call 11; exact Calls.of (HR.out x.w x.h) (fun e w' h => ⟨h.1, x.h.trans h.2⟩)))))
                    refine wpQuiet_nil ?_
                    intro x
                    obtain ⟨W7, hu7⟩ := x
                    go_wp2_with fail
                    exact ⟨⟨j + 1, by omega, by go_num, huy.trans hu7⟩, by simp [intOf]; omega⟩
                · go_wp2_with fail
                  exact ⟨⟨m + 1, by omega, by go_num, huy⟩, by simp [intOf]; omega⟩
            · have hwb := within_bd wh k (by omega)
              have hwa := within_any wh k
              obtain ⟨i, hi⟩ : ∃ i : Nat, within wh k = (i : Int) := ⟨(within wh k).toNat, by omega⟩
              rw [hi] at hwb
              simp only [hi] at hwa
              have HW := Lib.hid hwa
              clear hi hwa
              have hik : i < k := by omega
              have hk1 : ((k : Int) == 0) = false := by simp; omega
              go_wp2_with fail
              refine (HW.out _ hwh (by omega)).mono ?_
              rintro e w2 ⟨rfl, rfl⟩
              go_upto_region 28 with fail
              have hs1 := sig_cells it k i hik
              have hvl : vs.length = k := by simpa using ho13.1
              have ht1 := hc13 i (vs.getD i undef) (by simp [List.getD, List.getElem?_eq_getElem (show i < vs.length by omega)])
              have a0 := hux.cell (hc12 _ _ hs1.1) (by simp)
              have a1 := hux.cell (hc12 _ _ hs1.2) (by simp)
              have a4 := hux.cell ht1 (by simp)
              clear hs1 ht1
              have hy1 := (hvs i hik).1.upd hux (by intro b _; simp)
              have hbkY := hbk'.upd hux (by simp) (by simp)
              have hpb := within_bd p 9 (by omega)
              have hpa := within_any p 9
              generalize within p 9 = P9 at *
              have HP := Lib.hid hpa
              clear hpa
              have hM := onceM_eq it i k hik
              have hMb := onceM_bd it i
              have hmem := onceL_mem it k i hik
              have hlen := onceL_len it k
              go_cut [21] (fun s21 wx => ∃ n : Nat, s21 = .pointer (some ⟨n, 0, none⟩) ∧ wx.cell? ⟨n, 0, none⟩ = some (.int .i64 (IntKind.i64.wrap (IntKind.i64.wrap ((it i).p + 1) + P9))) ∧ wx.cell? ⟨n, 1, none⟩ = some (.int .i64 (onceM it i)) ∧ Upd [] wr wx)
              case first =>
                have HMb := Lib.hid hMb
                clear hM hMb hk1
                go_region_held3 (fun w' => w'.cell? ⟨g12, i * 2, none⟩ = some (.int .i64 (it i).p) ∧ w'.cell? ⟨g12, i * 2 + 1, none⟩ = some (.int .i64 (onceM it i))) (go_keep) (first | (go_at_call 14; refine (HP.out _ hp (by omega)).mono ?_; rintro e w2 ⟨rfl, rfl⟩))
                all_goals
                  go_wp2_with fail
                  go_meet
                  case rel => exact ⟨_, rfl, by simp, by simp, ((Upd.refl _ _).alloc _).drew⟩
              case rest =>
                obtain ⟨n, rfl, c0, c1, hu8⟩ := hcut
                have hmb9 := within_bd mk 9 (by omega)
                have hma := within_any mk 9
                generalize within mk 9 = R9 at *
                have HK9 := Lib.hid hma
                clear hma HP
                have hne : ¬ IntKind.i64.wrap (IntKind.i64.wrap ((it i).p + 1) + P9) = (it i).p := wrap_ne _ _ (by rw [HIT.out]; exact hbs.bd i) hpb
                have a0 := hu8.cell a0 (by simp)
                have a1 := hu8.cell a1 (by simp)
                have a4 := hu8.cell a4 (by simp)
                have hy2 := hy1.upd hu8 (by intro b _; simp)
                have hbkZ := hbkY.upd hu8 (by simp) (by simp)
                have r1 : rightB (onceL it k) (IntKind.i64.wrap (IntKind.i64.wrap ((it i).p + 1) + P9)) (onceM it i) (it i).s = false := by
                  unfold rightB
                  rw [decide_eq_false_iff_not]
                  rintro ⟨_, h5⟩
                  have h6 := markOf_inj hmem (hM.trans h5.symm)
                  exact hne (congrArg Signed.p h6).symm
                have r2 : rightB (onceL it k) (it i).p ((onceL it k).length + 1 + R9) (it i).s = false := by
                  unfold rightB
                  rw [decide_eq_false_iff_not, show (⟨(it i).p, (it i).s⟩ : Signed) = it i from rfl]
                  rintro ⟨_, h5⟩
                  have := markOf_pos hmem
                  omega
                have r3 : rightB (onceL it k) (it i).p 0 (it i).s = false := by
                  unfold rightB
                  rw [decide_eq_false_iff_not, show (⟨(it i).p, (it i).s⟩ : Signed) = it i from rfl]
                  rintro ⟨h4, h5⟩
                  omega
                generalize IntKind.i64.wrap (IntKind.i64.wrap ((it i).p + 1) + P9) = P' at *
                have hR := fun (x : World) (hx : Upd [] wc x) (q m : Int) => right_any x pb mb _ q m (vs.getD i undef) (it i).s (hbkZ.upd hx (by simp) (by simp)) (hy2.upd hx (by intro b _; simp))
                have HR1 := Lib.hid (fun (x : World) (hx : Upd [] wc x) => r1 ▸ hR x hx P' (onceM it i))
                have HR2 := Lib.hid (fun (x : World) (hx : Upd [] wc x) => r2 ▸ hR x hx (it i).p ((onceL it k).length + 1 + R9))
                have HR3 := Lib.hid (fun (x : World) (hx : Upd [] wc x) => r3 ▸ hR x hx (it i).p 0)
                clear hR r1 r2 r3
                have HL := Lib.hid (fun (x : World) (hx : Upd [] wc x) => len_any x pb mb _ (hbkZ.upd hx (by simp) (by simp)))
                have e1 : IntKind.i64.wrap (((onceL it k).length : Int) + 1) = ((onceL it k).length : Int) + 1 := IntWalk.i64_in _ (by omega)
                have e2 : IntKind.i64.wrap (((onceL it k).length : Int) + 1 + R9) = ((onceL it k).length : Int) + 1 + R9 := IntWalk.i64_in _ (by omega)
                have HWK := Lib.hid (fun (x : World) (_ : Upd [] wc x) => wakes_any x)
                have k0 : ∀ x : Of (fun x => Upd [] wc x), x.w.cell? ⟨g12, i * 2, none⟩ = some (.int .i64 (it i).p) := fun x => x.h.cell a0 (by simp)
                have k1 : ∀ x : Of (fun x => Upd [] wc x), x.w.cell? ⟨g12, i * 2 + 1, none⟩ = some (.int .i64 (onceM it i)) := fun x => x.h.cell a1 (by simp)
                have k4 : ∀ x : Of (fun x => Upd [] wc x), x.w.cell? ⟨g13, i, none⟩ = some (vs.getD i undef) := fun x => x.h.cell a4 (by simp)
                have k5 : ∀ x : Of (fun x => Upd [] wc x), x.w.cell? ⟨n, 0, none⟩ = some (.int .i64 P') := fun x => x.h.cell c0 (by simp)
                have k6 : ∀ x : Of (fun x => Upd [] wc x), x.w.cell? ⟨n, 1, none⟩ = some (.int .i64 (onceM it i)) := fun x => x.h.cell c1 (by simp)
                clear a0 a1 a4 c0 c1 hy1 hy2 hne hM hMb hmem hk1
                generalize vs.getD i undef = V at *
                generalize onceM it i = M at *
                generalize (it i).p = P at *
                generalize (it i).s = S at *
                generalize (onceL it k).length = L at *
                go_wp2_with fail
                refine wp_region_of (fun x => Upd [] wc x) (by kernel_rfl) (by kernel_rfl) (Upd.refl _ _).drew (fun hne => ?_)
                repeat (go_big_quiet_step ((first | (rename_i x; go_at_call_of 11 P'; exact Calls.of (HR1.out x.w x.h) (fun e w' h => ⟨h.1, x.h.trans h.2⟩)) | (rename_i x; go_at_call_of 11 R9; exact Calls.of (HR2.out x.w x.h) (fun e w' h => ⟨h.1, x.h.trans h.2⟩)) | (rename_i x; go_at_call_of 11 (Value.int .i64 0); exact Calls.of (HR3.out x.w x.h) (fun e w' h => ⟨h.1, x.h.trans h.2⟩)) | (rename_i x; go_at_call 12; exact Calls.of (HL.out x.w x.h) (fun e w' h => ⟨h.1, h.2 ▸ x.h⟩)) | (rename_i x; go_at_call 14; exact Calls.of (HK9.out x.w hmk (by omega)) (fun e w' h => ⟨h.1, h.2 ▸ x.h⟩)) | (rename_i x; go_at_call 13; exact Calls.of (HWK.out x.w x.h) (fun e w' h => ⟨h.1, x.h.trans h.2⟩)))))
                refine wpQuiet_nil ?_
                intro x
                obtain ⟨W9, hu9⟩ := x
                go_wp2_with fail
                go_ret
                refine ⟨rfl, ?_⟩
                have hb1 : Upd [mb] w1 W9 := hu'.trans (hux.nil.trans (hu8.nil.trans hu9.nil))
                exact (hu.own hb1 (by simp; omega)).toBelow (by simp)
end Go.Proofs.Ytjcoeokmoibppaa
