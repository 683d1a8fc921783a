/- WHAT IS PROVED: acts among a law's arguments; plain laws on what is reserved and released again. Conditions: stated with each. -/
import Derived.Test.YtjlbabikogdknaaFrame
import Derived.Test.YtjlbabikogdknaaFirst18M
import Derived.Test.YtjlbabikogdknaaIns
namespace Go.Proofs.Ytjlbabikogdknaa
open Go.ChangeShapes Go.WideShapes Go.ChangeAt Go.RowKit Go.Deep
structure ActS where
  d : Int
  c : Int
  s : List UInt8
def act0 : ActS := ⟨0, 0, []⟩
def encA (x : ActS) : List Value := [.int .i64 x.d, .int .i64 x.c, strV x.s]
theorem encA_len (x : ActS) : (encA x).length = 3 := rfl
theorem encA_one (x : ActS) : (encA x).all (·.oneCell') = true := rfl
def cutV (s : List UInt8) : List UInt8 := if 20 < s.length then s.take 20 else s
def itemV (d : Int) (s : List UInt8) : List UInt8 := if Int.tmod d 7 = 6 then cutV s else [UInt8.ofNat (97 + (withinV ((cutV s).length : Int) 5).toNat)]
theorem cutV_len (s : List UInt8) : (cutV s).length ≤ 20 := by
  unfold cutV; split
  · rw [List.length_take]; omega
  · omega
theorem itemV_len (d : Int) (s : List UInt8) : (itemV d s).length ≤ 20 := by
  unfold itemV; split
  · exact cutV_len s
  · simp
theorem byte1 {z : Int} (h : 0 ≤ z ∧ z < 256) : ([.int .u8 z] : List Value) = [UInt8.ofNat z.toNat].map byteV := by
  simp only [List.map_cons, List.map_nil, byteV, ofNat_toNat (show z.toNat < 256 by omega)]
  rw [Int.toNat_of_nonneg h.1]
theorem item_bytes (s : List UInt8) : ([.int .u8 (97 + withinV ((cutV s).length : Int) 5)] : List Value) = [UInt8.ofNat (97 + (withinV ((cutV s).length : Int) 5).toNat)].map byteV := by
  have q := within_lim ((cutV s).length : Int) 5 (by omega)
  rw [show (97 + (withinV ((cutV s).length : Int) 5).toNat) = (97 + withinV ((cutV s).length : Int) 5).toNat by omega]
  exact byte1 (by omega)
section
variable {H : Type} {enc : TypeId × Value → H} {W : World}
theorem field_cells {P : Program} {t : TypeId} {fs : Array Field} {n : Nat} {cs : List Value} {y : DataW H × List MemPlace} (ht : P.underlying t = some (.struct fs)) (h : DataW.trod enc P W 0 (fun _ => true) true n t cs = some y) :
    ∃ m, ∀ (i : Nat) (g : Field), fs[i]? = some g → ∃ z, DataW.trod enc P W 0 (fun _ => true) true m g.type ((cs.drop g.offset).take (P.cellsOf g.type)) = some z := by
  obtain ⟨xs, m, _, _, _, hx, hf⟩ := DataW.trod_struct ht h
  refine ⟨m, fun i g hg => ?_⟩
  have h1 := hf i g hg
  have hi : i < xs.length := by
    rw [hx]
    obtain ⟨h, _⟩ := Array.getElem?_eq_some_iff.1 hg
    exact h
  rw [List.getElem?_eq_getElem hi] at h1
  exact ⟨_, h1⟩
theorem act_cells {n : Nat} {cs : List Value} {y : DataW H × List MemPlace} (hl : cs.length = 3) (h : DataW.trod enc Try.prog W 0 (fun _ => true) true n 40 cs = some y) : ∃ x : ActS, cs = encA x ∧ x.s.length ≤ 9223372036854775807 := by
  obtain ⟨m, hf⟩ := field_cells Try.underlying40 h
  obtain ⟨z0, h0⟩ := hf 0 _ rfl
  obtain ⟨z1, h1⟩ := hf 1 _ rfl
  obtain ⟨z2, h2⟩ := hf 2 _ rfl
  obtain ⟨d, e0, _⟩ := trod_int_cell (k := .i64) (by kernel_rfl) h0
  obtain ⟨c, e1, _⟩ := trod_int_cell (k := .i64) (by kernel_rfl) h1
  obtain ⟨s, e2, _, hs⟩ := DataW.trod_string (by kernel_rfl) h2
  simp only [List.getElem_toArray, List.getElem_cons_zero, List.getElem_cons_succ] at e0 e1 e2
  simp only [show Try.prog.cellsOf 3 = 1 by kernel_rfl, show Try.prog.cellsOf 9 = 1 by kernel_rfl] at e0 e1 e2
  refine ⟨⟨d, c, s.data.toList⟩, ?_, by rw [Array.length_toList]; exact hs⟩
  match cs, hl with
  | [a, b, c'], _ =>
    simp at e0 e1 e2
    simp [encA, e0, e1, e2]
theorem open_acts {v : Value} {d : DataW H} {ps : List MemPlace} (hv : ∃ a len cap, v = .slice a len cap) (h : DataW.Trod enc Try.prog W 0 (fun _ => true) true 37 v d ps) : ∃ xs, (∀ x ∈ xs, x.s.length ≤ 9223372036854775807) ∧ ListAt encA 3 W v xs := by
  obtain ⟨xs, hx⟩ := open_sliceOf (sz := 3) (R := fun w a (x : ActS) => RunAt w a (encA x) ∧ x.s.length ≤ 9223372036854775807) Try.underlying37 (by kernel_rfl) (by omega) hv h (fun cs n y b off hl hcs hy => by
    obtain ⟨x, rfl, hs⟩ := act_cells hl hy
    refine ⟨x, fun j v hj => ?_, hs⟩
    obtain ⟨hj', rfl⟩ := List.getElem?_eq_some_iff.1 hj
    rw [Addr.add_lit]; exact hcs j hj')
  refine ⟨xs, fun n hn => ?_, SliceOf.imp hx fun a x h => h.1⟩
  obtain ⟨i, hi, rfl⟩ := List.mem_iff_getElem.1 hn
  obtain ⟨b, off, cap, _, _, hall⟩ := hx.some (by omega)
  exact (hall i hi).2
end
def Q16 : List UInt8 := [113, 113, 113, 113, 113, 113, 113, 113, 113, 113, 113, 113, 113, 113, 113, 113]
theorem q_may {c : Int} (h : 0 ≤ c ∧ c < 100) : mayB Q16 c = true := by
  unfold mayB; rw [decide_eq_true h.1, decide_eq_true h.2]; decide
section
variable {L : RegL} {c : Int}
theorem q_notin (h : resE L Q16 c = 0) : Q16 ∉ L.map (·.1) := lookM_none (resE_zero h).2.1
theorem back_put (h : resE L Q16 c = 0) : resL L Q16 c = L ++ [(Q16, c)] := by
  unfold resL; rw [if_pos h, putM_notin (q_notin h)]
theorem back_not (h : ¬ resE L Q16 c = 0) : resL L Q16 c = L := by unfold resL; rw [if_neg h]
theorem back_short (hS : Short L) (h : resE L Q16 c = 0) : Short (L ++ [(Q16, c)]) := by rw [← back_put h]; exact hS.res _ _
theorem back_look (h : resE L Q16 c = 0) : lookM (L ++ [(Q16, c)]) Q16 = some c := lookM_last (q_notin h)
theorem back_r1 (h : resE L Q16 c = 0) (hc : 0 ≤ c ∧ c < 5) : relE (L ++ [(Q16, c)]) Q16 (c + 1) = 12 := by
  unfold relE; rw [if_pos (q_may (by omega)), back_look h, if_pos (show (some c).isSome = true from rfl), if_neg (show ¬ (some c).getD 0 = c + 1 by show ¬ c = c + 1; omega)]
theorem back_r1n (h : resE L Q16 c = 0) (hc : 0 ≤ c ∧ c < 5) : relL (L ++ [(Q16, c)]) Q16 (c + 1) = L ++ [(Q16, c)] := by
  unfold relL; rw [back_r1 h hc]; rfl
theorem back_r2 (h : resE L Q16 c = 0) (hc : 0 ≤ c ∧ c < 5) : relE (L ++ [(Q16, c)]) Q16 c = 0 := by
  unfold relE; rw [if_pos (q_may (by omega)), back_look h, if_pos (show (some c).isSome = true from rfl), if_pos (show (some c).getD 0 = c from rfl)]
theorem back_r2n (h : resE L Q16 c = 0) (hc : 0 ≤ c ∧ c < 5) : relL (L ++ [(Q16, c)]) Q16 c = L := by
  unfold relL; rw [if_pos (back_r2 h hc)]; exact delM_last (q_notin h)
theorem cnt_app : cntL (L ++ [(Q16, c)]) c = cntL L c + 1 := by unfold cntL; rw [List.countP_append]; simp
theorem lookM_mem {a : List UInt8} (h : a ∈ L.map (·.1)) : ∃ v, lookM L a = some v ∧ (a, v) ∈ L := by
  cases hq : lookM L a with
  | none => exact absurd h (lookM_none (by rw [hq]; rfl))
  | some v =>
    refine ⟨v, rfl, ?_⟩
    unfold lookM at hq
    obtain ⟨x, hx, rfl⟩ := Option.map_eq_some_iff.1 hq
    have h1 := List.mem_of_find?_eq_some hx
    have h2 := List.find?_some hx
    have h3 : x.1 = a := by simpa using h2
    rw [← h3]; exact h1
theorem sortK_look {x : List UInt8} {j : Nat} (h : (sortK L)[j]? = some x) : ∃ v, lookM L x = some v ∧ (x, v) ∈ L := by
  have h1 := List.mem_of_getElem? h
  unfold sortK at h1
  rw [(List.mergeSort_perm _ _).mem_iff] at h1
  exact lookM_mem h1
theorem rel_other {x : List UInt8} {v : Int} (h : lookM L x = some v) : ¬ relE L x ((lookM L x).getD 0 + 1) = 0 := by
  unfold relE
  rw [h]
  split
  · rw [if_pos (show (some v).isSome = true from rfl), if_neg (show ¬ (some v).getD 0 = (some v).getD 0 + 1 by omega)]; omega
  · omega
theorem rel_otherN {x : List UInt8} {v : Int} (h : lookM L x = some v) : relL L x ((lookM L x).getD 0 + 1) = L := by
  unfold relL; rw [if_neg (rel_other h)]
/-- whoever owns is one of five -/
def Few (L : RegL) : Prop := ∀ x ∈ L, 0 ≤ x.2 ∧ x.2 < 5
theorem mem_putM2 {l : RegL} {a : List UInt8} {v : Int} {x : List UInt8 × Int} (h : x ∈ putM l a v) : x = (a, v) ∨ x ∈ l := by
  unfold putM at h
  split at h
  · obtain ⟨y, hy, rfl⟩ := List.mem_map.1 h
    split
    · exact .inl rfl
    · exact .inr hy
  · rcases List.mem_append.1 h with h | h
    · exact .inr h
    · exact .inl (List.mem_singleton.1 h)
theorem Few.res (h : Few L) (s : List UInt8) {c : Int} (hc : 0 ≤ c ∧ c < 5) : Few (resL L s c) := by
  unfold resL
  split
  · intro x hx
    rcases mem_putM2 hx with rfl | e
    · exact hc
    · exact h x e
  · exact h
end
theorem take_eq_stepS {xs ys : List (List UInt8)} {i : Nat} (h : xs.take i = ys.take i) (h1 : i < xs.length) (h2 : i < ys.length) (e : xs.getD i [] = ys.getD i []) : xs.take (i + 1) = ys.take (i + 1) := by
  rw [List.getD_eq_getElem?_getD, List.getElem?_eq_getElem h1, List.getD_eq_getElem?_getD, List.getElem?_eq_getElem h2] at e
  rw [List.take_add_one, List.take_add_one, h, List.getElem?_eq_getElem h1, List.getElem?_eq_getElem h2]
  simp only [Option.getD_some] at e
  rw [e]
end Go.Proofs.Ytjlbabikogdknaa
