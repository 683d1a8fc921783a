/- WHAT IS PROVED: plain laws on the registry as a list: who comes first. Conditions: stated with each. -/
import Derived.Test.YtjlbabikogdknaaRegDefs
import Derived.Test.YtjlbabikogdknaaWakes18
namespace Go.Proofs.Ytjlbabikogdknaa
open Go.RowKit
section
variable {κ ν : Type} [DecidableEq κ] {l : List (κ × ν)} {a : κ} {v : ν}
theorem lookM_notin (h : a ∉ l.map (·.1)) : lookM l a = none := by
  unfold lookM
  rw [List.find?_eq_none.2 ?_]; · rfl
  intro x hx e
  exact h (List.mem_map.2 ⟨x, hx, by simpa using e⟩)
theorem putM_notin (h : a ∉ l.map (·.1)) : putM l a v = l ++ [(a, v)] := by
  unfold putM; rw [if_neg h]
theorem lookM_last (h : a ∉ l.map (·.1)) : lookM (l ++ [(a, v)]) a = some v := by
  have h2 := lookM_notin h
  unfold lookM at h2 ⊢
  rw [Option.map_eq_none_iff] at h2
  rw [List.find?_append, h2]
  simp
theorem lookM_head : lookM ((a, v) :: l) a = some v := by unfold lookM; simp
theorem delM_head : delM ((a, v) :: l) a = l := by unfold delM; simp [List.idxOf?_cons]
theorem delM_last (h : a ∉ l.map (·.1)) : delM (l ++ [(a, v)]) a = l := by
  have : ((l ++ [(a, v)]).map (·.1)).idxOf? a = some l.length := by
    rw [List.idxOf?_eq_some_iff]
    refine ⟨by simp, by simp, fun j hj => ?_⟩
    intro e
    refine h ?_
    rw [List.mem_map]
    have hj' : j < l.length := hj
    refine ⟨l[j], List.getElem_mem hj', ?_⟩
    simp only [List.map_append] at e
    rw [List.getElem_append_left (by simpa using hj')] at e
    simpa using e
  unfold delM
  rw [this]
  show (l ++ [(a, v)]).eraseIdx l.length = l
  rw [List.eraseIdx_append_of_length_le (Nat.le_refl _)]
  simp
end
def keyI (i : Nat) : List UInt8 := [UInt8.ofNat (97 + i / 26), UInt8.ofNat (97 + i % 26)]
def clI (who : List Int) (i : Nat) : Int := if i < who.length then withinV (who.getD i 0) 100 else 0
def fL (who : List Int) (k : Nat) : RegL := (List.range (min k 64)).map fun i => (keyI i, clI who i)
theorem ofNat_toNat {n : Nat} (h : n < 256) : (UInt8.ofNat n).toNat = n := by simp; omega
theorem keyI_bytes {i : Nat} (h : i < 70) : ([.int .u8 (97 + (i : Int) / 26), .int .u8 (97 + (i : Int) % 26)] : List Value) = (keyI i).map byteV := by
  simp only [keyI, List.map_cons, List.map_nil, byteV, ofNat_toNat (show 97 + i / 26 < 256 by omega), ofNat_toNat (show 97 + i % 26 < 256 by omega)]
  rfl
theorem keyI_inj {i j : Nat} (hi : i < 70) (hj : j < 70) (h : keyI i = keyI j) : i = j := by
  simp only [keyI, List.cons.injEq, and_true] at h
  have h1 := congrArg UInt8.toNat h.1
  have h2 := congrArg UInt8.toNat h.2
  rw [ofNat_toNat (by omega), ofNat_toNat (by omega)] at h1 h2
  omega
theorem clI_lim (who : List Int) (i : Nat) : 0 ≤ clI who i ∧ clI who i < 100 := by
  unfold clI; split
  · exact within_lim _ 100 (by omega)
  · omega
theorem keyI_may {i : Nat} (h : i < 70) {c : Int} (hc : 0 ≤ c ∧ c < 100) : mayB (keyI i) c = true := by
  unfold mayB nameB
  rw [decide_eq_true hc.1, decide_eq_true hc.2]
  simp only [keyI, List.all_cons, List.all_nil, lcB, ofNat_toNat (show 97 + i / 26 < 256 by omega), ofNat_toNat (show 97 + i % 26 < 256 by omega), List.length_cons, List.length_nil]
  simp; omega
theorem fL_len (who : List Int) (k : Nat) : (fL who k).length = min k 64 := by simp [fL]
theorem fL_notin {who : List Int} {i k : Nat} (hi : i < 70) (h : min k 64 ≤ i) : keyI i ∉ (fL who k).map (·.1) := by
  intro hm
  obtain ⟨x, hx, e⟩ := List.mem_map.1 hm
  obtain ⟨j, hj, rfl⟩ := List.mem_map.1 hx
  have hj2 := List.mem_range.1 hj
  have := keyI_inj (by omega) hi e
  omega
theorem fL_short (who : List Int) (k : Nat) : Short (fL who k) := by
  refine ⟨by rw [fL_len]; omega, fun x hx => ?_⟩
  obtain ⟨j, _, rfl⟩ := List.mem_map.1 hx
  simp [keyI]
theorem fL_succ {who : List Int} {i : Nat} (h : i < 64) : fL who (i + 1) = fL who i ++ [(keyI i, clI who i)] := by
  unfold fL
  rw [show min (i + 1) 64 = i + 1 by omega, show min i 64 = i by omega, List.range_succ]; simp
theorem fL_full {who : List Int} {i : Nat} (h : 64 ≤ i) : fL who (i + 1) = fL who i := by
  unfold fL; rw [show min (i + 1) 64 = 64 by omega, show min i 64 = 64 by omega]
theorem fE {who : List Int} {i : Nat} (h : i < 70) : resE (fL who i) (keyI i) (clI who i) = if i < 64 then 0 else 7 := by
  unfold resE
  rw [if_pos (keyI_may h (clI_lim who i)), lookM_notin (fL_notin h (by omega)), fL_len]
  by_cases h1 : i < 64
  · rw [if_neg (by simp), if_neg (by omega), if_pos h1]
  · rw [if_neg (by simp), if_pos (by omega), if_neg h1]
theorem fN {who : List Int} {i : Nat} (h : i < 70) : resL (fL who i) (keyI i) (clI who i) = fL who (i + 1) := by
  unfold resL
  rw [fE h]
  by_cases h1 : i < 64
  · rw [if_pos h1, if_pos rfl, putM_notin (fL_notin h (by omega)), fL_succ h1]
  · rw [if_neg h1, if_neg (by omega), fL_full (by omega)]
theorem fLook {who : List Int} {i : Nat} (h : i < 64) : lookM (fL who (i + 1)) (keyI i) = some (clI who i) := by
  rw [fL_succ h]; exact lookM_last (fL_notin (by omega) (by omega))
theorem fE2 {who : List Int} {i : Nat} (h : i < 64) {c : Int} (hc : 0 ≤ c ∧ c < 100) : resE (fL who (i + 1)) (keyI i) c = 5 := by
  unfold resE; rw [if_pos (keyI_may (by omega) hc), fLook h]; rfl
theorem fN2 {who : List Int} {i : Nat} (h : i < 64) {c : Int} (hc : 0 ≤ c ∧ c < 100) : resL (fL who (i + 1)) (keyI i) c = fL who (i + 1) := by
  unfold resL; rw [fE2 h hc]; rfl
theorem fR {who : List Int} {i : Nat} (h : i < 64) {c : Int} (hc : 0 ≤ c ∧ c < 100) (hne : clI who i ≠ c) : relE (fL who (i + 1)) (keyI i) c = 12 := by
  unfold relE; rw [if_pos (keyI_may (by omega) hc), fLook h, if_pos (show (some (clI who i)).isSome = true from rfl), if_neg (by simpa using hne)]
theorem fRN {who : List Int} {i : Nat} (h : i < 64) {c : Int} (hc : 0 ≤ c ∧ c < 100) (hne : clI who i ≠ c) : relL (fL who (i + 1)) (keyI i) c = fL who (i + 1) := by
  unfold relL; rw [fR h hc hne]; rfl
/-- all counts together -/
def sumC (l : RegL) (k : Nat) : Int := ((List.range k).map fun (c : Nat) => cntL l (c : Int)).foldl (· + ·) 0
theorem sumC_succ (l : RegL) (k : Nat) : sumC l (k + 1) = sumC l k + cntL l (k : Int) := by simp [sumC, List.range_succ, List.foldl_append]
theorem sumC_eq (l : RegL) (h : ∀ x ∈ l, 0 ≤ x.2) : ∀ k : Nat, sumC l k = ((l.countP fun x => decide (x.2 < (k : Int)) : Nat) : Int)
  | 0 => by
    have : l.countP (fun x => decide (x.2 < ((0 : Nat) : Int))) = 0 := List.countP_eq_zero.2 fun x hx => by have := h x hx; simp; omega
    rw [this]; rfl
  | k + 1 => by
    rw [sumC_succ, sumC_eq l h k]
    unfold cntL
    have : ∀ l : RegL, l.countP (fun x => decide (x.2 < ((k + 1 : Nat) : Int))) = l.countP (fun x => decide (x.2 < (k : Int))) + l.countP (fun x => decide (x.2 = (k : Int))) := by
      intro l
      induction l with
      | nil => rfl
      | cons x l ih =>
        simp only [List.countP_cons, ih]
        rcases Int.lt_trichotomy x.2 (k : Int) with q | q | q
        · rw [decide_eq_true (show x.2 < ((k + 1 : Nat) : Int) by omega), decide_eq_true q, decide_eq_false (show ¬ x.2 = (k : Int) by omega)]; simp; omega
        · rw [decide_eq_true (show x.2 < ((k + 1 : Nat) : Int) by omega), decide_eq_false (show ¬ x.2 < (k : Int) by omega), decide_eq_true q]; simp; omega
        · rw [decide_eq_false (show ¬ x.2 < ((k + 1 : Nat) : Int) by omega), decide_eq_false (show ¬ x.2 < (k : Int) by omega), decide_eq_false (show ¬ x.2 = (k : Int) by omega)]; simp
    rw [this l]; omega
theorem fL_cl {who : List Int} {k : Nat} {x : List UInt8 × Int} (h : x ∈ fL who k) : 0 ≤ x.2 ∧ x.2 < 100 := by
  obtain ⟨j, _, rfl⟩ := List.mem_map.1 h
  exact clI_lim who j
theorem sum_all (who : List Int) (k : Nat) : sumC (fL who k) 100 = ((min k 64 : Nat) : Int) := by
  rw [sumC_eq _ (fun x hx => (fL_cl hx).1), List.countP_eq_length.2 (fun x hx => by have := fL_cl hx; simp; omega), fL_len]
theorem sumC_le (l : RegL) (hl : l.length ≤ 64) : ∀ k : Nat, 0 ≤ sumC l k ∧ sumC l k ≤ 64 * k
  | 0 => by simp [sumC]
  | k + 1 => by
    have := sumC_le l hl k
    rw [sumC_succ]
    have h2 : l.countP (fun x => decide (x.2 = (k : Int))) ≤ l.length := List.countP_le_length
    unfold cntL
    omega
theorem fL_cons {who : List Int} {n : Nat} (h : 1 ≤ n) : ∃ r, fL who n = (keyI 0, clI who 0) :: r ∧ r.length + 1 = min n 64 ∧ keyI 0 ∉ r.map (·.1) := by
  obtain ⟨m, hm⟩ : ∃ m, min n 64 = m + 1 := ⟨min n 64 - 1, by omega⟩
  refine ⟨(List.range m).map (fun i => (keyI (i + 1), clI who (i + 1))), ?_, by simp; omega, ?_⟩
  · unfold fL; rw [hm, List.range_succ_eq_map]; simp
  · intro hx
    obtain ⟨x, hx, e⟩ := List.mem_map.1 hx
    obtain ⟨j, hj, rfl⟩ := List.mem_map.1 hx
    have := List.mem_range.1 hj
    have := keyI_inj (by omega) (by omega) e
    omega
theorem key0 : keyI 0 = [97, 97] := by decide
theorem endE {who : List Int} {n : Nat} (h : 1 ≤ n) : (lookM (fL who n) [97, 97]).getD 0 = clI who 0 ∧ relE (fL who n) [97, 97] (clI who 0) = 0 ∧ relE (relL (fL who n) [97, 97] (clI who 0)) [97, 97] (clI who 0) = 6 ∧ relL (relL (fL who n) [97, 97] (clI who 0)) [97, 97] (clI who 0) = relL (fL who n) [97, 97] (clI who 0) ∧ (relL (fL who n) [97, 97] (clI who 0)).length + 1 = min n 64 := by
  obtain ⟨r, h1, h2, h3⟩ := fL_cons (who := who) h
  have hm : mayB (keyI 0) (clI who 0) = true := keyI_may (by omega) (clI_lim who 0)
  rw [← key0]
  have hl : lookM (fL who n) (keyI 0) = some (clI who 0) := by rw [h1]; exact lookM_head
  have e1 : relE (fL who n) (keyI 0) (clI who 0) = 0 := by unfold relE; rw [if_pos hm, hl, if_pos (show (some (clI who 0)).isSome = true from rfl), if_pos (show (some (clI who 0)).getD 0 = clI who 0 from rfl)]
  have e2 : relL (fL who n) (keyI 0) (clI who 0) = r := by unfold relL; rw [if_pos e1, h1]; exact delM_head
  have e3 : relE r (keyI 0) (clI who 0) = 6 := by unfold relE; rw [if_pos hm, lookM_notin h3, if_neg (by simp)]
  refine ⟨by rw [hl]; rfl, e1, by rw [e2]; exact e3, ?_, by rw [e2]; exact h2⟩
  rw [e2]; unfold relL; rw [e3]; rfl
end Go.Proofs.Ytjlbabikogdknaa
