/- WHAT IS PROVED: contracts and plain laws of Whole10M, Store10, Cert10. Conditions: stated with each. -/
import Derived.Test.YtoaifondpohniaaGreatPS05
import Derived.Test.YtoaifondpohniaaGreatPS16
import Derived.Test.YtoaifondpohniaaGreatPS19
import Derived.Test.YtoaifondpohniaaGreatPS22
import Derived.Test.YtoaifondpohniaaGreatPS31
import Derived.Test.YtoaifondpohniaaGreatPS32
set_option maxHeartbeats 4000000
set_option maxRecDepth 100000
namespace Go.Proofs.YtoaifondpohniaaGreat
open Go.RowKit
def Z88 (L : List Signed) (s : Zd) : Prop := s.sb = s.r ∧ (⟨s.r, Zw s⟩ : Signed) ∈ L ∧ s.sm = Zt L ⟨s.r, Zw s⟩
theorem Z4S (L : List Signed) (q : Int) (x : Zn) (t : Int) : Z88 (Zg L (yS q x t)) (mkS L q x t) := ⟨rfl, Z1L L (yS q x t), rfl⟩
theorem Z31 {L : List Signed} {s : Zd} (h : Z88 L s) (y : Signed) : Z88 (Zg L y) s := ⟨h.1, Z7B h.2.1, by rw [Z5b h.2.1]; exact h.2.2⟩
structure WInv (y : Zn) (N k : Nat) (L : List Signed) (D : List Zd) (i : Nat) : Prop where
 all : ∀ s ∈ D, Z88 L s ∧ (1 ≤ s.t ∧ s.t ≤ 1000) ∧ (0 ≤ s.r ∧ s.r < N) ∧ s.cl ≤ 1000000 ∧ s.seq ≤ 1000000
 got : ∀ r : Nat, r < i → r ≠ k → ∃ s ∈ D, s.r = r ∧ Z2p s y = true
 no : ∀ s ∈ D, Z2p s y = true → s.r ≠ k
theorem WInv.start (y : Zn) (N k : Nat) (L : List Signed) : WInv y N k L [] 0 := ⟨by simp, fun r h => by omega, by simp⟩
theorem WInv.two {y z : Zn} {N k : Nat} {L : List Signed} {D : List Zd} (h : WInv y N k L D k) (hk : k < N) {j : Int} (hj : 0 ≤ j ∧ j < N) (hjk : j ≠ k) {t : Int} (ht : 1 ≤ t ∧ t + 1 ≤ 1000) (hy : y.cl ≤ 1000000 ∧ y.seq ≤ 1000000) (hz : z.cl ≤ 1000000 ∧ z.seq ≤ 1000000) (hyz : z.seq ≠ y.seq) :
  WInv y N k (Zg (Zg L (yS k z t)) (yS j y (t + 1))) (D ++ [mkS L k z t, mkS (Zg L (yS k z t)) j y (t + 1)]) (k + 1) := by
 refine ⟨fun s hs => ?_, fun r hr hrk => ?_, fun s hs hn => ?_⟩
 ·rcases List.mem_append.1 hs with hs | hs
  ·obtain ⟨h1, h2⟩ := h.all s hs
   exact ⟨Z31 (Z31 h1 _) _, h2⟩
  ·rcases List.mem_cons.1 hs with rfl | hs
   ·exact ⟨Z31 (Z4S L k z t) _, ⟨ht.1, by show t ≤ 1000; omega⟩, ⟨by show (0 : Int) ≤ k; omega, by show (k : Int) < N; omega⟩, hz.1, hz.2⟩
   ·obtain rfl := List.mem_singleton.1 hs
    exact ⟨Z4S _ j y (t + 1), ⟨by show 1 ≤ t + 1; omega, ht.2⟩, hj, hy.1, hy.2⟩
 ·obtain ⟨s, h1, h2⟩ := h.got r (by omega) hrk
  exact ⟨s, List.mem_append_left _ h1, h2⟩
 ·rcases List.mem_append.1 hs with hs | hs
  ·exact h.no s hs hn
  ·rcases List.mem_cons.1 hs with rfl | hs
   ·simp only [Z2p, Bool.and_eq_true, decide_eq_true_eq] at hn
    exact absurd hn.1.2 hyz
   ·obtain rfl := List.mem_singleton.1 hs
    exact hjk
section
variable {y : Zn} {N k Q : Nat} {f : Int} {L : List Signed} {D : List Zd}
theorem Z6s {r : Nat} (h : ∃ s ∈ D, s.r = r ∧ Z2p s y = true) : ∃ s, Z2I y D r = some s := by
 obtain ⟨s, hs, h1, h2⟩ := h
 cases hf : Z2I y D r with
 | some u => exact ⟨u, rfl⟩
 | none =>
  exfalso
  unfold Z2I at hf
  rw [List.find?_eq_none] at hf
  exact hf s hs (by simp [isR, h1, h2])
theorem WInv.len (h : WInv y N k L D N) : ∀ n, n ≤ N → (Z8e y D n).length = if k < n then n - 1 else n := fun n => by
 induction n with
 | zero => intro _; simp [Z8e]
 | succ n ih =>
  intro hn
  rw [Z6Q, List.length_append, ih (by omega)]
  by_cases e : n = k
  ·subst e
   have : Z2I y D n = none := by
    cases hf : Z2I y D n with
    | none => rfl
    | some u =>
     obtain ⟨h1, h2, h3⟩ := Z2z hf
     exact absurd h1 (h.no u h3 h2)
   rw [this, if_neg (by omega), if_pos (by omega)]; simp
  ·obtain ⟨s, hs⟩ := Z6s (h.got n (by omega) e)
   rw [hs]
   by_cases hk : k < n
   ·rw [if_pos hk, if_pos (by omega)]; simp; omega
   ·rw [if_neg hk, if_neg (by omega)]; simp
theorem Z74 {S : List Zd} {i : Nat} (h : i < (S.take Q).length) : (S.take Q).getD i Z8 ∈ S := by
 rw [List.getD_eq_getElem?_getD, List.getElem?_eq_getElem h]
 exact List.mem_of_mem_take (List.getElem_mem h)
end
theorem Z0v {L : List Signed} (h : L.Nodup) (y : Signed) : (Zg L y).Nodup := by
 unfold Zg; split
 ·exact h
 ·rename_i hn
  rw [List.nodup_append]; exact ⟨h, by simp, fun x hx z hz => by rw [List.mem_singleton.1 hz]; exact fun e => hn (e ▸ hx)⟩
theorem WInv.ok {y : Zn} {N k Q : Nat} {L : List Signed} {D : List Zd} (h : WInv y N k L D N) (hN : N ≤ 1000) : Z8G ((Z8e y D N).take Q) := fun i hi => by
 obtain ⟨_, hf⟩ := Z84.1 (Z74 hi)
 obtain ⟨_, _, h3⟩ := Z2z hf
 obtain ⟨_, h4, h5, h6, h7⟩ := h.all _ h3
 exact ⟨by omega, by omega, by omega, by omega, by omega⟩
theorem Z5O {a a' : Option Addr} {n c n' c' : Nat} (h : Value.slice a n c = .slice a' n' c') : a = a' := by simp only [Value.slice.injEq] at h; exact h.1
theorem Z3w {α : Type} {enc : α → List Value} {sz : Nat} (hs : ∀ x, (enc x).length = sz) (h0 : 0 < sz) {W w : World} {G : List Ck} (H : Sat W G w) (is : List Nat) (j : Nat) {B : List Ck} (hB : (is.filterMap fun i => G[i]?) = B) (hj : G[j]? = some (Z6 W fun _ => False)) (hne : is.all (fun i => !Nat.beq i j) = true) {va : Option Addr} {n vc : Nat} {ls : List α} (hv : ListAt enc sz W (.slice va n vc) ls) : 0 < ls.length → ∀ a, va = some a → ¬ (ZH B).fp a.block := by
 intro h1 a ha hfp
 obtain ⟨vb, vo, vc', hva, hvs⟩ := hv.cells hs h0 h1
 have h2 := Z5O hva
 rw [h2] at ha
 obtain rfl := (Option.some.inj ha)
 have hl : 0 < (ls.flatMap enc).length := by rw [Z1i enc sz hs]; exact Nat.mul_pos h1 h0
 have hc := hvs 0 _ (List.getElem?_eq_getElem hl)
 rw [Addr.add_lit] at hc
 have hlt := World.block_lt_of_cell? W _ hc
 subst hB
 obtain ⟨A, hA, hAf⟩ := hfp
 obtain ⟨i, hi, he⟩ := List.mem_filterMap.1 hA
 have hij : Nat.beq i j = false := by simpa using List.all_eq_true.1 hne i hi
 exact H.apart i j he hj hij _ hAf ⟨hlt, fun h => h⟩
section
variable {P : Program} {ops : Array Oper} {Q : Exit → Act → World → Prop} {md : Region.Mode} {S : World → Prop} {B : Nat → Bool}
end
section
variable {P : Program} {n : Nat} {f : Nat → Value} {w w0 : World} {dst : Option Tmp} {ty : TypeId} {pos : String} {aft : Array Edge} {gd : Option (Nat × Bool)} {K : Act → World → Prop} {Q : Exit → Act → World → Prop} {G : List Ck}
end
theorem Z5q {va : Option Addr} {n c n' c' : Nat} {ad : Addr} (h : Value.slice va n c = .slice (some ad) n' c') : va = some ad := by
 simp only [Value.slice.injEq] at h; exact h.1
theorem Z7e {xs : List Int} {i : Nat} (h : i < xs.length) : xs.getD i 0 ∈ xs := by
 rw [List.getD_eq_getElem?_getD, List.getElem?_eq_getElem h]; exact List.getElem_mem h
end Go.Proofs.YtoaifondpohniaaGreat
