/- WHAT IS PROVED: contracts and plain laws of Whole10M, Store10. Conditions: stated with each. -/
import Derived.Test.YtenihpghfdcpkaaGreatPV02
import Derived.Test.YtenihpghfdcpkaaGreatPV05
import Derived.Test.YtenihpghfdcpkaaGreatPV06
import Derived.Test.YtenihpghfdcpkaaGreatPV35
import Derived.Test.YtenihpghfdcpkaaGreatPV36
set_option maxHeartbeats 4000000
set_option maxRecDepth 100000
namespace Go.Proofs.YtenihpghfdcpkaaGreat
open Go.RowKit
def Zc3 (L : List Signed) (s : Zb) : Prop := s.sb = s.r ∧ (⟨s.r, ZE s⟩ : Signed) ∈ L ∧ s.sm = Zr L ⟨s.r, ZE s⟩
def Zds (L : List Signed) (c : Zj) : Prop := c.sb = 1000 + c.cl ∧ (⟨c.sb, Zt c⟩ : Signed) ∈ L ∧ c.sm = Zr L ⟨c.sb, Zt c⟩
theorem Z6T (L : List Signed) (q : Int) (x : Zj) (t : Int) : Zc3 (Zy L (yS q x t)) (mkS L q x t) := ⟨rfl, Z2d L (yS q x t), rfl⟩
theorem Z6V (L : List Signed) (cl seq : Int) (x : Hash) (p : List UInt8) : Zds (Zy L (yC cl seq x p)) (mkC L cl seq x p) := ⟨rfl, Z2d L (yC cl seq x p), rfl⟩
theorem Z4D {L : List Signed} {s : Zb} (h : Zc3 L s) (y : Signed) : Zc3 (Zy L y) s := ⟨h.1, ZcI h.2.1, by rw [Z8M h.2.1]; exact h.2.2⟩
theorem Z7r {L : List Signed} {p m : Int} {s : List UInt8} (h : (⟨p, s⟩ : Signed) ∈ L) (hm : m = Zr L ⟨p, s⟩) : Z0B L p m s = true := by
 unfold Z0B
 rw [decide_eq_true_eq]
 exact ⟨(Z1M h).1, hm.symm⟩
theorem Za4 {f : Int} {L : List Signed} {s : Zb} (h : Zc3 L s) (h0 : 0 ≤ s.r ∧ s.r < 3 * f + 1) (ht : 1 ≤ s.t ∧ s.t < 18446744073709551615) : Z1w f L s = true := by
 unfold Z1w inB
 rw [h.1, Z7r h.2.1 h.2.2, decide_eq_true h0.1, decide_eq_true h0.2, decide_eq_true ht.1, decide_eq_true ht.2, decide_eq_true rfl]
 rfl
structure WInv (y : Zj) (N k : Nat) (L : List Signed) (D : List Zb) (i : Nat) : Prop where
 all : ∀ s ∈ D, Zc3 L s ∧ (1 ≤ s.t ∧ s.t ≤ 1000) ∧ (0 ≤ s.r ∧ s.r < N) ∧ s.cl ≤ 1000000 ∧ s.seq ≤ 1000000
 got : ∀ r : Nat, r < i → r ≠ k → ∃ s ∈ D, s.r = r ∧ Z2y s y = true
 no : ∀ s ∈ D, Z2y s y = true → s.r ≠ k
theorem WInv.start (y : Zj) (N k : Nat) (L : List Signed) : WInv y N k L [] 0 := ⟨by simp, fun r h => by omega, by simp⟩
theorem Zbt (L : List Signed) (q : Int) (y : Zj) (t : Int) : Z2y (mkS L q y t) y = true := by simp [Z2y, mkS]
theorem WInv.one {y : Zj} {N k i : Nat} {L : List Signed} {D : List Zb} (h : WInv y N k L D i) (hi : i < N) (hk : i ≠ k) {t : Int} (ht : 1 ≤ t ∧ t ≤ 1000) (hy : y.cl ≤ 1000000 ∧ y.seq ≤ 1000000) : WInv y N k (Zy L (yS i y t)) (D ++ [mkS L i y t]) (i + 1) := by
 refine ⟨fun s hs => ?_, fun r hr hrk => ?_, fun s hs hn => ?_⟩
 ·rcases List.mem_append.1 hs with hs | hs
  ·obtain ⟨h1, h2⟩ := h.all s hs
   exact ⟨Z4D h1 _, h2⟩
  ·obtain rfl := List.mem_singleton.1 hs
   exact ⟨Z6T L i y t, ht, ⟨by show (0 : Int) ≤ i; omega, by show (i : Int) < N; omega⟩, hy.1, hy.2⟩
 ·by_cases e : r = i
  ·subst e; exact ⟨_, List.mem_append_right _ (List.mem_singleton.2 rfl), rfl, Zbt L r y t⟩
  ·obtain ⟨s, h1, h2⟩ := h.got r (by omega) hrk
   exact ⟨s, List.mem_append_left _ h1, h2⟩
 ·rcases List.mem_append.1 hs with hs | hs
  ·exact h.no s hs hn
  ·obtain rfl := List.mem_singleton.1 hs
   show (i : Int) ≠ k; omega
theorem WInv.two {y z : Zj} {N k : Nat} {L : List Signed} {D : List Zb} (h : WInv y N k L D k) (hk : k < N) {j : Int} (hj : 0 ≤ j ∧ j < N) (hjk : j ≠ k) {t : Int} (ht : 1 ≤ t ∧ t + 1 ≤ 1000) (hy : y.cl ≤ 1000000 ∧ y.seq ≤ 1000000) (hz : z.cl ≤ 1000000 ∧ z.seq ≤ 1000000) (hyz : z.seq ≠ y.seq) :
  WInv y N k (Zy (Zy L (yS k z t)) (yS j y (t + 1))) (D ++ [mkS L k z t, mkS (Zy L (yS k z t)) j y (t + 1)]) (k + 1) := by
 refine ⟨fun s hs => ?_, fun r hr hrk => ?_, fun s hs hn => ?_⟩
 ·rcases List.mem_append.1 hs with hs | hs
  ·obtain ⟨h1, h2⟩ := h.all s hs
   exact ⟨Z4D (Z4D h1 _) _, h2⟩
  ·rcases List.mem_cons.1 hs with rfl | hs
   ·exact ⟨Z4D (Z6T L k z t) _, ⟨ht.1, by show t ≤ 1000; omega⟩, ⟨by show (0 : Int) ≤ k; omega, by show (k : Int) < N; omega⟩, hz.1, hz.2⟩
   ·obtain rfl := List.mem_singleton.1 hs
    exact ⟨Z6T _ j y (t + 1), ⟨by show 1 ≤ t + 1; omega, ht.2⟩, hj, hy.1, hy.2⟩
 ·obtain ⟨s, h1, h2⟩ := h.got r (by omega) hrk
  exact ⟨s, List.mem_append_left _ h1, h2⟩
 ·rcases List.mem_append.1 hs with hs | hs
  ·exact h.no s hs hn
  ·rcases List.mem_cons.1 hs with rfl | hs
   ·simp only [Z2y, Bool.and_eq_true, decide_eq_true_eq] at hn
    exact absurd hn.1.2 hyz
   ·obtain rfl := List.mem_singleton.1 hs
    exact hjk
section
variable {y : Zj} {N k Q : Nat} {f : Int} {L : List Signed} {D : List Zb}
theorem Zbg {r : Nat} (h : ∃ s ∈ D, s.r = r ∧ Z2y s y = true) : ∃ s, Z4u y D r = some s := by
 obtain ⟨s, hs, h1, h2⟩ := h
 cases hf : Z4u y D r with
 | some u => exact ⟨u, rfl⟩
 | none =>
  exfalso
  unfold Z4u at hf
  rw [List.find?_eq_none] at hf
  exact hf s hs (by simp [isR, h1, h2])
theorem WInv.len (h : WInv y N k L D N) : ∀ n, n ≤ N → (Z6o y D n).length = if k < n then n - 1 else n := fun n => by
 induction n with
 | zero => intro _; simp [Z6o]
 | succ n ih =>
  intro hn
  rw [Z9h, List.length_append, ih (by omega)]
  by_cases e : n = k
  ·subst e
   have : Z4u y D n = none := by
    cases hf : Z4u y D n with
    | none => rfl
    | some u =>
     obtain ⟨h1, h2, h3⟩ := Z3f hf
     exact absurd h1 (h.no u h3 h2)
   rw [this, if_neg (by omega), if_pos (by omega)]; simp
  ·obtain ⟨s, hs⟩ := Zbg (h.got n (by omega) e)
   rw [hs]
   by_cases hk : k < n
   ·rw [if_pos hk, if_pos (by omega)]; simp; omega
   ·rw [if_neg hk, if_neg (by omega)]; simp
theorem WInv.stamp (h : WInv y N k L D N) (hN : (N : Int) = 3 * f + 1) {s : Zb} (hs : s ∈ Z6o y D N) : s ∈ D ∧ Z2y s y = true ∧ s.r ≠ k ∧ Z1w f L s = true := by
 obtain ⟨_, hf⟩ := Z8d.1 hs
 obtain ⟨_, h2, h3⟩ := Z3f hf
 obtain ⟨g, ht, hr, _⟩ := h.all s h3
 exact ⟨h3, h2, h.no s h3 h2, Za4 g ⟨hr.1, by omega⟩ ⟨ht.1, by omega⟩⟩
theorem Z8X {S : List Zb} {i : Nat} (h : i < (S.take Q).length) : (S.take Q).getD i Zl ∈ S := by
 rw [List.getD_eq_getElem?_getD, List.getElem?_eq_getElem h]
 exact List.mem_of_mem_take (List.getElem_mem h)
theorem Zcy {x : Zj} {S : List Zb} (n : Nat) {i : Nat} (h0 : 0 < i) (h : i < ((Z6o x S n).take Q).length) : (((Z6o x S n).take Q).getD (i - 1) Zl).r < (((Z6o x S n).take Q).getD i Zl).r := by
 have hp := (Z9z x S n).sublist (List.take_sublist Q _)
 have := List.pairwise_iff_getElem.1 hp (i - 1) i (by omega) h (by omega)
 have e1 : ((Z6o x S n).take Q).getD i Zl = ((Z6o x S n).take Q)[i] := by rw [List.getD_eq_getElem?_getD, List.getElem?_eq_getElem h]; rfl
 have e2 : ((Z6o x S n).take Q).getD (i - 1) Zl = ((Z6o x S n).take Q)[i - 1]'(by omega) := by rw [List.getD_eq_getElem?_getD, List.getElem?_eq_getElem (show i - 1 < ((Z6o x S n).take Q).length by omega)]; rfl
 rw [e1, e2]
 exact this
theorem WInv.right (h : WInv y N k L D N) (hN : (N : Int) = 3 * f + 1) (hQ : (Q : Int) = 2 * f + 1) (hl : Q ≤ (Z6o y D N).length) {cn : Int} (hc : Z2r cn L y = true) : Z0z f cn L y ((Z6o y D N).take Q) = true := by
 have hlen : ((Z6o y D N).take Q).length = Q := by rw [List.length_take]; omega
 unfold Z0z
 rw [hc, hlen, decide_eq_true hQ, Bool.true_and, Bool.true_and]
 refine Z1r fun i hi => ?_
 have hi' : i < ((Z6o y D N).take Q).length := by omega
 obtain ⟨_, h2, _, h4⟩ := h.stamp hN (Z8X hi')
 unfold Z3E
 rw [h2, h4, Bool.and_true, Bool.and_true]
 by_cases h0 : i = 0
 ·subst h0; rfl
 ·have := Zcy (x := y) (S := D) (Q := Q) N (show 0 < i by omega) hi'
  rw [Bool.or_eq_true]
  right
  rw [Bool.not_eq_true', decide_eq_false_iff_not]
  omega
end
theorem Z22 {L : List Signed} (h : L.Nodup) (y : Signed) : (Zy L y).Nodup := by
 unfold Zy; split
 ·exact h
 ·rename_i hn
  rw [List.nodup_append]; exact ⟨h, by simp, fun x hx z hz => by rw [List.mem_singleton.1 hz]; exact fun e => hn (e ▸ hx)⟩
theorem WInv.ok {y : Zj} {N k Q : Nat} {L : List Signed} {D : List Zb} (h : WInv y N k L D N) (hN : N ≤ 1000) : ZdM ((Z6o y D N).take Q) := fun i hi => by
 obtain ⟨_, hf⟩ := Z8d.1 (Z8X hi)
 obtain ⟨_, _, h3⟩ := Z3f hf
 obtain ⟨_, h4, h5, h6, h7⟩ := h.all _ h3
 exact ⟨by omega, by omega, by omega, by omega, by omega⟩
theorem Z2m {a a' : Option Addr} {n c n' c' : Nat} (h : Value.slice a n c = .slice a' n' c') : a = a' := by simp only [Value.slice.injEq] at h; exact h.1
theorem Z3I {α : Type} {enc : α → List Value} {sz : Nat} (hs : ∀ x, (enc x).length = sz) (h0 : 0 < sz) {W w : World} {G : List Ck} (H : Sat W G w) (is : List Nat) (j : Nat) {B : List Ck} (hB : (is.filterMap fun i => G[i]?) = B) (hj : G[j]? = some (ZQ W fun _ => False)) (hne : is.all (fun i => !Nat.beq i j) = true) {va : Option Addr} {n vc : Nat} {ls : List α} (hv : ListAt enc sz W (.slice va n vc) ls) : 0 < ls.length → ∀ a, va = some a → ¬ (Z0h B).fp a.block := by
 intro h1 a ha hfp
 obtain ⟨vb, vo, vc', hva, hvs⟩ := hv.cells hs h0 h1
 have h2 := Z2m hva
 rw [h2] at ha
 obtain rfl := (Option.some.inj ha)
 have hl : 0 < (ls.flatMap enc).length := by rw [Z2i enc sz hs]; exact Nat.mul_pos h1 h0
 have hc := hvs 0 _ (List.getElem?_eq_getElem hl)
 rw [Addr.add_lit] at hc
 have hlt := World.block_lt_of_cell? W _ hc
 subst hB
 obtain ⟨A, hA, hAf⟩ := hfp
 obtain ⟨i, hi, he⟩ := List.mem_filterMap.1 hA
 have hij : Nat.beq i j = false := by simpa using List.all_eq_true.1 hne i hi
 exact H.apart i j he hj hij _ hAf ⟨hlt, fun h => h⟩
section
variable {P : Program} {ops : Array Oper} {Q : Exit → Act → World → Prop} {md : Region.Mode} {S : World → Prop} {B : Nat → Bool}
theorem Z7K {i : Nat} {oi : Oper} {v : Value} (C : Nat → Bool) (hi : ops[i]? = some oi) (hsel : ∀ (j : Nat) (o : Oper) cs b, ops[j]? = some o → o.op ≠ .select cs b)
  (hQ : ∀ c a w, Q (.panic c) (a.put oi.dst v) w → Q (.panic c) a w) (hiB : B i = false) (hB : ∀ j oj, (B j = true ∨ C j = true ∧ j ≠ i) → ops[j]? = some oj → ∃ e ∈ oj.after, Region.binds md e = true ∧ C e.on = true) :
  ∀ (fuel : Nat) (listed : Array Bool) (a : Act) (w : World), (∀ j, C j = true → listed.getD j true = false) →
   (∀ j oj, ops[j]? = some oj → j ≠ i → listed.getD j true = false → (∀ e ∈ oj.after, Region.binds md e = true → e.on ≠ i) → oi.apart ops oj = true) →
   i ∈ Region.ready md ops listed → YieldsIf P ops S oi v a → S w →
   Z5k P md ops Q S B fuel (listed.setIfInBounds i true) (a.put oi.dst v) w → Z5k P md ops Q S B (fuel + 1) listed a w := by
 intro fuel
 have key : ∀ (listed : Array Bool) (j : Nat), (∀ j, C j = true → listed.getD j true = false) → j ∈ Region.ready md ops listed → ¬ (B j = true ∨ C j = true ∧ j ≠ i) := fun listed j hC hj hb => by
  obtain ⟨_, oj, hoj, hall⟩ := mem_ready.1 hj
  obtain ⟨e, he, hbd, hon⟩ := hB j oj hb hoj
  have h1 := hall e he hbd
  have h2 := hC _ hon
  rw [Array.getD_eq_getD_getElem?] at h2
  rcases Nat.lt_or_ge e.on listed.size with h' | h'
  ·simp [h'] at h1 h2; rw [h2] at h1; cases h1
  ·simp [Array.getElem?_eq_none h'] at h1
 induction fuel with
 | zero =>
  intro listed a w hC _ hr hy hS H
  refine ⟨fun h => (by rw [h] at hr; cases hr), fun j hj => ?_⟩
  by_cases hji : j = i
  ·subst hji; exact hy.wpOp hi hS (by rw [if_neg (by rw [hiB]; simp)]; exact ⟨hS, H⟩)
  ·have := ready_mono hj hji
   rw [H.1] at this
   cases this
 | succ fuel ih =>
  intro listed a w hC hfree hr hy hS H
  refine ⟨fun h => (by rw [h] at hr; cases hr), fun j hj => ?_⟩
  by_cases hji : j = i
  ·subst hji; exact hy.wpOp hi hS (by rw [if_neg (by rw [hiB]; simp)]; exact ⟨hS, H⟩)
  ·have h1 := H.2 j (ready_mono hj hji)
   obtain ⟨hjun, oj, hoj, hall⟩ := mem_ready.1 hj
   have hnot : ∀ e ∈ oj.after, Region.binds md e = true → e.on ≠ i := fun e he hb heq => by
    have h1 := hall e he hb
    have h0 := (mem_ready.1 hr).1
    rw [heq] at h1
    rcases Nat.lt_or_ge i listed.size with h' | h'
    ·simp [h'] at h0 h1; rw [h0] at h1; cases h1
    ·simp [Array.getElem?_eq_none h'] at h1
   have hjB : ¬ B j = true := fun hjb => key listed j hC hj (.inl hjb)
   have hjC : ¬ C j = true := fun hjc => key listed j hC hj (.inr ⟨hjc, hji⟩)
   have h2 := wpOp_putIf hoj (hfree j oj hoj hji hjun hnot) (fun cs b => hsel i oi cs b hi) (fun cs b => hsel j oj cs b hoj) hQ hy h1
   have hfree' : ∀ k ok, ops[k]? = some ok → k ≠ i → (listed.setIfInBounds j true).getD k true = false →
     (∀ e ∈ ok.after, Region.binds md e = true → e.on ≠ i) → oi.apart ops ok = true := fun k ok hk hki hun hno => by
    refine hfree k ok hk hki ?_ hno
    by_cases hjk : j = k
    ·subst hjk; exact hjun
    ·rw [getD_set_ne true hjk] at hun; exact hun
   have hC' : ∀ k, C k = true → (listed.setIfInBounds j true).getD k true = false := fun k hk => by
    rw [getD_set_ne true (fun e => hjC (by rw [e]; exact hk))]; exact hC k hk
   refine wpOp_mono (fun a' w' h3 => ?_) h2
   have h4 := h3.2
   rw [if_neg hjB] at h4 ⊢
   refine ⟨h4.1, ih (listed.setIfInBounds j true) a' w' hC' hfree' (ready_mono hr (Ne.symm hji)) h3.1 h4.1 ?_⟩
   rw [Array.setIfInBounds_comm _ _ hji]
   exact h4.2
end
def waitC (ops : Array Oper) (B C : List Nat) (i : Nat) : Bool := (B ++ C.filter fun c => !Nat.beq c i).all fun j => match ops[j]? with
 | some oj => oj.after.any fun e => Region.binds .any e && Z3k C e.on
 | none => true
theorem ZaX {ops : Array Oper} {B C : List Nat} {i : Nat} (h : waitC ops B C i = true) : ∀ j oj, (Z3k B j = true ∨ Z3k C j = true ∧ j ≠ i) → ops[j]? = some oj → ∃ e ∈ oj.after, Region.binds .any e = true ∧ Z3k C e.on = true := by
 intro j oj hj ho
 have hm : j ∈ B ++ C.filter fun c => !Nat.beq c i := by
  rcases hj with hj | ⟨hj, hne⟩
  ·exact List.mem_append_left _ ((Z54 B j).1 hj)
  ·refine List.mem_append_right _ (List.mem_filter.2 ⟨(Z54 C j).1 hj, ?_⟩)
   cases hb : Nat.beq j i with
   | false => rfl
   | true => exact absurd (Nat.eq_of_beq_eq_true hb) hne
 have := List.all_eq_true.1 h j hm
 rw [ho] at this
 simp only [Array.any_eq_true', Bool.and_eq_true] at this
 obtain ⟨e, he, h1, h2⟩ := this
 exact ⟨e, he, h1, h2⟩
theorem k_valC {P : Program} {ops : Array Oper} {S : World → Prop} {B : List Nat} {Q : Exit → Act → World → Prop} {n : Nat} {f : Nat → Value} {w : World} {o : Oper} {listed : Array Bool} {fuel : Nat}
  {v : Value} (C : List Nat) (i : Nat) (hi : ops[i]? = some o) (hs : Region.noSelect ops = true) (hf : Region.free .any ops listed i = true) (hr : (Region.ready .any ops listed).contains i = true) (hQ : ∀ c a w, Q (.panic c) (a.put o.dst v) w → Q (.panic c) a w) (HS : S w)
  (hw : Z2D ops o n f true) (hiB : Z3k B i = false) (hB : waitC ops B C i = true) (hC : (C.all fun c => !listed.getD c true) = true) {d : Nat} (hd : o.dst = some d) (he : ∀ w, S w → (execOp (ev n f) o).run P w = .ok (.value v) w) (k : WK P ops Q S (Z3k B) fuel (listed.setIfInBounds i true) n (upd f d v) w) :
  WK P ops Q S (Z3k B) (fuel + 1) listed n f w :=
 ⟨Z7K (Z3k C) hi (Region.noSelect_spec hs) hQ hiB (ZaX hB) fuel listed _ w (fun c hc => by simpa using List.all_eq_true.1 hC c ((Z54 C c).1 hc)) (Region.free_spec hi hf) (by simpa using hr) (.inl ⟨hw.h, by rw [Z2X]; exact he⟩) HS (by rw [hd, Z45]; exact k.h)⟩
theorem k_do2B {P : Program} {ops : Array Oper} {S : World → Prop} {B : List Nat} {Q : Exit → Act → World → Prop} {n : Nat} {f : Nat → Value} {w : World} {listed : Array Bool} {fuel : Nat} {o1 o2 : Oper} (i j : Nat) (S2 : World → Prop) (hi : ops[i]? = some o1) (hj : ops[j]? = some o2) (hr : Region.ready .any ops listed = [i, j]) (hw1 : Z2D ops o1 n f true) (hw2 : Z2D ops o2 n f true) (hb1 : Z3k B i = false) (hb2 : Z3k B j = true)
  (k1 : ∀ K : Act → World → Prop, (∀ g w', S w' → (WK P ops Q S (Z3k B) fuel (listed.setIfInBounds i true) n g w') → K (fr n g) w') → WO P o1 K Q n f w)
  (k2 : ∀ K : Act → World → Prop, (∀ g w', S2 w' → (WH P ops Q S2 fuel (listed.setIfInBounds j true) n g w') → K (fr n g) w') → WO P o2 K Q n f w) : WK P ops Q S (Z3k B) (fuel + 1) listed n f w := by
 refine ⟨⟨fun h0 => absurd (hr ▸ h0) (by simp), fun q hq => ?_⟩⟩
 rw [hr] at hq
 rcases List.mem_cons.1 hq with rfl | hq
 ·refine wpOp_step hi fun K' hK => ?_
  rw [if_pos hw1.h]
  exact (k1 K' fun g w' hS hk => hK _ _ (by rw [if_neg (by rw [hb1]; simp)]; exact ⟨hS, hk.h⟩)).h
 ·obtain rfl := List.mem_singleton.1 hq
  refine wpOp_step hj fun K' hK => ?_
  rw [if_pos hw2.h]
  exact (k2 K' fun g w' hS hk => hK _ _ (by rw [if_pos hb2]; exact ⟨S2, hS, hk.h⟩)).h
section
variable {P : Program} {n : Nat} {f : Nat → Value} {w w0 : World} {dst : Option Tmp} {ty : TypeId} {pos : String} {aft : Array Edge} {gd : Option (Nat × Bool)} {K : Act → World → Prop} {Q : Exit → Act → World → Prop} {G : List Ck}
theorem Z6v {α : Type} {enc : α → List Value} {size : Nat} (hs : ∀ x, (enc x).length = size) : ∀ {A : List α} {i off : Nat} {x0 x1 : α} {vs : List Value}, A[i]? = some x0 → off + vs.length ≤ size → Z1m (enc x0) off vs = enc x1 → Z1m (A.flatMap enc) (i * size + off) vs = (A.set i x1).flatMap enc
 | [], i, _, _, _, _, h, _, _ => by simp at h
 | y :: A, 0, off, x0, x1, vs, h, ho, hsp => by
  simp only [List.getElem?_cons_zero, Option.some.injEq] at h
  subst h
  simp only [List.flatMap_cons, List.set_cons_zero, Nat.zero_mul, Nat.zero_add]
  rw [← hsp]
  unfold Z1m
  have hl := hs y
  rw [List.take_append_of_le_length (by omega), List.drop_append_of_le_length (by omega), List.append_assoc, List.append_assoc, List.append_assoc]
 | y :: A, i + 1, off, x0, x1, vs, h, ho, hsp => by
  simp only [List.getElem?_cons_succ] at h
  have ih := Z6v hs h ho hsp
  simp only [List.flatMap_cons, List.set_cons_succ]
  rw [← ih]
  unfold Z1m
  have hl := hs y
  have e : (i + 1) * size + off = (enc y).length + (i * size + off) := by rw [hl, Nat.succ_mul]; omega
  rw [e, List.take_length_add_append, Nat.add_assoc, List.drop_length_add_append, List.append_assoc, List.append_assoc, List.append_assoc]
theorem Z3m {α : Type} {enc : α → List Value} {size e : Nat} (hs : ∀ x, (enc x).length = size) {T : TypeId} {x y : Operand} {u : Value} {vs : List Value} {g c m o : Nat} {A : List α} (hd : dst = none) (H : Sat w0 G w) (j : Nat) (hj : G[j]? = some (Zo e size (.slice (some ⟨g, 0, none⟩) m c) m (A.flatMap enc)))
  (hx : ev n f x = .pointer (some ⟨g, o, none⟩)) (hy : ev n f y = u) (hu : u.cells = ⟨vs⟩) (hN : P.cellsOf T = vs.length) (h0 : 0 < vs.length) (h1 : vs.all (·.oneCell') = true) (i off : Nat) {x0 : α} (x1 : α) (hi : A[i]? = some x0) (ho : o = i * size + off) (hle : off + vs.length ≤ size) (hsp : Z1m (enc x0) off vs = enc x1)
  (kk : ∀ w', Sat w0 (G.set j (Zo e size (.slice (some ⟨g, 0, none⟩) m c) m ((A.set i x1).flatMap enc))) w' → K (fr n f) w') : WO P ⟨dst, .store T x y, ty, pos, aft, gd⟩ K Q n f w := by
 have hil : i < A.length := (List.getElem?_eq_some_iff.1 hi).1
 have hlt : i * size + size ≤ A.length * size := by have := Nat.mul_le_mul_right size (show i + 1 ≤ A.length from hil); rwa [Nat.succ_mul] at this
 exact Z7y hd H j hj rfl hx hy hu hN h0 (by rw [Z2i enc size hs]; omega) h1 (xs' := (A.set i x1).flatMap enc) (by rw [ho]; exact Z6v hs hi hle hsp) kk
end
end Go.Proofs.YtenihpghfdcpkaaGreat
