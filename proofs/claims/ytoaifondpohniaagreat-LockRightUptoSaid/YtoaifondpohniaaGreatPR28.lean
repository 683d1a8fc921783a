/- WHAT IS PROVED: contracts and plain laws of Whole10M, Store10, Cert10, LtF, LtEq. Conditions: stated with each. -/
import Derived.Test.YtoaifondpohniaaGreatPR05
import Derived.Test.YtoaifondpohniaaGreatPR14
import Derived.Test.YtoaifondpohniaaGreatPR15
import Derived.Test.YtoaifondpohniaaGreatPR17
import Derived.Test.YtoaifondpohniaaGreatPR21
import Derived.Test.YtoaifondpohniaaGreatPR24
import Derived.Test.YtoaifondpohniaaGreatPR26
import Derived.Test.YtoaifondpohniaaGreatPR27
set_option maxHeartbeats 4000000
set_option maxRecDepth 100000
namespace Go.Proofs.YtoaifondpohniaaGreat
open Go.RowKit
def Z9a (L : List Signed) (s : Z5) : Prop := s.sb = s.r ∧ (⟨s.r, Zz s⟩ : Signed) ∈ L ∧ s.sm = Zu L ⟨s.r, Zz s⟩
def ZaZ (L : List Signed) (c : Zg) : Prop := c.sb = 1000 + c.cl ∧ (⟨c.sb, Zv c⟩ : Signed) ∈ L ∧ c.sm = Zu L ⟨c.sb, Zv c⟩
theorem Z4o (L : List Signed) (q : Int) (x : Zg) (t : Int) : Z9a (Zk L (yS q x t)) (mkS L q x t) := ⟨rfl, Z3y L (yS q x t), rfl⟩
theorem Z7m (L : List Signed) (cl seq : Int) (x : Hash) (p : List UInt8) : ZaZ (Zk L (yC cl seq x p)) (mkC L cl seq x p) := ⟨rfl, Z3y L (yC cl seq x p), rfl⟩
theorem Z2X {L : List Signed} {s : Z5} (h : Z9a L s) (y : Signed) : Z9a (Zk L y) s := ⟨h.1, ZaO h.2.1, by rw [Z7w h.2.1]; exact h.2.2⟩
theorem Z9j {L : List Signed} {p m : Int} {s : List UInt8} (h : (⟨p, s⟩ : Signed) ∈ L) (hm : m = Zu L ⟨p, s⟩) : Z0p L p m s = true := by
 unfold Z0p
 rw [decide_eq_true_eq]
 exact ⟨(Z2n h).1, hm.symm⟩
theorem Z89 {f : Int} {L : List Signed} {s : Z5} (h : Z9a L s) (h0 : 0 ≤ s.r ∧ s.r < 3 * f + 1) (ht : 1 ≤ s.t ∧ s.t < 18446744073709551615) : Z0Y f L s = true := by
 unfold Z0Y inB
 rw [h.1, Z9j h.2.1 h.2.2, decide_eq_true h0.1, decide_eq_true h0.2, decide_eq_true ht.1, decide_eq_true ht.2, decide_eq_true rfl]
 rfl
structure WInv (y : Zg) (N k : Nat) (L : List Signed) (D : List Z5) (i : Nat) : Prop where
 all : ∀ s ∈ D, Z9a L s ∧ (1 ≤ s.t ∧ s.t ≤ 1000) ∧ (0 ≤ s.r ∧ s.r < N) ∧ s.cl ≤ 1000000 ∧ s.seq ≤ 1000000
 got : ∀ r : Nat, r < i → r ≠ k → ∃ s ∈ D, s.r = r ∧ Z1Z s y = true
 no : ∀ s ∈ D, Z1Z s y = true → s.r ≠ k
theorem WInv.start (y : Zg) (N k : Nat) (L : List Signed) : WInv y N k L [] 0 := ⟨by simp, fun r h => by omega, by simp⟩
theorem Z7I (L : List Signed) (q : Int) (y : Zg) (t : Int) : Z1Z (mkS L q y t) y = true := by simp [Z1Z, mkS]
theorem WInv.one {y : Zg} {N k i : Nat} {L : List Signed} {D : List Z5} (h : WInv y N k L D i) (hi : i < N) (hk : i ≠ k) {t : Int} (ht : 1 ≤ t ∧ t ≤ 1000) (hy : y.cl ≤ 1000000 ∧ y.seq ≤ 1000000) : WInv y N k (Zk L (yS i y t)) (D ++ [mkS L i y t]) (i + 1) := by
 refine ⟨fun s hs => ?_, fun r hr hrk => ?_, fun s hs hn => ?_⟩
 ·rcases List.mem_append.1 hs with hs | hs
  ·obtain ⟨h1, h2⟩ := h.all s hs
   exact ⟨Z2X h1 _, h2⟩
  ·obtain rfl := List.mem_singleton.1 hs
   exact ⟨Z4o L i y t, ht, ⟨by show (0 : Int) ≤ i; omega, by show (i : Int) < N; omega⟩, hy.1, hy.2⟩
 ·by_cases e : r = i
  ·subst e; exact ⟨_, List.mem_append_right _ (List.mem_singleton.2 rfl), rfl, Z7I L r y t⟩
  ·obtain ⟨s, h1, h2⟩ := h.got r (by omega) hrk
   exact ⟨s, List.mem_append_left _ h1, h2⟩
 ·rcases List.mem_append.1 hs with hs | hs
  ·exact h.no s hs hn
  ·obtain rfl := List.mem_singleton.1 hs
   show (i : Int) ≠ k; omega
theorem WInv.two {y z : Zg} {N k : Nat} {L : List Signed} {D : List Z5} (h : WInv y N k L D k) (hk : k < N) {j : Int} (hj : 0 ≤ j ∧ j < N) (hjk : j ≠ k) {t : Int} (ht : 1 ≤ t ∧ t + 1 ≤ 1000) (hy : y.cl ≤ 1000000 ∧ y.seq ≤ 1000000) (hz : z.cl ≤ 1000000 ∧ z.seq ≤ 1000000) (hyz : z.seq ≠ y.seq) :
  WInv y N k (Zk (Zk L (yS k z t)) (yS j y (t + 1))) (D ++ [mkS L k z t, mkS (Zk L (yS k z t)) j y (t + 1)]) (k + 1) := by
 refine ⟨fun s hs => ?_, fun r hr hrk => ?_, fun s hs hn => ?_⟩
 ·rcases List.mem_append.1 hs with hs | hs
  ·obtain ⟨h1, h2⟩ := h.all s hs
   exact ⟨Z2X (Z2X h1 _) _, h2⟩
  ·rcases List.mem_cons.1 hs with rfl | hs
   ·exact ⟨Z2X (Z4o L k z t) _, ⟨ht.1, by show t ≤ 1000; omega⟩, ⟨by show (0 : Int) ≤ k; omega, by show (k : Int) < N; omega⟩, hz.1, hz.2⟩
   ·obtain rfl := List.mem_singleton.1 hs
    exact ⟨Z4o _ j y (t + 1), ⟨by show 1 ≤ t + 1; omega, ht.2⟩, hj, hy.1, hy.2⟩
 ·obtain ⟨s, h1, h2⟩ := h.got r (by omega) hrk
  exact ⟨s, List.mem_append_left _ h1, h2⟩
 ·rcases List.mem_append.1 hs with hs | hs
  ·exact h.no s hs hn
  ·rcases List.mem_cons.1 hs with rfl | hs
   ·simp only [Z1Z, Bool.and_eq_true, decide_eq_true_eq] at hn
    exact absurd hn.1.2 hyz
   ·obtain rfl := List.mem_singleton.1 hs
    exact hjk
section
variable {y : Zg} {N k Q : Nat} {f : Int} {L : List Signed} {D : List Z5}
theorem Z9h {r : Nat} (h : ∃ s ∈ D, s.r = r ∧ Z1Z s y = true) : ∃ s, Z4m y D r = some s := by
 obtain ⟨s, hs, h1, h2⟩ := h
 cases hf : Z4m y D r with
 | some u => exact ⟨u, rfl⟩
 | none =>
  exfalso
  unfold Z4m at hf
  rw [List.find?_eq_none] at hf
  exact hf s hs (by simp [isR, h1, h2])
theorem WInv.len (h : WInv y N k L D N) : ∀ n, n ≤ N → (ZbD y D n).length = if k < n then n - 1 else n := fun n => by
 induction n with
 | zero => intro _; simp [ZbD]
 | succ n ih =>
  intro hn
  rw [ZaJ, List.length_append, ih (by omega)]
  by_cases e : n = k
  ·subst e
   have : Z4m y D n = none := by
    cases hf : Z4m y D n with
    | none => rfl
    | some u =>
     obtain ⟨h1, h2, h3⟩ := Z36 hf
     exact absurd h1 (h.no u h3 h2)
   rw [this, if_neg (by omega), if_pos (by omega)]; simp
  ·obtain ⟨s, hs⟩ := Z9h (h.got n (by omega) e)
   rw [hs]
   by_cases hk : k < n
   ·rw [if_pos hk, if_pos (by omega)]; simp; omega
   ·rw [if_neg hk, if_neg (by omega)]; simp
theorem WInv.stamp (h : WInv y N k L D N) (hN : (N : Int) = 3 * f + 1) {s : Z5} (hs : s ∈ ZbD y D N) : s ∈ D ∧ Z1Z s y = true ∧ s.r ≠ k ∧ Z0Y f L s = true := by
 obtain ⟨_, hf⟩ := Z90.1 hs
 obtain ⟨_, h2, h3⟩ := Z36 hf
 obtain ⟨g, ht, hr, _⟩ := h.all s h3
 exact ⟨h3, h2, h.no s h3 h2, Z89 g ⟨hr.1, by omega⟩ ⟨ht.1, by omega⟩⟩
theorem ZaU {S : List Z5} {i : Nat} (h : i < (S.take Q).length) : (S.take Q).getD i Z9 ∈ S := by
 rw [List.getD_eq_getElem?_getD, List.getElem?_eq_getElem h]
 exact List.mem_of_mem_take (List.getElem_mem h)
end
theorem Z1S {L : List Signed} (h : L.Nodup) (y : Signed) : (Zk L y).Nodup := by
 unfold Zk; split
 ·exact h
 ·rename_i hn
  rw [List.nodup_append]; exact ⟨h, by simp, fun x hx z hz => by rw [List.mem_singleton.1 hz]; exact fun e => hn (e ▸ hx)⟩
theorem WInv.ok {y : Zg} {N k Q : Nat} {L : List Signed} {D : List Z5} (h : WInv y N k L D N) (hN : N ≤ 1000) : Zb0 ((ZbD y D N).take Q) := fun i hi => by
 obtain ⟨_, hf⟩ := Z90.1 (ZaU hi)
 obtain ⟨_, _, h3⟩ := Z36 hf
 obtain ⟨_, h4, h5, h6, h7⟩ := h.all _ h3
 exact ⟨by omega, by omega, by omega, by omega, by omega⟩
theorem Z4a {a a' : Option Addr} {n c n' c' : Nat} (h : Value.slice a n c = .slice a' n' c') : a = a' := by simp only [Value.slice.injEq] at h; exact h.1
theorem Z5F {α : Type} {enc : α → List Value} {sz : Nat} (hs : ∀ x, (enc x).length = sz) (h0 : 0 < sz) {W w : World} {G : List Ck} (H : Sat W G w) (is : List Nat) (j : Nat) {B : List Ck} (hB : (is.filterMap fun i => G[i]?) = B) (hj : G[j]? = some (Z6 W fun _ => False)) (hne : is.all (fun i => !Nat.beq i j) = true) {va : Option Addr} {n vc : Nat} {ls : List α} (hv : ListAt enc sz W (.slice va n vc) ls) : 0 < ls.length → ∀ a, va = some a → ¬ (Z0c B).fp a.block := by
 intro h1 a ha hfp
 obtain ⟨vb, vo, vc', hva, hvs⟩ := hv.cells hs h0 h1
 have h2 := Z4a hva
 rw [h2] at ha
 obtain rfl := (Option.some.inj ha)
 have hl : 0 < (ls.flatMap enc).length := by rw [Z1u enc sz hs]; exact Nat.mul_pos h1 h0
 have hc := hvs 0 _ (List.getElem?_eq_getElem hl)
 rw [Addr.add_lit] at hc
 have hlt := World.block_lt_of_cell? W _ hc
 subst hB
 obtain ⟨A, hA, hAf⟩ := hfp
 obtain ⟨i, hi, he⟩ := List.mem_filterMap.1 hA
 have hij : Nat.beq i j = false := by simpa using List.all_eq_true.1 hne i hi
 exact H.apart i j he hj hij _ hAf ⟨hlt, fun h => h⟩
section
variable {P : Program} {ops : Array Oper} {Q : Exit → Act → World → Prop} {md : Region.Mode} {S : World → Prop} {B : Nat → Bool}
theorem Z76 {i : Nat} {oi : Oper} {v : Value} (C : Nat → Bool) (hi : ops[i]? = some oi) (hsel : ∀ (j : Nat) (o : Oper) cs b, ops[j]? = some o → o.op ≠ .select cs b)
  (hQ : ∀ c a w, Q (.panic c) (a.put oi.dst v) w → Q (.panic c) a w) (hiB : B i = false) (hB : ∀ j oj, (B j = true ∨ C j = true ∧ j ≠ i) → ops[j]? = some oj → ∃ e ∈ oj.after, Region.binds md e = true ∧ C e.on = true) :
  ∀ (fuel : Nat) (listed : Array Bool) (a : Act) (w : World), (∀ j, C j = true → listed.getD j true = false) →
   (∀ j oj, ops[j]? = some oj → j ≠ i → listed.getD j true = false → (∀ e ∈ oj.after, Region.binds md e = true → e.on ≠ i) → oi.apart ops oj = true) →
   i ∈ Region.ready md ops listed → YieldsIf P ops S oi v a → S w →
   Z4I P md ops Q S B fuel (listed.setIfInBounds i true) (a.put oi.dst v) w → Z4I P md ops Q S B (fuel + 1) listed a w := by
 intro fuel
 have key : ∀ (listed : Array Bool) (j : Nat), (∀ j, C j = true → listed.getD j true = false) → j ∈ Region.ready md ops listed → ¬ (B j = true ∨ C j = true ∧ j ≠ i) := fun listed j hC hj hb => by
  obtain ⟨_, oj, hoj, hall⟩ := mem_ready.1 hj
  obtain ⟨e, he, hbd, hon⟩ := hB j oj hb hoj
  have h1 := hall e he hbd
  have h2 := hC _ hon
  rw [Array.getD_eq_getD_getElem?] at h2
  rcases Nat.lt_or_ge e.on listed.size with h' | h'
  ·simp [h'] at h1 h2; rw [h2] at h1; cases h1
  ·simp [Array.getElem?_eq_none h'] at h1
 induction fuel with
 | zero =>
  intro listed a w hC _ hr hy hS H
  refine ⟨fun h => (by rw [h] at hr; cases hr), fun j hj => ?_⟩
  by_cases hji : j = i
  ·subst hji; exact hy.wpOp hi hS (by rw [if_neg (by rw [hiB]; simp)]; exact ⟨hS, H⟩)
  ·have := ready_mono hj hji
   rw [H.1] at this
   cases this
 | succ fuel ih =>
  intro listed a w hC hfree hr hy hS H
  refine ⟨fun h => (by rw [h] at hr; cases hr), fun j hj => ?_⟩
  by_cases hji : j = i
  ·subst hji; exact hy.wpOp hi hS (by rw [if_neg (by rw [hiB]; simp)]; exact ⟨hS, H⟩)
  ·have h1 := H.2 j (ready_mono hj hji)
   obtain ⟨hjun, oj, hoj, hall⟩ := mem_ready.1 hj
   have hnot : ∀ e ∈ oj.after, Region.binds md e = true → e.on ≠ i := fun e he hb heq => by
    have h1 := hall e he hb
    have h0 := (mem_ready.1 hr).1
    rw [heq] at h1
    rcases Nat.lt_or_ge i listed.size with h' | h'
    ·simp [h'] at h0 h1; rw [h0] at h1; cases h1
    ·simp [Array.getElem?_eq_none h'] at h1
   have hjB : ¬ B j = true := fun hjb => key listed j hC hj (.inl hjb)
   have hjC : ¬ C j = true := fun hjc => key listed j hC hj (.inr ⟨hjc, hji⟩)
   have h2 := wpOp_putIf hoj (hfree j oj hoj hji hjun hnot) (fun cs b => hsel i oi cs b hi) (fun cs b => hsel j oj cs b hoj) hQ hy h1
   have hfree' : ∀ k ok, ops[k]? = some ok → k ≠ i → (listed.setIfInBounds j true).getD k true = false →
     (∀ e ∈ ok.after, Region.binds md e = true → e.on ≠ i) → oi.apart ops ok = true := fun k ok hk hki hun hno => by
    refine hfree k ok hk hki ?_ hno
    by_cases hjk : j = k
    ·subst hjk; exact hjun
    ·rw [getD_set_ne true hjk] at hun; exact hun
   have hC' : ∀ k, C k = true → (listed.setIfInBounds j true).getD k true = false := fun k hk => by
    rw [getD_set_ne true (fun e => hjC (by rw [e]; exact hk))]; exact hC k hk
   refine wpOp_mono (fun a' w' h3 => ?_) h2
   have h4 := h3.2
   rw [if_neg hjB] at h4 ⊢
   refine ⟨h4.1, ih (listed.setIfInBounds j true) a' w' hC' hfree' (ready_mono hr (Ne.symm hji)) h3.1 h4.1 ?_⟩
   rw [Array.setIfInBounds_comm _ _ hji]
   exact h4.2
end
def waitC (ops : Array Oper) (B C : List Nat) (i : Nat) : Bool := (B ++ C.filter fun c => !Nat.beq c i).all fun j => match ops[j]? with
 | some oj => oj.after.any fun e => Region.binds .any e && Z2A C e.on
 | none => true
theorem Z9C {ops : Array Oper} {B C : List Nat} {i : Nat} (h : waitC ops B C i = true) : ∀ j oj, (Z2A B j = true ∨ Z2A C j = true ∧ j ≠ i) → ops[j]? = some oj → ∃ e ∈ oj.after, Region.binds .any e = true ∧ Z2A C e.on = true := by
 intro j oj hj ho
 have hm : j ∈ B ++ C.filter fun c => !Nat.beq c i := by
  rcases hj with hj | ⟨hj, hne⟩
  ·exact List.mem_append_left _ ((Z4u B j).1 hj)
  ·refine List.mem_append_right _ (List.mem_filter.2 ⟨(Z4u C j).1 hj, ?_⟩)
   cases hb : Nat.beq j i with
   | false => rfl
   | true => exact absurd (Nat.eq_of_beq_eq_true hb) hne
 have := List.all_eq_true.1 h j hm
 rw [ho] at this
 simp only [Array.any_eq_true', Bool.and_eq_true] at this
 obtain ⟨e, he, h1, h2⟩ := this
 exact ⟨e, he, h1, h2⟩
theorem k_valC {P : Program} {ops : Array Oper} {S : World → Prop} {B : List Nat} {Q : Exit → Act → World → Prop} {n : Nat} {f : Nat → Value} {w : World} {o : Oper} {listed : Array Bool} {fuel : Nat}
  {v : Value} (C : List Nat) (i : Nat) (hi : ops[i]? = some o) (hs : Region.noSelect ops = true) (hf : Region.free .any ops listed i = true) (hr : (Region.ready .any ops listed).contains i = true) (hQ : ∀ c a w, Q (.panic c) (a.put o.dst v) w → Q (.panic c) a w) (HS : S w)
  (hw : Z2l ops o n f true) (hiB : Z2A B i = false) (hB : waitC ops B C i = true) (hC : (C.all fun c => !listed.getD c true) = true) {d : Nat} (hd : o.dst = some d) (he : ∀ w, S w → (execOp (ev n f) o).run P w = .ok (.value v) w) (k : WK P ops Q S (Z2A B) fuel (listed.setIfInBounds i true) n (upd f d v) w) :
  WK P ops Q S (Z2A B) (fuel + 1) listed n f w :=
 ⟨Z76 (Z2A C) hi (Region.noSelect_spec hs) hQ hiB (Z9C hB) fuel listed _ w (fun c hc => by simpa using List.all_eq_true.1 hC c ((Z4u C c).1 hc)) (Region.free_spec hi hf) (by simpa using hr) (.inl ⟨hw.h, by rw [Z2g]; exact he⟩) HS (by rw [hd, Z3i]; exact k.h)⟩
theorem k_do2B {P : Program} {ops : Array Oper} {S : World → Prop} {B : List Nat} {Q : Exit → Act → World → Prop} {n : Nat} {f : Nat → Value} {w : World} {listed : Array Bool} {fuel : Nat} {o1 o2 : Oper} (i j : Nat) (S2 : World → Prop) (hi : ops[i]? = some o1) (hj : ops[j]? = some o2) (hr : Region.ready .any ops listed = [i, j]) (hw1 : Z2l ops o1 n f true) (hw2 : Z2l ops o2 n f true) (hb1 : Z2A B i = false) (hb2 : Z2A B j = true)
  (k1 : ∀ K : Act → World → Prop, (∀ g w', S w' → (WK P ops Q S (Z2A B) fuel (listed.setIfInBounds i true) n g w') → K (fr n g) w') → WO P o1 K Q n f w)
  (k2 : ∀ K : Act → World → Prop, (∀ g w', S2 w' → (WH P ops Q S2 fuel (listed.setIfInBounds j true) n g w') → K (fr n g) w') → WO P o2 K Q n f w) : WK P ops Q S (Z2A B) (fuel + 1) listed n f w := by
 refine ⟨⟨fun h0 => absurd (hr ▸ h0) (by simp), fun q hq => ?_⟩⟩
 rw [hr] at hq
 rcases List.mem_cons.1 hq with rfl | hq
 ·refine wpOp_step hi fun K' hK => ?_
  rw [if_pos hw1.h]
  exact (k1 K' fun g w' hS hk => hK _ _ (by rw [if_neg (by rw [hb1]; simp)]; exact ⟨hS, hk.h⟩)).h
 ·obtain rfl := List.mem_singleton.1 hq
  refine wpOp_step hj fun K' hK => ?_
  rw [if_pos hw2.h]
  exact (k2 K' fun g w' hS hk => hK _ _ (by rw [if_pos hb2]; exact ⟨S2, hS, hk.h⟩)).h
section
variable {P : Program} {n : Nat} {f : Nat → Value} {w w0 : World} {dst : Option Tmp} {ty : TypeId} {pos : String} {aft : Array Edge} {gd : Option (Nat × Bool)} {K : Act → World → Prop} {Q : Exit → Act → World → Prop} {G : List Ck}
theorem Z5P {α : Type} {enc : α → List Value} {size : Nat} (hs : ∀ x, (enc x).length = size) : ∀ {A : List α} {i off : Nat} {x0 x1 : α} {vs : List Value}, A[i]? = some x0 → off + vs.length ≤ size → Z1g (enc x0) off vs = enc x1 → Z1g (A.flatMap enc) (i * size + off) vs = (A.set i x1).flatMap enc
 | [], i, _, _, _, _, h, _, _ => by simp at h
 | y :: A, 0, off, x0, x1, vs, h, ho, hsp => by
  simp only [List.getElem?_cons_zero, Option.some.injEq] at h
  subst h
  simp only [List.flatMap_cons, List.set_cons_zero, Nat.zero_mul, Nat.zero_add]
  rw [← hsp]
  unfold Z1g
  have hl := hs y
  rw [List.take_append_of_le_length (by omega), List.drop_append_of_le_length (by omega), List.append_assoc, List.append_assoc, List.append_assoc]
 | y :: A, i + 1, off, x0, x1, vs, h, ho, hsp => by
  simp only [List.getElem?_cons_succ] at h
  have ih := Z5P hs h ho hsp
  simp only [List.flatMap_cons, List.set_cons_succ]
  rw [← ih]
  unfold Z1g
  have hl := hs y
  have e : (i + 1) * size + off = (enc y).length + (i * size + off) := by rw [hl, Nat.succ_mul]; omega
  rw [e, List.take_length_add_append, Nat.add_assoc, List.drop_length_add_append, List.append_assoc, List.append_assoc, List.append_assoc]
theorem Z4h {α : Type} {enc : α → List Value} {size e : Nat} (hs : ∀ x, (enc x).length = size) {T : TypeId} {x y : Operand} {u : Value} {vs : List Value} {g c m o : Nat} {A : List α} (hd : dst = none) (H : Sat w0 G w) (j : Nat) (hj : G[j]? = some (ZH e size (.slice (some ⟨g, 0, none⟩) m c) m (A.flatMap enc)))
  (hx : ev n f x = .pointer (some ⟨g, o, none⟩)) (hy : ev n f y = u) (hu : u.cells = ⟨vs⟩) (hN : P.cellsOf T = vs.length) (h0 : 0 < vs.length) (h1 : vs.all (·.oneCell') = true) (i off : Nat) {x0 : α} (x1 : α) (hi : A[i]? = some x0) (ho : o = i * size + off) (hle : off + vs.length ≤ size) (hsp : Z1g (enc x0) off vs = enc x1)
  (kk : ∀ w', Sat w0 (G.set j (ZH e size (.slice (some ⟨g, 0, none⟩) m c) m ((A.set i x1).flatMap enc))) w' → K (fr n f) w') : WO P ⟨dst, .store T x y, ty, pos, aft, gd⟩ K Q n f w := by
 have hil : i < A.length := (List.getElem?_eq_some_iff.1 hi).1
 have hlt : i * size + size ≤ A.length * size := by have := Nat.mul_le_mul_right size (show i + 1 ≤ A.length from hil); rwa [Nat.succ_mul] at this
 exact Z6g hd H j hj rfl hx hy hu hN h0 (by rw [Z1u enc size hs]; omega) h1 (xs' := (A.set i x1).flatMap enc) (by rw [ho]; exact Z5P hs hi hle hsp) kk
end
theorem Z8u {va : Option Addr} {n c n' c' : Nat} {ad : Addr} (h : Value.slice va n c = .slice (some ad) n' c') : va = some ad := by
 simp only [Value.slice.injEq] at h; exact h.1
theorem Za7 {xs : List Int} {i : Nat} (h : i < xs.length) : xs.getD i 0 ∈ xs := by
 rw [List.getD_eq_getElem?_getD, List.getElem?_eq_getElem h]; exact List.getElem_mem h
section
variable {B B' : List Ck} {M M' : List (NmD × CeR)} {L L' D : List CeR} {x c : CeR} {n : NmD} {ss : List NmD} {k : Nat} {F Cn floor : Int} {Lb : List Signed}
structure TabEq (B : List Ck) (M : List (NmD × CeR)) (L : List CeR) : Prop where
 ok : TabOk B M
 ct : ∀ c ∈ L, CeT B c
 up : L.Pairwise fun x y => Z3J x y = true
 eq : (L.map Z51).Perm (M.map fun q => Z51 q.2)
theorem TabEq.nil : TabEq [] [] [] := ⟨TabOk.nil, fun _ hc => absurd hc List.not_mem_nil, List.Pairwise.nil, List.Perm.refl _⟩
theorem TabEq.len (h : TabEq B M L) : M.length = L.length := by
 have q := h.eq.length_eq
 simpa using q.symm
theorem CeT.sub (h : CeT B c) (hb : ∀ A ∈ B, A ∈ B') : CeT B' c := ⟨h.x, h.S, h.len, hb _ h.bag⟩
theorem TabEq.sub (h : TabEq B M L) (hb : ∀ A ∈ B, A ∈ B') : TabEq B' M L := ⟨⟨fun q hq => (h.ok.T q hq).sub hb, h.ok.K, h.ok.N⟩, fun c hc => (h.ct c hc).sub hb, h.up, h.eq⟩
theorem cp_eq {a b : CeR} (h : Z51 a = Z51 b) : a.x = b.x ∧ a.S = b.S := by
 unfold Z51 at h
 exact Prod.mk.inj h
theorem nm_cp {a b : CeR} (h : Z51 a = Z51 b) : nmX a = nmX b := by unfold nmX; rw [(cp_eq h).1]
theorem Zc4 {a b : CeR} (h : Z3J a b = true) (e : nmX a = nmX b) : False := by
 unfold nmX at e
 obtain ⟨e1, e2⟩ := NmD.mk.inj e
 unfold Z3J at h
 simp only [Bool.or_eq_true, Bool.and_eq_true, decide_eq_true_eq] at h
 omega
theorem Zc7 : ∀ {L : List CeR}, (L.Pairwise fun x y => Z3J x y = true) → ∀ {a b : CeR}, a ∈ L → b ∈ L → nmX a = nmX b → a = b
 | [], _, _, _, ha, _, _ => by cases ha
 | x :: L, h, a, b, ha, hb, e => by
  obtain ⟨h1, h2⟩ := List.pairwise_cons.1 h
  rcases List.mem_cons.1 ha with ea | ha'
  ·rcases List.mem_cons.1 hb with eb | hb'
   ·rw [ea, eb]
   ·exact (Zc4 (h1 b hb') (ea ▸ e)).elim
  ·rcases List.mem_cons.1 hb with eb | hb'
   ·exact (Zc4 (h1 a ha') (eb ▸ e.symm)).elim
   ·exact Zc7 h2 ha' hb' e
theorem Z88 (hc : c ∈ L) (hu : L.Pairwise fun x y => Z3J x y = true) : ZR L (nmX c).cl (nmX c).sq = some c := by
 cases e : ZR L (nmX c).cl (nmX c).sq with
 | none =>
  unfold ZR at e
  rw [List.find?_eq_none] at e
  exact absurd (decide_eq_true (show c.x.cl = (nmX c).cl ∧ c.x.seq = (nmX c).sq from ⟨rfl, rfl⟩)) (by simpa using e c hc)
 | some y =>
  have hm : y ∈ L := List.mem_of_find?_eq_some (show L.find? (fun d => decide (d.x.cl = (nmX c).cl ∧ d.x.seq = (nmX c).sq)) = some y from e)
  have hp := List.find?_some (show L.find? (fun d => decide (d.x.cl = (nmX c).cl ∧ d.x.seq = (nmX c).sq)) = some y from e)
  have hp2 := of_decide_eq_true hp
  rw [Zc7 hu hm hc (by unfold nmX; rw [hp2.1, hp2.2]; rfl)]
theorem Za1 {a b : Int} (h : ZR L a b = some c) : c ∈ L ∧ c.x.cl = a ∧ c.x.seq = b := by
 have h' : L.find? (fun d => decide (d.x.cl = a ∧ d.x.seq = b)) = some c := h
 have q := List.find?_some h'
 exact ⟨List.mem_of_find?_eq_some h', of_decide_eq_true (by simpa using q)⟩
theorem TabEq.look (h : TabEq B M L) (n : NmD) : (ZV M n).map Z51 = (ZR L n.cl n.sq).map Z51 := by
 cases hl : ZV M n with
 | none =>
  cases hf : ZR L n.cl n.sq with
  | none => rfl
  | some c =>
   obtain ⟨hc, e1, e2⟩ := Za1 hf
   obtain ⟨q, hq, e⟩ := List.mem_map.1 (h.eq.subset (List.mem_map_of_mem hc))
   have hk : q.1 = n := by rw [h.ok.K q hq, nm_cp e]; unfold nmX; rw [e1, e2]
   exact absurd (List.mem_map.2 ⟨q, hq, hk⟩) (Z4Q.1 hl)
 | some v =>
  have hm := Z5G hl
  have hk : n = nmX v := h.ok.K _ hm
  obtain ⟨c, hc, e⟩ := List.mem_map.1 (h.eq.symm.subset (List.mem_map.2 ⟨(n, v), hm, rfl⟩))
  have hn : nmX c = n := by rw [hk]; exact nm_cp e
  have hf := Z88 hc h.up
  rw [hn] at hf
  rw [hf]
  exact congrArg some e.symm
theorem TabEq.some_iff (h : TabEq B M L) (n : NmD) : (ZV M n).isSome = (ZR L n.cl n.sq).isSome := by
 have := congrArg Option.isSome (h.look n)
 simpa using this
theorem TabEq.got (h : TabEq B M L) (n : NmD) : Z51 ((ZV M n).getD ce0) = Z51 ((ZR L n.cl n.sq).getD ce0) := by
 have q := h.look n
 cases hl : ZV M n <;> cases hf : ZR L n.cl n.sq <;> rw [hl, hf] at q <;> simp_all
theorem TabEq.take (h : TabEq B M L) : takeM F Cn floor Lb M x = Z4b F Cn floor Lb L x := by
 unfold takeM Z4b
 have h1 := h.some_iff (nmX x)
 have h2 := cp_eq (h.got (nmX x))
 rw [h1, h2.1, h2.2, h.len]
 rfl
theorem Zas {a b d : CeR} (h1 : Z3J a b = true) (h2 : Z3J b d = true) : Z3J a d = true := by
 unfold Z3J at *
 simp only [Bool.or_eq_true, Bool.and_eq_true, decide_eq_true_eq] at *
 omega
theorem Zbq {a b : CeR} (h : Z3J a b = false) (hn : nmX a ≠ nmX b) : Z3J b a = true := by
 have hn' : ¬ (a.x.cl = b.x.cl ∧ a.x.seq = b.x.seq) := fun e => hn (by unfold nmX; rw [e.1, e.2])
 unfold Z3J at *
 simp only [Bool.or_eq_false_iff, Bool.and_eq_false_iff, decide_eq_false_iff_not, Bool.or_eq_true, Bool.and_eq_true, decide_eq_true_eq] at *
 omega
theorem TabEq.put (h : TabEq B M L) (hx : CeT B x) (hn : (ZV M (nmX x)).isSome = false) (hp : Z7U L x k) (sa : Option Addr) (sc : Nat) : TabEq (stC ⟨x.x, sa, sc, x.S⟩ :: B) (Z4d M (nmX x) ⟨x.x, sa, sc, x.S⟩) (L.take k ++ x :: L.drop k) := by
 have hf : ∀ y ∈ L, nmX y ≠ nmX x := fun y hy e => by
  have q := Z88 hy h.up
  rw [e] at q
  have q2 := h.some_iff (nmX x)
  rw [q, hn] at q2; cases q2
 have hsplit : L.take k ++ L.drop k = L := List.take_append_drop k L
 have hup : (L.take k ++ L.drop k).Pairwise fun x y => Z3J x y = true := by rw [hsplit]; exact h.up
 obtain ⟨u1, u2, u3⟩ := List.pairwise_append.1 hup
 have hbef : ∀ y ∈ L.take k, Z3J y x = true := fun y hy => by
  rcases hp.stop with h0 | ⟨z, hz, hzf⟩
  ·subst h0; simp at hy
  ·obtain ⟨hzl, hze⟩ := List.getElem?_eq_some_iff.1 hz
   have hzx : Z3J z x = true := Zbq hzf fun e => hf z (hze ▸ List.getElem_mem hzl) e.symm
   obtain ⟨j, hj, e⟩ := List.mem_iff_getElem.1 hy
   rw [List.length_take] at hj
   rw [List.getElem_take] at e
   rcases Nat.lt_or_ge j (k - 1) with q | q
   ·have q1 := List.pairwise_iff_getElem.1 h.up j (k - 1) (by omega) hzl q
    rw [e, hze] at q1
    exact Zas q1 hzx
   ·have hjk : j = k - 1 := by omega
    subst hjk
    rw [← e, hze]; exact hzx
 have haft : ∀ y ∈ L.drop k, Z3J x y = true := fun y hy => by
  obtain ⟨j, hj, e⟩ := List.mem_iff_getElem.1 hy
  rw [List.length_drop] at hj
  rw [List.getElem_drop] at e
  exact hp.up (k + j) (by omega) y (by rw [List.getElem?_eq_getElem (by omega), e])
 refine ⟨h.ok.put hn hx sa sc, fun c hc => ?_, ?_, ?_⟩
 ·rcases List.mem_append.1 hc with hc | hc
  ·exact (h.ct c (List.mem_of_mem_take hc)).more _
  ·rcases List.mem_cons.1 hc with rfl | hc
   ·exact hx.more _
   ·exact (h.ct c (List.mem_of_mem_drop hc)).more _
 ·refine List.pairwise_append.2 ⟨u1, List.pairwise_cons.2 ⟨haft, u2⟩, fun a ha b hb => ?_⟩
  rcases List.mem_cons.1 hb with rfl | hb
  ·exact hbef a ha
  ·exact u3 a ha b hb
 ·rw [Z6o hn]
  simp only [List.map_append, List.map_cons, List.map_nil]
  refine (List.perm_middle).trans ?_
  rw [← List.map_append, hsplit]
  exact (List.Perm.cons _ h.eq).trans (List.perm_append_singleton _ _).symm
theorem Z6h : ∀ {M : List (NmD × CeR)}, (M.map (·.1)).Nodup → ∀ n, delM M n = M.filter fun q => decide (q.1 ≠ n)
 | [], _, n => rfl
 | q :: M, hn, n => by
  rw [List.map_cons, List.nodup_cons] at hn
  have ih := Z6h hn.2 n
  unfold delM at ih ⊢
  rw [List.map_cons, List.idxOf?_cons, List.filter_cons]
  by_cases e : q.1 = n
  ·have e' : (q.1 == n) = true := by simpa using e
   have e2 : decide (q.1 ≠ n) = false := by simp [e]
   rw [e', e2]
   simp only [if_true, List.eraseIdx_zero, List.tail_cons, Bool.false_eq_true, if_false]
   rw [List.filter_eq_self.2]
   intro p hp
   rw [decide_eq_true_eq]
   exact fun e3 => hn.1 (List.mem_map.2 ⟨p, hp, by rw [e3, e]⟩)
  ·have e' : (q.1 == n) = false := by simpa using e
   have e2 : decide (q.1 ≠ n) = true := by simp [e]
   rw [e', e2]
   simp only [Bool.false_eq_true, if_false, if_true]
   rw [← ih]
   cases (M.map (·.1)).idxOf? n <;> simp
theorem Z52 {p : NmD × CeR → Bool} (h : (M.map (·.1)).Nodup) : ((M.filter p).map (·.1)).Nodup := h.sublist (List.filter_sublist.map _)
theorem Z85 (NL : List NmD) : ∀ {M : List (NmD × CeR)}, (M.map (·.1)).Nodup → NL.foldl delM M = M.filter fun q => decide (q.1 ∉ NL) := by
 induction NL with
 | nil => intro M _; exact (List.filter_eq_self.2 fun _ _ => by simp).symm
 | cons n NL ih =>
  intro M h
  rw [List.foldl_cons, Z6h h, ih (Z52 h), List.filter_filter]
  congr 1
  funext q
  simp only [List.mem_cons, not_or, ne_eq]
  by_cases h1 : q.1 = n <;> by_cases h2 : q.1 ∈ NL <;> simp [h1, h2]
theorem TabEq.drop (h : TabEq B M L) (NL : List NmD) : TabEq B (NL.foldl delM M) (L.filter fun c => decide (nmX c ∉ NL)) := by
 rw [Z85 NL h.ok.N]
 refine ⟨⟨fun q hq => h.ok.T q (List.mem_filter.1 hq).1, fun q hq => h.ok.K q (List.mem_filter.1 hq).1, Z52 h.ok.N⟩, fun c hc => h.ct c (List.mem_filter.1 hc).1, h.up.sublist List.filter_sublist, ?_⟩
 have e1 : (L.filter fun c => decide (nmX c ∉ NL)).map Z51 = (L.map Z51).filter fun p => decide ((⟨p.1.cl, p.1.seq⟩ : NmD) ∉ NL) := by rw [List.filter_map]; rfl
 have e2 : (M.filter fun q => decide (q.1 ∉ NL)).map (fun q => Z51 q.2) = (M.map fun q => Z51 q.2).filter fun p => decide ((⟨p.1.cl, p.1.seq⟩ : NmD) ∉ NL) := by
  rw [List.filter_map]
  congr 1
  refine List.filter_congr fun q hq => ?_
  rw [h.ok.K q hq]; rfl
 rw [e1, e2]
 exact h.eq.filter _
theorem Z3Z : ∀ {s t : List NmD}, (s.Pairwise Z5Y) → (t.Pairwise Z5Y) → s.Perm t → s = t
 | [], t, _, _, h => (List.nil_perm.1 h).symm
 | a :: s, [], _, _, h => by have := h.length_eq; simp at this
 | a :: s, b :: t, hs, ht, h => by
  obtain ⟨s1, s2⟩ := List.pairwise_cons.1 hs
  obtain ⟨t1, t2⟩ := List.pairwise_cons.1 ht
  have hab : a = b := by
   rcases List.mem_cons.1 (h.subset (List.mem_cons_self (a := a) (l := s))) with e | ha
   ·exact e
   ·rcases List.mem_cons.1 (h.symm.subset (List.mem_cons_self (a := b) (l := t))) with e | hb
    ·exact e.symm
    ·have q1 := t1 a ha
     have q2 := s1 b hb
     unfold Z5Y at q1 q2
     omega
  subst hab
  rw [Z3Z s2 t2 (List.perm_cons a |>.1 h)]
theorem TabEq.held (h : TabEq B M L) (hs : ss.Perm (M.map (·.1))) (hsp : ss.Pairwise fun a b => ¬ Z5Y b a) (hv : HvC M ss D) : D.map Z51 = L.map Z51 := by
 have hss : ss.Nodup := hs.nodup_iff.2 h.ok.N
 have hst : ss.Pairwise Z5Y := List.pairwise_iff_getElem.2 fun i j hi hj hij => rising hss hsp (List.getElem?_eq_getElem hi) (List.getElem?_eq_getElem hj) hij
 have hLt : (L.map nmX).Pairwise Z5Y := by
  refine List.pairwise_map.2 (h.up.imp fun {a b} q => ?_)
  unfold Z3J at q
  unfold Z5Y nmX
  simp only [Bool.or_eq_true, Bool.and_eq_true, decide_eq_true_eq] at q
  exact q
 have hp : (L.map nmX).Perm (M.map (·.1)) := by
  have e1 : L.map nmX = (L.map Z51).map fun p => (⟨p.1.cl, p.1.seq⟩ : NmD) := by rw [List.map_map]; rfl
  have e2 : M.map (·.1) = (M.map fun q => Z51 q.2).map fun p => (⟨p.1.cl, p.1.seq⟩ : NmD) := by
   rw [List.map_map]
   exact List.map_congr_left fun q hq => h.ok.K q hq
  rw [e1, e2]
  exact h.eq.map _
 have hse : ss = L.map nmX := Z3Z hst hLt (hs.trans hp.symm)
 rw [hv, hse, List.map_map]
 refine List.map_congr_left fun c hc => ?_
 show Z51 ((ZV M (nmX c)).getD ce0) = Z51 c
 rw [h.got, Z88 hc h.up]; rfl
end
end Go.Proofs.YtoaifondpohniaaGreat
