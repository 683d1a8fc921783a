/- WHAT IS PROVED: contracts and plain laws of Whole10M, Store10, Cert10, Own11, Com11, Flats, KpL, Wk11, LtM. Conditions: stated with each. -/
import Derived.Test.YtoaifondpohniaaGreatMT04
import Derived.Test.YtoaifondpohniaaGreatMT05
import Derived.Test.YtoaifondpohniaaGreatMT06
import Derived.Test.YtoaifondpohniaaGreatMT12
import Derived.Test.YtoaifondpohniaaGreatMT16
import Derived.Test.YtoaifondpohniaaGreatMT17
import Derived.Test.YtoaifondpohniaaGreatMT19
import Derived.Test.YtoaifondpohniaaGreatMT22
import Derived.Test.YtoaifondpohniaaGreatMT24
import Derived.Test.YtoaifondpohniaaGreatMT30
import Derived.Test.YtoaifondpohniaaGreatMT31
import Derived.Test.YtoaifondpohniaaGreatMT32
set_option maxHeartbeats 4000000
set_option maxRecDepth 100000
namespace Go.Proofs.YtoaifondpohniaaGreat
open Go.RowKit
def Z7m (L : List Signed) (s : Ze) : Prop := s.sb = s.r ∧ (⟨s.r, Zx s⟩ : Signed) ∈ L ∧ s.sm = Zm L ⟨s.r, Zx s⟩
def Z4R (L : List Signed) (c : Zk) : Prop := c.sb = 1000 + c.cl ∧ (⟨c.sb, Zq c⟩ : Signed) ∈ L ∧ c.sm = Zm L ⟨c.sb, Zq c⟩
theorem Z3j (L : List Signed) (q : Int) (x : Zk) (t : Int) : Z7m (Zg L (yS q x t)) (mkS L q x t) := ⟨rfl, Z1N L (yS q x t), rfl⟩
theorem Z5Z (L : List Signed) (cl seq : Int) (x : Hash) (p : List UInt8) : Z4R (Zg L (yC cl seq x p)) (mkC L cl seq x p) := ⟨rfl, Z1N L (yC cl seq x p), rfl⟩
theorem Z2p {L : List Signed} {s : Ze} (h : Z7m L s) (y : Signed) : Z7m (Zg L y) s := ⟨h.1, Z8t h.2.1, by rw [Z3R h.2.1]; exact h.2.2⟩
theorem Z3I {L : List Signed} {p m : Int} {s : List UInt8} (h : (⟨p, s⟩ : Signed) ∈ L) (hm : m = Zm L ⟨p, s⟩) : Z1f L p m s = true := by
 unfold Z1f
 rw [decide_eq_true_eq]
 exact ⟨(Z2l h).1, hm.symm⟩
theorem Z4d {f : Int} {L : List Signed} {s : Ze} (h : Z7m L s) (h0 : 0 ≤ s.r ∧ s.r < 3 * f + 1) (ht : 1 ≤ s.t ∧ s.t < 18446744073709551615) : Z1M f L s = true := by
 unfold Z1M inB
 rw [h.1, Z3I h.2.1 h.2.2, decide_eq_true h0.1, decide_eq_true h0.2, decide_eq_true ht.1, decide_eq_true ht.2, decide_eq_true rfl]
 rfl
structure WInv (y : Zk) (N k : Nat) (L : List Signed) (D : List Ze) (i : Nat) : Prop where
 all : ∀ s ∈ D, Z7m L s ∧ (1 ≤ s.t ∧ s.t ≤ 1000) ∧ (0 ≤ s.r ∧ s.r < N) ∧ s.cl ≤ 1000000 ∧ s.seq ≤ 1000000
 got : ∀ r : Nat, r < i → r ≠ k → ∃ s ∈ D, s.r = r ∧ Z2n s y = true
 no : ∀ s ∈ D, Z2n s y = true → s.r ≠ k
theorem WInv.start (y : Zk) (N k : Nat) (L : List Signed) : WInv y N k L [] 0 := ⟨by simp, fun r h => by omega, by simp⟩
theorem Z5N (L : List Signed) (q : Int) (y : Zk) (t : Int) : Z2n (mkS L q y t) y = true := by simp [Z2n, mkS]
theorem WInv.one {y : Zk} {N k i : Nat} {L : List Signed} {D : List Ze} (h : WInv y N k L D i) (hi : i < N) (hk : i ≠ k) {t : Int} (ht : 1 ≤ t ∧ t ≤ 1000) (hy : y.cl ≤ 1000000 ∧ y.seq ≤ 1000000) : WInv y N k (Zg L (yS i y t)) (D ++ [mkS L i y t]) (i + 1) := by
 refine ⟨fun s hs => ?_, fun r hr hrk => ?_, fun s hs hn => ?_⟩
 ·rcases List.mem_append.1 hs with hs | hs
  ·obtain ⟨h1, h2⟩ := h.all s hs
   exact ⟨Z2p h1 _, h2⟩
  ·obtain rfl := List.mem_singleton.1 hs
   exact ⟨Z3j L i y t, ht, ⟨by show (0 : Int) ≤ i; omega, by show (i : Int) < N; omega⟩, hy.1, hy.2⟩
 ·by_cases e : r = i
  ·subst e; exact ⟨_, List.mem_append_right _ (List.mem_singleton.2 rfl), rfl, Z5N L r y t⟩
  ·obtain ⟨s, h1, h2⟩ := h.got r (by omega) hrk
   exact ⟨s, List.mem_append_left _ h1, h2⟩
 ·rcases List.mem_append.1 hs with hs | hs
  ·exact h.no s hs hn
  ·obtain rfl := List.mem_singleton.1 hs
   show (i : Int) ≠ k; omega
theorem WInv.two {y z : Zk} {N k : Nat} {L : List Signed} {D : List Ze} (h : WInv y N k L D k) (hk : k < N) {j : Int} (hj : 0 ≤ j ∧ j < N) (hjk : j ≠ k) {t : Int} (ht : 1 ≤ t ∧ t + 1 ≤ 1000) (hy : y.cl ≤ 1000000 ∧ y.seq ≤ 1000000) (hz : z.cl ≤ 1000000 ∧ z.seq ≤ 1000000) (hyz : z.seq ≠ y.seq) :
  WInv y N k (Zg (Zg L (yS k z t)) (yS j y (t + 1))) (D ++ [mkS L k z t, mkS (Zg L (yS k z t)) j y (t + 1)]) (k + 1) := by
 refine ⟨fun s hs => ?_, fun r hr hrk => ?_, fun s hs hn => ?_⟩
 ·rcases List.mem_append.1 hs with hs | hs
  ·obtain ⟨h1, h2⟩ := h.all s hs
   exact ⟨Z2p (Z2p h1 _) _, h2⟩
  ·rcases List.mem_cons.1 hs with rfl | hs
   ·exact ⟨Z2p (Z3j L k z t) _, ⟨ht.1, by show t ≤ 1000; omega⟩, ⟨by show (0 : Int) ≤ k; omega, by show (k : Int) < N; omega⟩, hz.1, hz.2⟩
   ·obtain rfl := List.mem_singleton.1 hs
    exact ⟨Z3j _ j y (t + 1), ⟨by show 1 ≤ t + 1; omega, ht.2⟩, hj, hy.1, hy.2⟩
 ·obtain ⟨s, h1, h2⟩ := h.got r (by omega) hrk
  exact ⟨s, List.mem_append_left _ h1, h2⟩
 ·rcases List.mem_append.1 hs with hs | hs
  ·exact h.no s hs hn
  ·rcases List.mem_cons.1 hs with rfl | hs
   ·simp only [Z2n, Bool.and_eq_true, decide_eq_true_eq] at hn
    exact absurd hn.1.2 hyz
   ·obtain rfl := List.mem_singleton.1 hs
    exact hjk
section
variable {y : Zk} {N k Q : Nat} {f : Int} {L : List Signed} {D : List Ze}
theorem Z7f {r : Nat} (h : ∃ s ∈ D, s.r = r ∧ Z2n s y = true) : ∃ s, Z2D y D r = some s := by
 obtain ⟨s, hs, h1, h2⟩ := h
 cases hf : Z2D y D r with
 | some u => exact ⟨u, rfl⟩
 | none =>
  exfalso
  unfold Z2D at hf
  rw [List.find?_eq_none] at hf
  exact hf s hs (by simp [isR, h1, h2])
theorem WInv.len (h : WInv y N k L D N) : ∀ n, n ≤ N → (Z4x y D n).length = if k < n then n - 1 else n := fun n => by
 induction n with
 | zero => intro _; simp [Z4x]
 | succ n ih =>
  intro hn
  rw [Z5S, List.length_append, ih (by omega)]
  by_cases e : n = k
  ·subst e
   have : Z2D y D n = none := by
    cases hf : Z2D y D n with
    | none => rfl
    | some u =>
     obtain ⟨h1, h2, h3⟩ := Z23 hf
     exact absurd h1 (h.no u h3 h2)
   rw [this, if_neg (by omega), if_pos (by omega)]; simp
  ·obtain ⟨s, hs⟩ := Z7f (h.got n (by omega) e)
   rw [hs]
   by_cases hk : k < n
   ·rw [if_pos hk, if_pos (by omega)]; simp; omega
   ·rw [if_neg hk, if_neg (by omega)]; simp
theorem WInv.stamp (h : WInv y N k L D N) (hN : (N : Int) = 3 * f + 1) {s : Ze} (hs : s ∈ Z4x y D N) : s ∈ D ∧ Z2n s y = true ∧ s.r ≠ k ∧ Z1M f L s = true := by
 obtain ⟨_, hf⟩ := Z5d.1 hs
 obtain ⟨_, h2, h3⟩ := Z23 hf
 obtain ⟨g, ht, hr, _⟩ := h.all s h3
 exact ⟨h3, h2, h.no s h3 h2, Z4d g ⟨hr.1, by omega⟩ ⟨ht.1, by omega⟩⟩
theorem Z5F {S : List Ze} {i : Nat} (h : i < (S.take Q).length) : (S.take Q).getD i Zf ∈ S := by
 rw [List.getD_eq_getElem?_getD, List.getElem?_eq_getElem h]
 exact List.mem_of_mem_take (List.getElem_mem h)
theorem Z82 {x : Zk} {S : List Ze} (n : Nat) {i : Nat} (h0 : 0 < i) (h : i < ((Z4x x S n).take Q).length) : (((Z4x x S n).take Q).getD (i - 1) Zf).r < (((Z4x x S n).take Q).getD i Zf).r := by
 have hp := (Z6k x S n).sublist (List.take_sublist Q _)
 have := List.pairwise_iff_getElem.1 hp (i - 1) i (by omega) h (by omega)
 have e1 : ((Z4x x S n).take Q).getD i Zf = ((Z4x x S n).take Q)[i] := by rw [List.getD_eq_getElem?_getD, List.getElem?_eq_getElem h]; rfl
 have e2 : ((Z4x x S n).take Q).getD (i - 1) Zf = ((Z4x x S n).take Q)[i - 1]'(by omega) := by rw [List.getD_eq_getElem?_getD, List.getElem?_eq_getElem (show i - 1 < ((Z4x x S n).take Q).length by omega)]; rfl
 rw [e1, e2]
 exact this
theorem WInv.right (h : WInv y N k L D N) (hN : (N : Int) = 3 * f + 1) (hQ : (Q : Int) = 2 * f + 1) (hl : Q ≤ (Z4x y D N).length) {cn : Int} (hc : Z2h cn L y = true) : Z08 f cn L y ((Z4x y D N).take Q) = true := by
 have hlen : ((Z4x y D N).take Q).length = Q := by rw [List.length_take]; omega
 unfold Z08
 rw [hc, hlen, decide_eq_true hQ, Bool.true_and, Bool.true_and]
 refine Z3p fun i hi => ?_
 have hi' : i < ((Z4x y D N).take Q).length := by omega
 obtain ⟨_, h2, _, h4⟩ := h.stamp hN (Z5F hi')
 unfold Z4C
 rw [h2, h4, Bool.and_true, Bool.and_true]
 by_cases h0 : i = 0
 ·subst h0; rfl
 ·have := Z82 (x := y) (S := D) (Q := Q) N (show 0 < i by omega) hi'
  rw [Bool.or_eq_true]
  right
  rw [Bool.not_eq_true', decide_eq_false_iff_not]
  omega
end
theorem Z36 {cn : Int} {L : List Signed} {c : Zk} (h : Z4R L c) (hcl : 0 ≤ c.cl ∧ c.cl < cn) (hb : c.cl ≤ 1000000) (hs : 1 ≤ c.seq ∧ c.seq ≤ 1048576) (hl : 0 ≤ c.len ∧ c.len ≤ 256) : Z2h cn L c = true := by
 unfold Z2h Z1B
 rw [Z3I h.2.1 h.2.2, show IntKind.i64.wrap (1000 + c.cl) = 1000 + c.cl from IntWalk.i64_in _ (by omega), decide_eq_true h.1, decide_eq_true hcl.1, decide_eq_true hcl.2, decide_eq_true hs.1, decide_eq_true hs.2, decide_eq_true hl.1, decide_eq_true hl.2]
 rfl
theorem Z0K {L : List Signed} (h : L.Nodup) (y : Signed) : (Zg L y).Nodup := by
 unfold Zg; split
 ·exact h
 ·rename_i hn
  rw [List.nodup_append]; exact ⟨h, by simp, fun x hx z hz => by rw [List.mem_singleton.1 hz]; exact fun e => hn (e ▸ hx)⟩
theorem WInv.ok {y : Zk} {N k Q : Nat} {L : List Signed} {D : List Ze} (h : WInv y N k L D N) (hN : N ≤ 1000) : Z9w ((Z4x y D N).take Q) := fun i hi => by
 obtain ⟨_, hf⟩ := Z5d.1 (Z5F hi)
 obtain ⟨_, _, h3⟩ := Z23 hf
 obtain ⟨_, h4, h5, h6, h7⟩ := h.all _ h3
 exact ⟨by omega, by omega, by omega, by omega, by omega⟩
theorem Z6C {a a' : Option Addr} {n c n' c' : Nat} (h : Value.slice a n c = .slice a' n' c') : a = a' := by simp only [Value.slice.injEq] at h; exact h.1
theorem Z4w {α : Type} {enc : α → List Value} {sz : Nat} (hs : ∀ x, (enc x).length = sz) (h0 : 0 < sz) {W w : World} {G : List Ck} (H : Sat W G w) (is : List Nat) (j : Nat) {B : List Ck} (hB : (is.filterMap fun i => G[i]?) = B) (hj : G[j]? = some (Z5 W fun _ => False)) (hne : is.all (fun i => !Nat.beq i j) = true) {va : Option Addr} {n vc : Nat} {ls : List α} (hv : ListAt enc sz W (.slice va n vc) ls) : 0 < ls.length → ∀ a, va = some a → ¬ (ZI B).fp a.block := by
 intro h1 a ha hfp
 obtain ⟨vb, vo, vc', hva, hvs⟩ := hv.cells hs h0 h1
 have h2 := Z6C hva
 rw [h2] at ha
 obtain rfl := (Option.some.inj ha)
 have hl : 0 < (ls.flatMap enc).length := by rw [Z1J enc sz hs]; exact Nat.mul_pos h1 h0
 have hc := hvs 0 _ (List.getElem?_eq_getElem hl)
 rw [Addr.add_lit] at hc
 have hlt := World.block_lt_of_cell? W _ hc
 subst hB
 obtain ⟨A, hA, hAf⟩ := hfp
 obtain ⟨i, hi, he⟩ := List.mem_filterMap.1 hA
 have hij : Nat.beq i j = false := by simpa using List.all_eq_true.1 hne i hi
 exact H.apart i j he hj hij _ hAf ⟨hlt, fun h => h⟩
section
variable {P : Program} {ops : Array Oper} {Q : Exit → Act → World → Prop} {md : Region.Mode} {S : World → Prop} {B : Nat → Bool}
end
section
variable {P : Program} {n : Nat} {f : Nat → Value} {w w0 : World} {dst : Option Tmp} {ty : TypeId} {pos : String} {aft : Array Edge} {gd : Option (Nat × Bool)} {K : Act → World → Prop} {Q : Exit → Act → World → Prop} {G : List Ck}
end
theorem Z6i {va : Option Addr} {n c n' c' : Nat} {ad : Addr} (h : Value.slice va n c = .slice (some ad) n' c') : va = some ad := by
 simp only [Value.slice.injEq] at h; exact h.1
theorem Z7A {xs : List Int} {i : Nat} (h : i < xs.length) : xs.getD i 0 ∈ xs := by
 rw [List.getD_eq_getElem?_getD, List.getElem?_eq_getElem h]; exact List.getElem_mem h
instance : DecidableEq Ze := fun a b =>
 if h : a.r = b.r ∧ a.cl = b.cl ∧ a.seq = b.seq ∧ a.h = b.h ∧ a.t = b.t ∧ a.sb = b.sb ∧ a.sm = b.sm then .isTrue (by cases a; cases b; simp_all) else .isFalse (fun e => h (by rw [e]; simp))
instance : DecidableEq Zk := fun a b =>
 if h : a.cl = b.cl ∧ a.seq = b.seq ∧ a.h = b.h ∧ a.len = b.len ∧ a.sb = b.sb ∧ a.sm = b.sm then .isTrue (by cases a; cases b; simp_all) else .isFalse (fun e => h (by rw [e]; simp))
instance : DecidableEq DenyD := fun a b =>
 if h : a.r = b.r ∧ a.i = b.i ∧ a.sb = b.sb ∧ a.sm = b.sm then .isTrue (by cases a; cases b; simp_all) else .isFalse (fun e => h (by rw [e]; simp))
theorem Z4t (w : World) (F Cn rp : Int) (hF : -1099511627776 ≤ F ∧ F ≤ 1099511627776) (hok : (Z2b F Cn && inB F rp) = true) :
  Calls Tryz.prog 22 #[.agg ⟨[.int .i64 F, .int .i64 Cn]⟩, .int .i64 rp] w fun e w' => ∃ t tm, e = .returned (.tuple #[.pointer (some ⟨t, 0, none⟩), .int .i64 0]) ∧ (ZI [Z1 t 121 [.int .i64 F, .int .i64 Cn, .int .i64 rp, .map (some tm)], ZA tm nmV ceV []]).ok w' ∧ Upd [] w w' ∧ ∀ b, (ZI [Z1 t 121 [.int .i64 F, .int .i64 Cn, .int .i64 rp, .map (some tm)], ZA tm nmV ceV []]).fp b → w.heap.size ≤ b :=
 (Z87 w F Cn rp hF).mono fun e w' q => by
  rcases q with ⟨_, h2, _⟩ | ⟨t, tm, he, _, hT⟩
  ·rw [hok] at h2; cases h2
  ·exact ⟨t, tm, he, hT.fin [0, 1] (by decide) rfl, hT.upd 2 rfl [] (fun _ h => h.elim), hT.freshS 2 rfl (fun _ h => h) [0, 1] rfl rfl⟩
theorem Z4j (w : World) :
  Calls Tryz.prog 21 #[] w fun e w' => e = .returned (.bool true) ∧ Upd [] w w' := by
 have H := Sat.start0 w
 refine Zr Tryz.func21 rfl 47 rfl (Nat.le_of_ble_eq_true rfl) ?_
 refine Zb ?_
 refine Zl ?_
 refine Z3 (Z0 rfl) (d := 0) (v := (.bool false)) rfl (by kernel_rfl) ?_
 refine Zi ?_
 refine Z4 ?_
 refine Zb ?_
 refine Zl ?_
 refine Z3 (Z0 rfl) (d := 7) (v := (.agg ⟨([(.int .i64 (1)), (.int .i64 (1))] : List Value)⟩)) rfl (by kernel_rfl) ?_
 refine ZQ (Z0 rfl) (fun K1 hK1 => ?_)
 refine ZX (d := 8) rfl (by kernel_rfl) (Z4t w 1 1 0 (by omega) (by decide)) ?_
 rintro _ w2 ⟨t3, m4, rfl, k5, u6, q7⟩
 have H8 : Sat w [Z5 w (fun _ => False), ZI [Z1 t3 121 [.int .i64 1, .int .i64 1, .int .i64 0, .map (some m4)], ZA m4 nmV ceV []]] w2 := H.addU u6 k5 q7
 have H9 : Sat w [Z5 w (fun _ => False), Z1 t3 121 ([(.int .i64 (1)), (.int .i64 (1)), (.int .i64 (0)), (.map (some m4))] : List Value), ZA m4 nmV ceV []] w2 := H8.open 1 rfl
 refine ⟨_, rfl, ?_⟩
 refine hK1 _ _ ?_
 clear hK1 K1
 refine Z3 (Z0 rfl) (d := 6) (v := (.tuple #[(.pointer (some ⟨t3, 0, none⟩)), (.int .i64 (0))])) rfl (by kernel_rfl) ?_
 refine Z3 (Z0 rfl) (d := 9) (v := (.pointer (some ⟨t3, 0, none⟩))) rfl (by kernel_rfl) ?_
 refine Z3 (Z0 rfl) (d := 10) (v := (.int .i64 (0))) rfl (by kernel_rfl) ?_
 refine Z3 (Z0 rfl) (d := 1) (v := (.pointer (some ⟨t3, 0, none⟩))) rfl (by kernel_rfl) ?_
 refine Z3 (Z0 rfl) (d := 2) (v := (.int .i64 (0))) rfl (by kernel_rfl) ?_
 refine Zi ?_
 refine Z4 ?_
 refine Zb ?_
 refine Zl ?_
 refine ZQ (Z0 rfl) (fun K10 hK10 => ?_)
 refine ZX (d := 11) rfl (by kernel_rfl) (Z6D w2) ?_
 rintro _ w11 ⟨b12, m13, rfl, k14, p15, q16⟩
 have H17 : Sat w [Z5 w (fun _ => False), Z1 t3 121 ([(.int .i64 (1)), (.int .i64 (1)), (.int .i64 (0)), (.map (some m4))] : List Value), ZA m4 nmV ceV [], ZI [Z1 b12 110 [.map (some m13)], ZA m13 Z7 (Value.int .i64) (Zh [])]] w11 := H9.addU p15 k14 q16
 have H18 : Sat w [Z5 w (fun _ => False), Z1 t3 121 ([(.int .i64 (1)), (.int .i64 (1)), (.int .i64 (0)), (.map (some m4))] : List Value), ZA m4 nmV ceV [], Z1 b12 110 ([(.map (some m13))] : List Value), ZA m13 Z7 (Value.int .i64) (Zh [])] w11 := H17.open 3 rfl
 refine ⟨_, rfl, ?_⟩
 refine hK10 _ _ ?_
 clear hK10 K10
 refine Z3 (Z0 rfl) (d := 3) (v := (.pointer (some ⟨b12, 0, none⟩))) rfl (by kernel_rfl) ?_
 refine Zi ?_
 refine Z4 ?_
 refine Zb ?_
 refine Zb ?_
 refine Zl ?_
 refine Z3 (Z0 rfl) (d := 12) (v := (.int .i64 (0))) rfl (by kernel_rfl) ?_
 refine Z3 (Z0 rfl) (d := 13) (v := (.bool false)) rfl (by kernel_rfl) ?_
 refine Z3 (Z0 rfl) (d := 14) (v := (.bool false)) rfl (by kernel_rfl) ?_
 refine Z3 (Zu 2 14 false rfl (by kernel_rfl) rfl (by kernel_rfl)) (d := 15) (v := (.pointer (some ⟨t3, 0, none⟩))) rfl (by kernel_rfl) ?_
 refine Z3 (Zu 2 14 false rfl (by kernel_rfl) rfl (by kernel_rfl)) (d := 16) (v := (.bool false)) rfl (by kernel_rfl) ?_
 refine Z3 (Z0 rfl) (d := 17) (v := (.bool false)) rfl (by kernel_rfl) ?_
 refine Z3 (Z0 rfl) (d := 18) (v := (.bool false)) rfl (by kernel_rfl) ?_
 refine Z3 (Zu 6 18 false rfl (by kernel_rfl) rfl (by kernel_rfl)) (d := 19) (v := (.pointer (some ⟨b12, 0, none⟩))) rfl (by kernel_rfl) ?_
 refine Z3 (Zu 6 18 false rfl (by kernel_rfl) rfl (by kernel_rfl)) (d := 20) (v := (.bool false)) rfl (by kernel_rfl) ?_
 refine Z3 (Z0 rfl) (d := 21) (v := (.bool false)) rfl (by kernel_rfl) ?_
 refine Zi ?_
 refine Z4 ?_
 refine Z0r rfl ?_
 refine ZZ ?_
 refine Z4 ?_
 refine Zb ?_
 have H19 := H18.bag0
 refine Zl ?_
 refine Z3 (Z0 rfl) (d := 23) (v := (.pointer (some ⟨t3, 0, none⟩))) rfl (by kernel_rfl) ?_
 refine Z3 (Z0 rfl) (d := 24) (v := (.pointer (some ⟨b12, 0, none⟩))) rfl (by kernel_rfl) ?_
 refine ZQ (Z0 rfl) (fun K20 hK20 => ?_)
 refine ZX (d := 25) rfl (by kernel_rfl) (Z1w w11 t3 m4 1 1 0 ([]) [] b12 m13 ([]) (H19.fin [1, 2, 5, 3, 4] (by decide) rfl) (fun q hq => absurd hq List.not_mem_nil) (Nat.zero_le _) (by omega) List.nodup_nil (Nat.zero_le _) 0 0 5 (by omega) (by omega)) ?_
 rintro _ wp21 ⟨ca21, cc21, HL21, Bh21, ss21, rfl, hs21, hsp21, hco21, hcD21, hT21⟩
 have H22 : Sat w [Z5 w (fun _ => False), Z1 t3 121 ([(.int .i64 (1)), (.int .i64 (1)), (.int .i64 (0)), (.map (some m4))] : List Value), ZA m4 nmV ceV [], Z1 b12 110 ([(.map (some m13))] : List Value), ZA m13 Z7 (Value.int .i64) (Zh (Zg ([]) (⟨0, ZB (⟨0, 0, 5, ca21, cc21, 0, 0, (Zo HL21 0 5)⟩ : PrR)⟩ : Signed))), ZL [], Zd 53 38 (.slice ca21 ((Zo HL21 0 5).length) cc21) ((Zo HL21 0 5).length) ((Zo HL21 0 5).flatMap Z01), ZL Bh21] wp21 := (Sat.turnL (L' := [Z1 t3 121 ([(.int .i64 (1)), (.int .i64 (1)), (.int .i64 (0)), (.map (some m4))] : List Value), ZA m4 nmV ceV [], ZL [], Z1 b12 110 ([(.map (some m13))] : List Value), ZA m13 Z7 (Value.int .i64) (Zh (Zg ([]) (⟨0, ZB (⟨0, 0, 5, ca21, cc21, 0, 0, (Zo HL21 0 5)⟩ : PrR)⟩ : Signed))), Zd 53 38 (.slice ca21 ((Zo HL21 0 5).length) cc21) ((Zo HL21 0 5).length) ((Zo HL21 0 5).flatMap Z01), ZL Bh21]) (R := [Z5 w (fun _ => False)]) H19 [1, 2, 5, 3, 4] [0] (by decide) (by kernel_rfl) rfl hT21).pick [7, 0, 1, 3, 4, 2, 5, 6] (by decide)
 refine ⟨_, rfl, ?_⟩
 have hl0 : HL21.length = 0 := by have q1 := Z5l hco21; have q2 := hs21.length_eq; rw [List.length_map] at q2; rw [q1, q2]; rfl
 have hl1 : (Zo HL21 0 5).length = 0 := by have q := Z6R (L := HL21) (last := 0) (tm := 5); omega
 have hm1 : Zm (Zg ([]) (⟨0, ZB (⟨0, 0, 5, ca21, cc21, 0, 0, (Zo HL21 0 5)⟩ : PrR)⟩ : Signed)) (⟨0, ZB (⟨0, 0, 5, ca21, cc21, 0, 0, (Zo HL21 0 5)⟩ : PrR)⟩ : Signed) = 1 := by simp [Zm, Zg]
 refine hK20 _ _ ?_
 clear hK20 K20
 refine Z3 (Z0 rfl) (d := 22) (v := (.tuple #[(.agg ⟨([(.int .i64 (0)), (.int .i64 (0)), (.int .u64 (5)), (.slice ca21 ((Zo HL21 0 5).length) cc21), (.int .i64 (0)), (.int .i64 (Zm (Zg ([]) (⟨0, ZB (⟨0, 0, 5, ca21, cc21, 0, 0, (Zo HL21 0 5)⟩ : PrR)⟩ : Signed)) (⟨0, ZB (⟨0, 0, 5, ca21, cc21, 0, 0, (Zo HL21 0 5)⟩ : PrR)⟩ : Signed)))] : List Value)⟩), (.int .i64 (0))])) rfl (by kernel_rfl) ?_
 refine Z3 (Z0 rfl) (d := 26) (v := (.agg ⟨([(.int .i64 (0)), (.int .i64 (0)), (.int .u64 (5)), (.slice ca21 ((Zo HL21 0 5).length) cc21), (.int .i64 (0)), (.int .i64 (Zm (Zg ([]) (⟨0, ZB (⟨0, 0, 5, ca21, cc21, 0, 0, (Zo HL21 0 5)⟩ : PrR)⟩ : Signed)) (⟨0, ZB (⟨0, 0, 5, ca21, cc21, 0, 0, (Zo HL21 0 5)⟩ : PrR)⟩ : Signed)))] : List Value)⟩)) rfl (by kernel_rfl) ?_
 refine Z3 (Z0 rfl) (d := 27) (v := (.int .i64 (0))) rfl (by kernel_rfl) ?_
 refine ZQ (Z0 rfl) (fun K23 hK23 => ?_)
 refine Z19 (zs := ([(.int .i64 (0)), (.int .i64 (0)), (.int .u64 (0)), (.slice none 0 0), (.int .i64 (0)), (.int .i64 (0))] : List Value)) (z := (.agg ⟨([(.int .i64 (0)), (.int .i64 (0)), (.int .u64 (0)), (.slice none 0 0), (.int .i64 (0)), (.int .i64 (0))] : List Value)⟩)) rfl H22 (by kernel_rfl) (by kernel_rfl) ?_
 intro b24 w25 (H26 : Sat w [Z5 w (fun _ => False), Z1 t3 121 ([(.int .i64 (1)), (.int .i64 (1)), (.int .i64 (0)), (.map (some m4))] : List Value), ZA m4 nmV ceV [], Z1 b12 110 ([(.map (some m13))] : List Value), ZA m13 Z7 (Value.int .i64) (Zh (Zg ([]) (⟨0, ZB (⟨0, 0, 5, ca21, cc21, 0, 0, (Zo HL21 0 5)⟩ : PrR)⟩ : Signed))), ZL [], Zd 53 38 (.slice ca21 ((Zo HL21 0 5).length) cc21) ((Zo HL21 0 5).length) ((Zo HL21 0 5).flatMap Z01), ZL Bh21, Z1 b24 34 ([(.int .i64 (0)), (.int .i64 (0)), (.int .u64 (0)), (.slice none 0 0), (.int .i64 (0)), (.int .i64 (0))] : List Value)] w25)
 refine hK23 _ _ ?_
 clear hK23 K23
 refine ZQ (Z0 rfl) (fun K27 hK27 => ?_)
 refine Z0q (vs := ([(.int .i64 (0)), (.int .i64 (0)), (.int .u64 (5)), (.slice ca21 ((Zo HL21 0 5).length) cc21), (.int .i64 (0)), (.int .i64 (Zm (Zg ([]) (⟨0, ZB (⟨0, 0, 5, ca21, cc21, 0, 0, (Zo HL21 0 5)⟩ : PrR)⟩ : Signed)) (⟨0, ZB (⟨0, 0, 5, ca21, cc21, 0, 0, (Zo HL21 0 5)⟩ : PrR)⟩ : Signed)))] : List Value)) (cs' := ([(.int .i64 (0)), (.int .i64 (0)), (.int .u64 (5)), (.slice ca21 ((Zo HL21 0 5).length) cc21), (.int .i64 (0)), (.int .i64 (Zm (Zg ([]) (⟨0, ZB (⟨0, 0, 5, ca21, cc21, 0, 0, (Zo HL21 0 5)⟩ : PrR)⟩ : Signed)) (⟨0, ZB (⟨0, 0, 5, ca21, cc21, 0, 0, (Zo HL21 0 5)⟩ : PrR)⟩ : Signed)))] : List Value)) rfl H26 8 rfl rfl rfl rfl (by kernel_rfl) (Nat.le_of_ble_eq_true (by kernel_rfl)) (Nat.le_of_ble_eq_true (by kernel_rfl)) (by kernel_rfl) (by kernel_rfl) ?_
 intro w28 (H29 : Sat w [Z5 w (fun _ => False), Z1 t3 121 ([(.int .i64 (1)), (.int .i64 (1)), (.int .i64 (0)), (.map (some m4))] : List Value), ZA m4 nmV ceV [], Z1 b12 110 ([(.map (some m13))] : List Value), ZA m13 Z7 (Value.int .i64) (Zh (Zg ([]) (⟨0, ZB (⟨0, 0, 5, ca21, cc21, 0, 0, (Zo HL21 0 5)⟩ : PrR)⟩ : Signed))), ZL [], Zd 53 38 (.slice ca21 ((Zo HL21 0 5).length) cc21) ((Zo HL21 0 5).length) ((Zo HL21 0 5).flatMap Z01), ZL Bh21, Z1 b24 34 ([(.int .i64 (0)), (.int .i64 (0)), (.int .u64 (5)), (.slice ca21 ((Zo HL21 0 5).length) cc21), (.int .i64 (0)), (.int .i64 (Zm (Zg ([]) (⟨0, ZB (⟨0, 0, 5, ca21, cc21, 0, 0, (Zo HL21 0 5)⟩ : PrR)⟩ : Signed)) (⟨0, ZB (⟨0, 0, 5, ca21, cc21, 0, 0, (Zo HL21 0 5)⟩ : PrR)⟩ : Signed)))] : List Value)] w28)
 refine hK27 _ _ ?_
 clear hK27 K27
 refine Z3 (Z0 rfl) (d := 5) (v := (.int .i64 (0))) rfl (by kernel_rfl) ?_
 refine Zi ?_
 refine Z4 ?_
 refine Zb ?_
 refine Zl ?_
 refine Z3 (Z0 rfl) (d := 28) (v := (.int .i64 (0))) rfl (by kernel_rfl) ?_
 refine Z3 (Z0 rfl) (d := 29) (v := (.bool true)) rfl (by kernel_rfl) ?_
 refine Z3 (Z0 rfl) (d := 30) (v := (.bool true)) rfl (by kernel_rfl) ?_
 refine Z3 (Zu 2 30 true rfl (by kernel_rfl) rfl (by kernel_rfl)) (d := 31) (v := (.pointer (some ⟨b24, 3, none⟩))) rfl (by kernel_rfl) ?_
 refine Z3 (Zu 2 30 true rfl (by kernel_rfl) rfl (by kernel_rfl)) (d := 32) (v := (.slice ca21 ((Zo HL21 0 5).length) cc21)) rfl (Za rfl (by kernel_rfl) (H29.cell 8 rfl rfl)) ?_
 refine Z3 (Zu 2 30 true rfl (by kernel_rfl) rfl (by kernel_rfl)) (d := 33) (v := (.int .i64 (((Zo HL21 0 5).length : Int)))) rfl (by kernel_rfl) ?_
 refine Z3 (Zu 2 30 true rfl (by kernel_rfl) rfl (by kernel_rfl)) (d := 34) (v := (.bool (decide (((Zo HL21 0 5).length : Int) = 0)))) rfl (by kernel_rfl) ?_
 refine Z3 (Z0 rfl) (d := 35) (v := (.bool (decide (((Zo HL21 0 5).length : Int) = 0)))) rfl (by kernel_rfl) ?_
 refine Z3 (Z0 rfl) (d := 36) (v := (.bool (decide (((Zo HL21 0 5).length : Int) = 0)))) rfl (by kernel_rfl) ?_
 have b31 : (decide (((Zo HL21 0 5).length : Int) = 0)) = true := by exact decide_eq_true (by omega)
 refine ZV 36 (.bool true) (congrArg Value.bool b31) ?_
 have g32 := of_decide_eq_true b31
 refine Z3 (Zu 8 36 true rfl (by kernel_rfl) rfl (by kernel_rfl)) (d := 37) (v := (.pointer (some ⟨b24, 2, none⟩))) rfl (by kernel_rfl) ?_
 refine Z3 (Zu 8 36 true rfl (by kernel_rfl) rfl (by kernel_rfl)) (d := 38) (v := (.int .u64 (5))) rfl (Za rfl (by kernel_rfl) (H29.cell 8 rfl rfl)) ?_
 refine Z3 (Zu 8 36 true rfl (by kernel_rfl) rfl (by kernel_rfl)) (d := 39) (v := (.bool true)) rfl (by kernel_rfl) ?_
 refine Z3 (Z0 rfl) (d := 40) (v := (.bool true)) rfl (by kernel_rfl) ?_
 refine Z3 (Z0 rfl) (d := 41) (v := (.bool true)) rfl (by kernel_rfl) ?_
 refine Z3 (Zu 13 41 true rfl (by kernel_rfl) rfl (by kernel_rfl)) (d := 42) (v := (.pointer (some ⟨b24, 4, none⟩))) rfl (by kernel_rfl) ?_
 refine Z3 (Zu 13 41 true rfl (by kernel_rfl) rfl (by kernel_rfl)) (d := 43) (v := (.pointer (some ⟨b24, 5, none⟩))) rfl (by kernel_rfl) ?_
 refine Z3 (Zu 13 41 true rfl (by kernel_rfl) rfl (by kernel_rfl)) (d := 44) (v := (.int .i64 (Zm (Zg ([]) (⟨0, ZB (⟨0, 0, 5, ca21, cc21, 0, 0, (Zo HL21 0 5)⟩ : PrR)⟩ : Signed)) (⟨0, ZB (⟨0, 0, 5, ca21, cc21, 0, 0, (Zo HL21 0 5)⟩ : PrR)⟩ : Signed)))) rfl (Za rfl (by kernel_rfl) (H29.cell 8 rfl rfl)) ?_
 refine Z3 (Zu 13 41 true rfl (by kernel_rfl) rfl (by kernel_rfl)) (d := 45) (v := (.bool (decide ((Zm (Zg ([]) (⟨0, ZB (⟨0, 0, 5, ca21, cc21, 0, 0, (Zo HL21 0 5)⟩ : PrR)⟩ : Signed)) (⟨0, ZB (⟨0, 0, 5, ca21, cc21, 0, 0, (Zo HL21 0 5)⟩ : PrR)⟩ : Signed)) = 1)))) rfl (by kernel_rfl) ?_
 refine Z3 (Z0 rfl) (d := 46) (v := (.bool (decide ((Zm (Zg ([]) (⟨0, ZB (⟨0, 0, 5, ca21, cc21, 0, 0, (Zo HL21 0 5)⟩ : PrR)⟩ : Signed)) (⟨0, ZB (⟨0, 0, 5, ca21, cc21, 0, 0, (Zo HL21 0 5)⟩ : PrR)⟩ : Signed)) = 1)))) rfl (by kernel_rfl) ?_
 refine Z3 (Z0 rfl) (d := 0) (v := (.bool (decide ((Zm (Zg ([]) (⟨0, ZB (⟨0, 0, 5, ca21, cc21, 0, 0, (Zo HL21 0 5)⟩ : PrR)⟩ : Signed)) (⟨0, ZB (⟨0, 0, 5, ca21, cc21, 0, 0, (Zo HL21 0 5)⟩ : PrR)⟩ : Signed)) = 1)))) rfl (by kernel_rfl) ?_
 refine Zi ?_
 refine Z4 ?_
 refine ZY ?_
 refine Z1i rfl (ZJ (v := (.bool (decide ((Zm (Zg ([]) (⟨0, ZB (⟨0, 0, 5, ca21, cc21, 0, 0, (Zo HL21 0 5)⟩ : PrR)⟩ : Signed)) (⟨0, ZB (⟨0, 0, 5, ca21, cc21, 0, 0, (Zo HL21 0 5)⟩ : PrR)⟩ : Signed)) = 1)))) rfl) ?_
 exact ⟨by rw [decide_eq_true hm1], H29.upd 0 rfl [] (fun _ h => h.elim)⟩
section
variable {B B' : List Ck} {M M' : List (NmD × CeR)} {x c : CeR} {R : Prop} {ss ss1 ss2 : List NmD} {D D1 D2 L1 L2 L3 : List CeR} {i j : Nat} {n m : NmD}
structure TabOk (B : List Ck) (M : List (NmD × CeR)) : Prop where
 T : ∀ q ∈ M, CeT B q.2
 K : ∀ q ∈ M, q.1 = nmX q.2
 N : (M.map (·.1)).Nodup
theorem TabOk.nil : TabOk [] [] := ⟨fun _ hq => absurd hq List.not_mem_nil, fun _ hq => absurd hq List.not_mem_nil, List.nodup_nil⟩
theorem TabOk.more (h : TabOk B M) (A : Ck) : TabOk (A :: B) M := ⟨fun q hq => (h.T q hq).more A, h.K, h.N⟩
theorem Z4G (hn : (Z6 M n).isSome = false) : n ∉ M.map (·.1) := Z51.1 (by cases e : Z6 M n with | none => rfl | some v => rw [e] at hn; cases hn)
theorem Z73 (hn : (Z6 M n).isSome = false) : Z2r M n c = M ++ [(n, c)] := by unfold Z2r; rw [if_neg (Z4G hn)]
theorem TabOk.put (h : TabOk B M) (hn : (Z6 M (nmX x)).isSome = false) (hx : CeT B x) (sa : Option Addr) (sc : Nat) : TabOk (stC ⟨x.x, sa, sc, x.S⟩ :: B) (Z2r M (nmX x) ⟨x.x, sa, sc, x.S⟩) := by
 rw [Z73 hn]
 refine ⟨fun q hq => ?_, fun q hq => ?_, ?_⟩
 ·rcases List.mem_append.1 hq with hq | hq
  ·exact (h.T q hq).more _
  ·rw [List.mem_singleton.1 hq]; exact ⟨hx.x, hx.S, hx.len, List.mem_cons_self⟩
 ·rcases List.mem_append.1 hq with hq | hq
  ·exact h.K q hq
  ·rw [List.mem_singleton.1 hq]; rfl
 ·rw [List.map_append, List.nodup_append]
  refine ⟨h.N, by simp, fun a ha b hb e => ?_⟩
  simp only [List.map_cons, List.map_nil, List.mem_singleton] at hb
  exact Z4G hn (by rw [← hb, ← e]; exact ha)
end
end Go.Proofs.YtoaifondpohniaaGreat
