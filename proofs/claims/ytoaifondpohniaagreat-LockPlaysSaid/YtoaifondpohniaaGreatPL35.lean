/- WHAT IS PROVED: contracts and plain laws of Whole10M, Store10, Cert10. Conditions: stated with each. -/
import Derived.Test.YtoaifondpohniaaGreatPL04
import Derived.Test.YtoaifondpohniaaGreatPL05
import Derived.Test.YtoaifondpohniaaGreatPL18
import Derived.Test.YtoaifondpohniaaGreatPL21
import Derived.Test.YtoaifondpohniaaGreatPL26
import Derived.Test.YtoaifondpohniaaGreatPL33
import Derived.Test.YtoaifondpohniaaGreatPL34
set_option maxHeartbeats 4000000
set_option maxRecDepth 100000
namespace Go.Proofs.YtoaifondpohniaaGreat
open Go.RowKit
def Z9W (L : List Signed) (s : Za) : Prop := s.sb = s.r ∧ (⟨s.r, ZH s⟩ : Signed) ∈ L ∧ s.sm = ZB L ⟨s.r, ZH s⟩
def Z9V (L : List Signed) (c : Zg) : Prop := c.sb = 1000 + c.cl ∧ (⟨c.sb, Zy c⟩ : Signed) ∈ L ∧ c.sm = ZB L ⟨c.sb, Zy c⟩
theorem Zao (L : List Signed) (q : Int) (x : Zg) (t : Int) : Z9W (Zp L (yS q x t)) (mkS L q x t) := ⟨rfl, Z4F L (yS q x t), rfl⟩
theorem Z5A (L : List Signed) (cl seq : Int) (x : Hash) (p : List UInt8) : Z9V (Zp L (yC cl seq x p)) (mkC L cl seq x p) := ⟨rfl, Z4F L (yC cl seq x p), rfl⟩
theorem Z9w {L : List Signed} {s : Za} (h : Z9W L s) (y : Signed) : Z9W (Zp L y) s := ⟨h.1, Zb7 h.2.1, by rw [Z7I h.2.1]; exact h.2.2⟩
theorem Z9x {L : List Signed} {p m : Int} {s : List UInt8} (h : (⟨p, s⟩ : Signed) ∈ L) (hm : m = ZB L ⟨p, s⟩) : Z1k L p m s = true := by
 unfold Z1k
 rw [decide_eq_true_eq]
 exact ⟨(Z38 h).1, hm.symm⟩
theorem Z8i {f : Int} {L : List Signed} {s : Za} (h : Z9W L s) (h0 : 0 ≤ s.r ∧ s.r < 3 * f + 1) (ht : 1 ≤ s.t ∧ s.t < 18446744073709551615) : Z0Z f L s = true := by
 unfold Z0Z inB
 rw [h.1, Z9x h.2.1 h.2.2, decide_eq_true h0.1, decide_eq_true h0.2, decide_eq_true ht.1, decide_eq_true ht.2, decide_eq_true rfl]
 rfl
structure WInv (y : Zg) (N k : Nat) (L : List Signed) (D : List Za) (i : Nat) : Prop where
 all : ∀ s ∈ D, Z9W L s ∧ (1 ≤ s.t ∧ s.t ≤ 1000) ∧ (0 ≤ s.r ∧ s.r < N) ∧ s.cl ≤ 1000000 ∧ s.seq ≤ 1000000
 got : ∀ r : Nat, r < i → r ≠ k → ∃ s ∈ D, s.r = r ∧ Z2h s y = true
 no : ∀ s ∈ D, Z2h s y = true → s.r ≠ k
theorem WInv.start (y : Zg) (N k : Nat) (L : List Signed) : WInv y N k L [] 0 := ⟨by simp, fun r h => by omega, by simp⟩
theorem Zb4 (L : List Signed) (q : Int) (y : Zg) (t : Int) : Z2h (mkS L q y t) y = true := by simp [Z2h, mkS]
theorem WInv.one {y : Zg} {N k i : Nat} {L : List Signed} {D : List Za} (h : WInv y N k L D i) (hi : i < N) (hk : i ≠ k) {t : Int} (ht : 1 ≤ t ∧ t ≤ 1000) (hy : y.cl ≤ 1000000 ∧ y.seq ≤ 1000000) : WInv y N k (Zp L (yS i y t)) (D ++ [mkS L i y t]) (i + 1) := by
 refine ⟨fun s hs => ?_, fun r hr hrk => ?_, fun s hs hn => ?_⟩
 ·rcases List.mem_append.1 hs with hs | hs
  ·obtain ⟨h1, h2⟩ := h.all s hs
   exact ⟨Z9w h1 _, h2⟩
  ·obtain rfl := List.mem_singleton.1 hs
   exact ⟨Zao L i y t, ht, ⟨by show (0 : Int) ≤ i; omega, by show (i : Int) < N; omega⟩, hy.1, hy.2⟩
 ·by_cases e : r = i
  ·subst e; exact ⟨_, List.mem_append_right _ (List.mem_singleton.2 rfl), rfl, Zb4 L r y t⟩
  ·obtain ⟨s, h1, h2⟩ := h.got r (by omega) hrk
   exact ⟨s, List.mem_append_left _ h1, h2⟩
 ·rcases List.mem_append.1 hs with hs | hs
  ·exact h.no s hs hn
  ·obtain rfl := List.mem_singleton.1 hs
   show (i : Int) ≠ k; omega
section
variable {y : Zg} {N k Q : Nat} {f : Int} {L : List Signed} {D : List Za}
theorem Z9v {r : Nat} (h : ∃ s ∈ D, s.r = r ∧ Z2h s y = true) : ∃ s, Z3A y D r = some s := by
 obtain ⟨s, hs, h1, h2⟩ := h
 cases hf : Z3A y D r with
 | some u => exact ⟨u, rfl⟩
 | none =>
  exfalso
  unfold Z3A at hf
  rw [List.find?_eq_none] at hf
  exact hf s hs (by simp [isR, h1, h2])
theorem WInv.len (h : WInv y N k L D N) : ∀ n, n ≤ N → (Z5T y D n).length = if k < n then n - 1 else n := fun n => by
 induction n with
 | zero => intro _; simp [Z5T]
 | succ n ih =>
  intro hn
  rw [Z7T, List.length_append, ih (by omega)]
  by_cases e : n = k
  ·subst e
   have : Z3A y D n = none := by
    cases hf : Z3A y D n with
    | none => rfl
    | some u =>
     obtain ⟨h1, h2, h3⟩ := Z2G hf
     exact absurd h1 (h.no u h3 h2)
   rw [this, if_neg (by omega), if_pos (by omega)]; simp
  ·obtain ⟨s, hs⟩ := Z9v (h.got n (by omega) e)
   rw [hs]
   by_cases hk : k < n
   ·rw [if_pos hk, if_pos (by omega)]; simp; omega
   ·rw [if_neg hk, if_neg (by omega)]; simp
theorem WInv.stamp (h : WInv y N k L D N) (hN : (N : Int) = 3 * f + 1) {s : Za} (hs : s ∈ Z5T y D N) : s ∈ D ∧ Z2h s y = true ∧ s.r ≠ k ∧ Z0Z f L s = true := by
 obtain ⟨_, hf⟩ := Z78.1 hs
 obtain ⟨_, h2, h3⟩ := Z2G hf
 obtain ⟨g, ht, hr, _⟩ := h.all s h3
 exact ⟨h3, h2, h.no s h3 h2, Z8i g ⟨hr.1, by omega⟩ ⟨ht.1, by omega⟩⟩
theorem Z7Y {S : List Za} {i : Nat} (h : i < (S.take Q).length) : (S.take Q).getD i Ze ∈ S := by
 rw [List.getD_eq_getElem?_getD, List.getElem?_eq_getElem h]
 exact List.mem_of_mem_take (List.getElem_mem h)
theorem Zbd {x : Zg} {S : List Za} (n : Nat) {i : Nat} (h0 : 0 < i) (h : i < ((Z5T x S n).take Q).length) : (((Z5T x S n).take Q).getD (i - 1) Ze).r < (((Z5T x S n).take Q).getD i Ze).r := by
 have hp := (Z8x x S n).sublist (List.take_sublist Q _)
 have := List.pairwise_iff_getElem.1 hp (i - 1) i (by omega) h (by omega)
 have e1 : ((Z5T x S n).take Q).getD i Ze = ((Z5T x S n).take Q)[i] := by rw [List.getD_eq_getElem?_getD, List.getElem?_eq_getElem h]; rfl
 have e2 : ((Z5T x S n).take Q).getD (i - 1) Ze = ((Z5T x S n).take Q)[i - 1]'(by omega) := by rw [List.getD_eq_getElem?_getD, List.getElem?_eq_getElem (show i - 1 < ((Z5T x S n).take Q).length by omega)]; rfl
 rw [e1, e2]
 exact this
theorem WInv.right (h : WInv y N k L D N) (hN : (N : Int) = 3 * f + 1) (hQ : (Q : Int) = 2 * f + 1) (hl : Q ≤ (Z5T y D N).length) {cn : Int} (hc : Z2d cn L y = true) : Z0m f cn L y ((Z5T y D N).take Q) = true := by
 have hlen : ((Z5T y D N).take Q).length = Q := by rw [List.length_take]; omega
 unfold Z0m
 rw [hc, hlen, decide_eq_true hQ, Bool.true_and, Bool.true_and]
 refine Z6P fun i hi => ?_
 have hi' : i < ((Z5T y D N).take Q).length := by omega
 obtain ⟨_, h2, _, h4⟩ := h.stamp hN (Z7Y hi')
 unfold Z3d
 rw [h2, h4, Bool.and_true, Bool.and_true]
 by_cases h0 : i = 0
 ·subst h0; rfl
 ·have := Zbd (x := y) (S := D) (Q := Q) N (show 0 < i by omega) hi'
  rw [Bool.or_eq_true]
  right
  rw [Bool.not_eq_true', decide_eq_false_iff_not]
  omega
end
theorem Z20 {L : List Signed} (h : L.Nodup) (y : Signed) : (Zp L y).Nodup := by
 unfold Zp; split
 ·exact h
 ·rename_i hn
  rw [List.nodup_append]; exact ⟨h, by simp, fun x hx z hz => by rw [List.mem_singleton.1 hz]; exact fun e => hn (e ▸ hx)⟩
theorem WInv.ok {y : Zg} {N k Q : Nat} {L : List Signed} {D : List Za} (h : WInv y N k L D N) (hN : N ≤ 1000) : Zbi ((Z5T y D N).take Q) := fun i hi => by
 obtain ⟨_, hf⟩ := Z78.1 (Z7Y hi)
 obtain ⟨_, _, h3⟩ := Z2G hf
 obtain ⟨_, h4, h5, h6, h7⟩ := h.all _ h3
 exact ⟨by omega, by omega, by omega, by omega, by omega⟩
theorem Z8z {a a' : Option Addr} {n c n' c' : Nat} (h : Value.slice a n c = .slice a' n' c') : a = a' := by simp only [Value.slice.injEq] at h; exact h.1
theorem Z26 {α : Type} {enc : α → List Value} {sz : Nat} (hs : ∀ x, (enc x).length = sz) (h0 : 0 < sz) {W w : World} {G : List Ck} (H : Sat W G w) (is : List Nat) (j : Nat) {B : List Ck} (hB : (is.filterMap fun i => G[i]?) = B) (hj : G[j]? = some (Z7 W fun _ => False)) (hne : is.all (fun i => !Nat.beq i j) = true) {va : Option Addr} {n vc : Nat} {ls : List α} (hv : ListAt enc sz W (.slice va n vc) ls) : 0 < ls.length → ∀ a, va = some a → ¬ (ZL B).fp a.block := by
 intro h1 a ha hfp
 obtain ⟨vb, vo, vc', hva, hvs⟩ := hv.cells hs h0 h1
 have h2 := Z8z hva
 rw [h2] at ha
 obtain rfl := (Option.some.inj ha)
 have hl : 0 < (ls.flatMap enc).length := by rw [Z1K enc sz hs]; exact Nat.mul_pos h1 h0
 have hc := hvs 0 _ (List.getElem?_eq_getElem hl)
 rw [Addr.add_lit] at hc
 have hlt := World.block_lt_of_cell? W _ hc
 subst hB
 obtain ⟨A, hA, hAf⟩ := hfp
 obtain ⟨i, hi, he⟩ := List.mem_filterMap.1 hA
 have hij : Nat.beq i j = false := by simpa using List.all_eq_true.1 hne i hi
 exact H.apart i j he hj hij _ hAf ⟨hlt, fun h => h⟩
section
variable {P : Program} {ops : Array Oper} {Q : Exit → Act → World → Prop} {md : Region.Mode} {S : World → Prop} {B : Nat → Bool}
end
section
variable {P : Program} {n : Nat} {f : Nat → Value} {w w0 : World} {dst : Option Tmp} {ty : TypeId} {pos : String} {aft : Array Edge} {gd : Option (Nat × Bool)} {K : Act → World → Prop} {Q : Exit → Act → World → Prop} {G : List Ck}
end
abbrev Z5B (p0 : Nat) : List Value := ([(.map (some p0))] : List Value)
abbrev Z5C (p0 : Nat) (p1 : List Signed) : Ck := ZQ p0 Zz (Value.int .i64) (ZS p1)
abbrev Z3F (p0 : Option Addr) (p1 : Nat) (p2 : Nat) : List Value := ([(.slice p0 p1 p2)] : List Value)
abbrev Z5D (p0 : Option Addr) (p1 : List Signed) (p2 : Nat) : Ck := Zk 114 2 (.slice p0 p1.length p2) p1.length (p1.flatMap Z1N)
abbrev Z1Q (p0 : Nat) (p1 : Nat) : List Value := ([(pt p0 0), (pt p1 0)] : List Value)
abbrev Z2H (p0 : Int) (p1 : Int) : List Value := ([(.int .i64 p0), (.int .i64 p1)] : List Value)
abbrev Z1z (p0 : Zg) : List Value := ([(.int .i64 p0.cl), (.int .i64 p0.seq)] : List Value) ++ hc p0.h ++ ([(.int .i64 p0.len), (.int .i64 p0.sb), (.int .i64 p0.sm)] : List Value)
abbrev Z2I : List Value := ([(.int .i64 (0)), (.int .i64 (0))] : List Value) ++ hc Z04 ++ ([(.int .i64 (0)), (.int .i64 (0)), (.int .i64 (0)), (.slice none 0 0)] : List Value)
abbrev Z7x (p0 : Zg) : List Value := ([(.int .i64 p0.cl), (.int .i64 p0.seq)] : List Value) ++ hc p0.h ++ ([(.int .i64 p0.len), (.int .i64 p0.sb), (.int .i64 p0.sm), (.slice none 0 0)] : List Value)
abbrev Z2m (p0 : Zg) (p1 : Option Addr) (p2 : Nat) (p3 : Nat) : List Value := ([(.int .i64 p0.cl), (.int .i64 p0.seq)] : List Value) ++ hc p0.h ++ ([(.int .i64 p0.len), (.int .i64 p0.sb), (.int .i64 p0.sm), (.slice p1 p2 p3)] : List Value)
abbrev Z9y (p0 : Option Addr) (p1 : List Za) (p2 : Nat) : Ck := Zk 101 38 (.slice p0 p1.length p2) p1.length (p1.flatMap Z0q)
abbrev Z2w (p0 : Za) : List Value := ([(.int .i64 p0.r), (.int .i64 p0.cl), (.int .i64 p0.seq)] : List Value) ++ hc p0.h ++ ([(.int .u64 p0.t), (.int .i64 p0.sb), (.int .i64 p0.sm)] : List Value)
theorem Z3m {va : Option Addr} {n c n' c' : Nat} {ad : Addr} (h : Value.slice va n c = .slice (some ad) n' c') : va = some ad := by
 simp only [Value.slice.injEq] at h; exact h.1
theorem Zan {xs : List Int} {i : Nat} (h : i < xs.length) : xs.getD i 0 ∈ xs := by
 rw [List.getD_eq_getElem?_getD, List.getElem?_eq_getElem h]; exact List.getElem_mem h
theorem Z3N (w : World) (b mb r : Nat) (a : Option Addr) (c : Nat) (L : List Signed) (hB : (ZL (Z1G b mb r a c L)).ok w) (f cn : Int) (hf : 1 ≤ f ∧ f ≤ 5) (x : Zg) (hx : ZbX x) (from_ : Int) (hL : L.length ≤ 1000) (hn : L.Nodup) (va : Option Addr) (vc : Nat) (xs : List Int) (hxs : ListAt Z3y 1 w (.slice va xs.length vc) xs) (hbd : ∀ x ∈ xs, 0 ≤ x ∧ x ≤ 18446744073709551615) (hva : 0 < xs.length → ∀ ad, va = some ad → ¬ (ZL (Z1G b mb r a c L)).fp ad.block) :
  Calls Tryz.prog 9 #[(.agg ⟨([(.pointer (some ⟨b, 0, none⟩)), (.pointer (some ⟨r, 0, none⟩))] : List Value)⟩), (.agg ⟨([(.int .i64 (f)), (.int .i64 (cn))] : List Value)⟩), (.agg ⟨(([(.int .i64 (x.cl)), (.int .i64 (x.seq))] : List Value) ++ hc x.h ++ ([(.int .i64 (x.len)), (.int .i64 (x.sb)), (.int .i64 (x.sm))] : List Value))⟩), (.int .i64 (from_)), (.slice va xs.length vc)] w fun e w' => ∃ (ra : Option Addr) (rc : Nat) (L1 : List Signed) (da : Option Addr) (dc : Nat) (D : List Za), e = .returned (.agg ⟨Z43 x ++ [.slice da D.length dc]⟩) ∧ (D.length : Int) = 2 * f + 1 ∧ (∀ s ∈ D, StB s) ∧ L1.Nodup ∧ L1.length ≤ L.length + 11 ∧ L <+: L1 ∧ Sat w [Z0 b 110 [.map (some mb)], ZQ mb Zz (Value.int .i64) (ZS L1), Z0 r 98 [.slice ra (L1).length rc], Zk 114 2 (.slice ra (L1).length rc) (L1).length ((L1).flatMap Z1N), Zk 101 38 (.slice da D.length dc) D.length (D.flatMap Z0q), Z7 w (ZL (Z1G b mb r a c L)).fp] w' := by
 have hwf := Z2B from_ (f + 1) (by omega)
 obtain ⟨Q, hQ⟩ : ∃ Q : Nat, (Q : Int) = 2 * f + 1 := ⟨(2 * f + 1).toNat, by omega⟩
 have H := Sat.start (Z1G b mb r a c L) hB
 refine Zh Tryz.func9 rfl 50 rfl (Nat.le_of_ble_eq_true rfl) ?_
 apply zsl
 refine zwd fun Kq kq => ?_
 refine zdb (Z1Q b r) H ?_
 intro b2 w3 H4
 refine kq _ _ ?_
 clear kq Kq
 refine zwd fun Kq kq => ?_
 refine zdb (Z2H f cn) H4 ?_
 intro b6 w7 H8
 refine kq _ _ ?_
 clear kq Kq
 refine zwd fun Kq kq => ?_
 refine zdb (Z1z x) H8 ?_
 intro b10 w11 H12
 refine kq _ _ ?_
 clear kq Kq
 refine zwd fun Kq kq => ?_
 refine zda (Z2I) H12 ?_
 intro b14 w15 H16
 refine kq _ _ ?_
 clear kq Kq
 apply Z2Q
 refine zwN 14 (Z1z x) (H16.at 7 rfl) ?_
 refine wv 15 (.agg ⟨(Z7x x)⟩) ?_
 refine zwd fun Kq kq => ?_
 refine zda (Z2I) H16 ?_
 intro b18 w19 H20
 refine kq _ _ ?_
 clear kq Kq
 refine zwd fun Kq kq => ?_
 refine Z1F (Z7x x) H20 9 ?_
 intro w22 H23
 refine kq _ _ ?_
 clear kq Kq
 apply Z2Q
 refine wv 16 (.int .i64 (from_)) ?_
 refine wv 17 (pt b6 0) ?_
 refine zw1 18 (.int .i64 (f)) (H23.cell 6 rfl rfl) ?_
 refine zwi 19 (f + 1) ?_
 refine zwd fun Kq kq => ?_
 refine zdq 20 (Z1t w22 from_ (f + 1) (by omega)) H23 ?_
 intro w26 H27
 refine kq _ _ ?_
 clear kq Kq
 refine wv 3 (.int .i64 (Z3 from_ (f + 1))) ?_
 apply znt
 apply Zd
 apply zsl
 refine wv 12 (.int .i64 (0)) ?_
 apply znt
 apply ZM
 have H29 := H27.addNil 101 38
 refine Z0b ([12, 13] ++ List.range' 21 28) (fun F_ W_ m_ => ∃ (i : Nat) (da : Option Addr) (dc : Nat) (D : List Za) (ra : Option Addr) (rc : Nat) (L1 : List Signed), F_ 12 = (.int .i64 ((i : Int))) ∧ (i ≤ Q) ∧ (∀ s ∈ D, StB s) ∧ (L1.Nodup) ∧ (L1.length ≤ L.length + i) ∧ (D.length = i) ∧ (L <+: L1) ∧ Sat w [Z0 b 110 (Z5B mb), (Z5C mb L1), Z0 r 98 (Z3F ra L1.length rc), (Z5D ra L1 rc), Z7 w (ZL (Z1G b mb r a c L)).fp, Z0 b2 40 (Z1Q b r), Z0 b6 36 (Z2H f cn), Z0 b10 50 (Z1z x), Z0 b14 53 (Z2I), Z0 b18 53 (Z2m x da D.length dc), (Z9y da D dc)] W_ ∧ m_ = Q - i) _ ⟨0, none, 0, [], a, c, L, (show ((.int .i64 (0)) : Value) = _ by first | rfl | go_num), (Nat.zero_le _), (by simp), hn, (by omega), rfl, (List.prefix_refl _), H29, rfl⟩ ?_
 rintro g30 w31 _ ⟨i, da, dc, D, ra, rc, L1, v33, hin, hok, hnd, hLl, hDl, hpre, H32, rfl⟩
 refine Zl 12 _ v33 ?_
 apply Zd
 apply zsl
 refine wv 21 (.int .i64 ((i : Int))) ?_
 refine zwN 22 (Z2H f cn) (H32.at 6 rfl) ?_
 refine zwd fun Kq kq => ?_
 refine zdq 23 (Zb1 w31 f cn (by omega)) H32 ?_
 intro w36 H37
 refine kq _ _ ?_
 clear kq Kq
 refine wv 24 (.bool (decide ((i : Int) < (2 * f + 1)))) ?_
 apply znt
 refine (Zr (decide ((i : Int) < (2 * f + 1)))).elim (fun b39 => ?_) (fun b39 => ?_)
 ·have g40 := of_decide_eq_true b39
  refine Z1V _ b39 ?_
  apply ZW
  apply ztn
  apply Zd
  apply ZM
  apply zsl
  refine wv 13 (.int .u64 (5)) ?_
  apply znt
  apply Zd
  apply zsl
  refine wv 27 (.int .i64 ((i : Int))) ?_
  refine wv 28 (.slice va xs.length vc) ?_
  refine wv 29 (.int .i64 ((xs.length : Int))) ?_
  refine wv 30 (.bool (decide ((i : Int) < (xs.length : Int)))) ?_
  apply znt
  refine (Zr (decide ((i : Int) < (xs.length : Int)))).elim (fun b42 => ?_) (fun b42 => ?_)
  ·have g43 := of_decide_eq_true b42
   refine Z1V _ b42 ?_
   have hx0 : 0 ≤ xs.getD i 0 := (hbd _ (Zan (by omega))).1
   apply Zq
   refine wv 31 (.slice va xs.length vc) ?_
   refine wv 32 (.int .i64 ((i : Int))) ?_
   obtain ⟨g45, o46, c47, e48, R49⟩ := SliceOf.atD hxs 0 (show i < xs.length by omega)
   refine wv 33 (.pointer (some ⟨g45, o46 + ((i : Int)).toNat * 1, none⟩)) ?_ (hr := ZV (E := 27) (by kernel_rfl) (by kernel_rfl) (Nat.le_of_ble_eq_true rfl) rfl e48 rfl (by omega) (by omega))
   refine zw1 34 (.int .u64 ((xs.getD i 0))) (H37.cellR 4 rfl (Z1H R49 0 (by kernel_rfl) (show o46 + ((i : Int)).toNat * 1 = o46 + i * 1 + 0 by omega)) (by have hq := hva (by omega) _ (Z3m e48); exact hq)) ?_
   refine wv 35 (.int .u64 ((xs.getD i 0) % 1000)) ?_ (hr := Z6U (by kernel_rfl) (by omega) (by omega))
   refine wv 36 (.int .u64 (1 + ((xs.getD i 0) % 1000))) ?_ (hr := Z0n (z := 1 + ((xs.getD i 0) % 1000)) (by kernel_rfl) (Z2v (by omega)))
   refine wv 13 (.int .u64 (1 + ((xs.getD i 0) % 1000))) ?_
   apply znt
   refine Z1o H37 [Z7 w (ZL (Z1G b mb r a c L)).fp, Z0 b2 40 (Z1Q b r), Z0 b6 36 (Z2H f cn), Z0 b10 50 (Z1z x), Z0 b14 53 (Z2I), Z0 b18 53 (Z2m x da D.length dc)] [12] 13 rfl (by kernel_rfl) (fun Hx => (Hx.pk [4, 5, 6, 7, 8, 9])) ?_
   intro w50 H51 S52
   refine zkp 0 S52 37 (pt b18 37) ?_
   refine zkv 1 S52 38 (.slice da D.length dc) ?_ (he := fun _ H' => (Z8 rfl (by kernel_rfl) (H'.cell 5 rfl (by kernel_rfl))))
   refine zkv 2 S52 39 (.agg ⟨(Z1Q b r)⟩) ?_ (he := fun _ H' => (Zi (vs := (Z1Q b r)) rfl (by kernel_rfl) (by kernel_rfl) (by exact Nat.le_of_ble_eq_true (by kernel_rfl)) (H'.at 1 rfl) (by kernel_rfl)))
   refine zkp 3 S52 40 (.int .i64 (Z3 from_ (f + 1))) ?_
   refine zkp 4 S52 41 (.int .i64 ((i : Int))) ?_
   refine zkp 5 S52 42 (.int .i64 ((Z3 from_ (f + 1)) + (i : Int))) ?_ (he := fun _ => (Z0n (z := (Z3 from_ (f + 1)) + (i : Int)) (by kernel_rfl) (IntWalk.i64_in _ (by omega))))
   refine zkv 6 S52 43 (.agg ⟨(Z1z x)⟩) ?_ (he := fun _ H' => (Zi (vs := (Z1z x)) rfl (by kernel_rfl) (by kernel_rfl) (by exact Nat.le_of_ble_eq_true (by kernel_rfl)) (H'.at 3 rfl) (by kernel_rfl)))
   refine zkp 7 S52 44 (.int .u64 (1 + ((xs.getD i 0) % 1000))) ?_
   refine Z3M 8 fun Kq kq => ?_
   refine zdc 45 (Z5u w50 b mb r ra rc L1 (H51.fn [0, 1, 2, 3]) ((Z3 from_ (f + 1)) + (i : Int)) x (1 + ((xs.getD i 0) % 1000)) (by omega) hx (by omega) (by omega) hnd) ?_
   rintro _ w54 ⟨a56, c57, rfl, T55⟩
   obtain ⟨L59, hL59⟩ : ∃ L59 : List Signed, L59 = Zp L1 (yS ((Z3 from_ (f + 1)) + (i : Int)) x (1 + ((xs.getD i 0) % 1000))) := ⟨_, rfl⟩
   rw [← hL59] at T55
   have H60 := H51.tl [Z0 b 110 (Z5B mb), (Z5C mb L59), Z0 r 98 (Z3F a56 L59.length c57), (Z5D a56 L59 c57)] [0, 1, 2, 3] [4, 5, 6, 7, 8, 9, 10] T55 [0, 1, 2, 3, 4, 5, 6, 7, 8, 9, 10]
   refine ⟨_, rfl, ?_⟩
   obtain ⟨S58, hS58⟩ : ∃ S58 : Za, S58 = mkS L1 ((Z3 from_ (f + 1)) + (i : Int)) x (1 + ((xs.getD i 0) % 1000)) := ⟨_, rfl⟩
   rw [← hS58]
   have ndL59 : L59.Nodup := by rw [hL59]; exact Z20 hnd _
   have llL59 : L59.length ≤ L1.length + 1 := by rw [hL59]; exact Z2a _ _
   have S61 := H60.pk [4, 5, 6, 7, 8, 9]
   refine kq _ _ S61 ?_
   clear kq Kq
   refine Z3M 9 fun Kq kq => ?_
   refine Z45 101 38 80 (.agg ⟨(([(.int .i64 (0)), (.int .i64 (0)), (.int .i64 (0))] : List Value) ++ hc Z04 ++ ([(.int .u64 (0)), (.int .i64 (0)), (.int .i64 (0))] : List Value))⟩) [(0, (.agg ⟨(Z2w S58)⟩))] (Z2w S58) H60 ?_
   intro b63 w64 H65
   have H66 := H65.ct 11 rfl (Zk 101 38 (.slice (some ⟨b63, 0, none⟩) 1 1) 1 ([S58].flatMap Z0q)) (by rw [(show ((Z2w S58) : List Value) = [S58].flatMap Z0q by kernel_rfl)])
   have S67 := H66.pk [4, 5, 6, 7, 8, 9]
   refine kq _ _ S67 ?_
   clear kq Kq
   refine Z3M 10 fun Kq kq => ?_
   refine Z11 (T := 51) (e := 101) (size := 38) (bytes := 80) rfl H66 (by kernel_rfl) 10 11 rfl rfl rfl rfl (Z0Q Z0q Z4q [S58]) (by omega) (by omega) ?_
   intro v69 w70 H71
   have H74 := H71.ct 10 rfl (Zk 101 38 v69 ((D ++ [S58]).length) ((D ++ [S58]).flatMap Z0q)) ja
   obtain ⟨a72, c73, rfl⟩ := Z6 (H74.at 10 rfl)
   have S75 := H74.pk [4, 5, 6, 7, 8, 9]
   refine kq _ _ S75 ?_
   clear kq Kq
   refine zkp 11 S75 48 (pt b18 37) ?_
   refine Z3j 12 (Sat w [Z7 w (ZL (Z1G b mb r a c L)).fp, Z0 b2 40 (Z1Q b r), Z0 b6 36 (Z2H f cn), Z0 b10 50 (Z1z x), Z0 b14 53 (Z2I)]) rfl (by kernel_rfl) (Z1 rfl) rfl (fun Kq kq => ?_)
   refine zds (Z3F a72 ((D ++ [S58]).length) c73) (Z2m x a72 ((D ++ [S58]).length) c73) H74 9 ?_
   intro w77 H78
   have S80 := H78.pk [4, 5, 6, 7, 8]
   refine kq _ _ S80 ?_
   clear kq Kq
   refine zhf ?_
   apply Zw
   apply ztn
   apply Zq
   refine wv 25 (.int .i64 ((i : Int))) ?_
   refine zwi 26 ((i : Int) + 1) ?_
   refine wv 12 (.int .i64 ((i : Int) + 1)) ?_
   apply Zn
   have hok2 : ∀ s ∈ (D ++ [S58]), StB s := fun s hs => by
    rcases List.mem_append.1 hs with h | h
    ·exact hok s h
    rw [List.mem_singleton.1 h, hS58]; exact ⟨⟨by show Z3 from_ (f + 1) + (i : Int) ≤ _; omega, hx.1, hx.2.1, by show 0 ≤ (1 + ((xs.getD i 0) % 1000)); omega, by show (1 + ((xs.getD i 0) % 1000)) < _; omega⟩, by show Z3 from_ (f + 1) + (i : Int) ≤ _; omega, by have q1 := (Z38 (Z4F L1 (yS (Z3 from_ (f + 1) + (i : Int)) x (1 + ((xs.getD i 0) % 1000))))).2; have q2 := Z2a L1 (yS (Z3 from_ (f + 1) + (i : Int)) x (1 + ((xs.getD i 0) % 1000))); show ZB _ _ ≤ _; omega⟩
   have H81 := H78.pk [0, 1, 2, 3, 4, 5, 6, 7, 8, 9, 10]
   refine ZF ?_ _ ⟨(i + 1), a72, c73, (D ++ [S58]), a56, c57, L59, rfl, (by omega), hok2, ndL59, (by omega), (by simp only [List.length_append, List.length_cons, List.length_nil]; omega), (by rw [hL59]; exact hpre.trans (by unfold Zp; split; exact List.prefix_refl _; exact List.prefix_append _ _)), H81, rfl⟩ (by omega)
   exact zs
  have g82 := of_decide_eq_false b42
  refine Z1w _ b42 ?_
  apply ZW
  apply ztn
  refine Z1o H37 [Z7 w (ZL (Z1G b mb r a c L)).fp, Z0 b2 40 (Z1Q b r), Z0 b6 36 (Z2H f cn), Z0 b10 50 (Z1z x), Z0 b14 53 (Z2I), Z0 b18 53 (Z2m x da D.length dc)] [12] 13 rfl (by kernel_rfl) (fun Hx => (Hx.pk [4, 5, 6, 7, 8, 9])) ?_
  intro w84 H85 S86
  refine zkp 0 S86 37 (pt b18 37) ?_
  refine zkv 1 S86 38 (.slice da D.length dc) ?_ (he := fun _ H' => (Z8 rfl (by kernel_rfl) (H'.cell 5 rfl (by kernel_rfl))))
  refine zkv 2 S86 39 (.agg ⟨(Z1Q b r)⟩) ?_ (he := fun _ H' => (Zi (vs := (Z1Q b r)) rfl (by kernel_rfl) (by kernel_rfl) (by exact Nat.le_of_ble_eq_true (by kernel_rfl)) (H'.at 1 rfl) (by kernel_rfl)))
  refine zkp 3 S86 40 (.int .i64 (Z3 from_ (f + 1))) ?_
  refine zkp 4 S86 41 (.int .i64 ((i : Int))) ?_
  refine zkp 5 S86 42 (.int .i64 ((Z3 from_ (f + 1)) + (i : Int))) ?_ (he := fun _ => (Z0n (z := (Z3 from_ (f + 1)) + (i : Int)) (by kernel_rfl) (IntWalk.i64_in _ (by omega))))
  refine zkv 6 S86 43 (.agg ⟨(Z1z x)⟩) ?_ (he := fun _ H' => (Zi (vs := (Z1z x)) rfl (by kernel_rfl) (by kernel_rfl) (by exact Nat.le_of_ble_eq_true (by kernel_rfl)) (H'.at 3 rfl) (by kernel_rfl)))
  refine zkp 7 S86 44 (.int .u64 (5)) ?_
  refine Z3M 8 fun Kq kq => ?_
  refine zdc 45 (Z5u w84 b mb r ra rc L1 (H85.fn [0, 1, 2, 3]) ((Z3 from_ (f + 1)) + (i : Int)) x (5 : Int) (by omega) hx (by omega) (by omega) hnd) ?_
  rintro _ w88 ⟨a90, c91, rfl, T89⟩
  obtain ⟨L93, hL93⟩ : ∃ L93 : List Signed, L93 = Zp L1 (yS ((Z3 from_ (f + 1)) + (i : Int)) x (5 : Int)) := ⟨_, rfl⟩
  rw [← hL93] at T89
  have H94 := H85.tl [Z0 b 110 (Z5B mb), (Z5C mb L93), Z0 r 98 (Z3F a90 L93.length c91), (Z5D a90 L93 c91)] [0, 1, 2, 3] [4, 5, 6, 7, 8, 9, 10] T89 [0, 1, 2, 3, 4, 5, 6, 7, 8, 9, 10]
  refine ⟨_, rfl, ?_⟩
  obtain ⟨S92, hS92⟩ : ∃ S92 : Za, S92 = mkS L1 ((Z3 from_ (f + 1)) + (i : Int)) x (5 : Int) := ⟨_, rfl⟩
  rw [← hS92]
  have ndL93 : L93.Nodup := by rw [hL93]; exact Z20 hnd _
  have llL93 : L93.length ≤ L1.length + 1 := by rw [hL93]; exact Z2a _ _
  have S95 := H94.pk [4, 5, 6, 7, 8, 9]
  refine kq _ _ S95 ?_
  clear kq Kq
  refine Z3M 9 fun Kq kq => ?_
  refine Z45 101 38 80 (.agg ⟨(([(.int .i64 (0)), (.int .i64 (0)), (.int .i64 (0))] : List Value) ++ hc Z04 ++ ([(.int .u64 (0)), (.int .i64 (0)), (.int .i64 (0))] : List Value))⟩) [(0, (.agg ⟨(Z2w S92)⟩))] (Z2w S92) H94 ?_
  intro b97 w98 H99
  have H100 := H99.ct 11 rfl (Zk 101 38 (.slice (some ⟨b97, 0, none⟩) 1 1) 1 ([S92].flatMap Z0q)) (by rw [(show ((Z2w S92) : List Value) = [S92].flatMap Z0q by kernel_rfl)])
  have S101 := H100.pk [4, 5, 6, 7, 8, 9]
  refine kq _ _ S101 ?_
  clear kq Kq
  refine Z3M 10 fun Kq kq => ?_
  refine Z11 (T := 51) (e := 101) (size := 38) (bytes := 80) rfl H100 (by kernel_rfl) 10 11 rfl rfl rfl rfl (Z0Q Z0q Z4q [S92]) (by omega) (by omega) ?_
  intro v103 w104 H105
  have H108 := H105.ct 10 rfl (Zk 101 38 v103 ((D ++ [S92]).length) ((D ++ [S92]).flatMap Z0q)) ja
  obtain ⟨a106, c107, rfl⟩ := Z6 (H108.at 10 rfl)
  have S109 := H108.pk [4, 5, 6, 7, 8, 9]
  refine kq _ _ S109 ?_
  clear kq Kq
  refine zkp 11 S109 48 (pt b18 37) ?_
  refine Z3j 12 (Sat w [Z7 w (ZL (Z1G b mb r a c L)).fp, Z0 b2 40 (Z1Q b r), Z0 b6 36 (Z2H f cn), Z0 b10 50 (Z1z x), Z0 b14 53 (Z2I)]) rfl (by kernel_rfl) (Z1 rfl) rfl (fun Kq kq => ?_)
  refine zds (Z3F a106 ((D ++ [S92]).length) c107) (Z2m x a106 ((D ++ [S92]).length) c107) H108 9 ?_
  intro w111 H112
  have S114 := H112.pk [4, 5, 6, 7, 8]
  refine kq _ _ S114 ?_
  clear kq Kq
  refine zhf ?_
  apply Zw
  apply ztn
  apply Zq
  refine wv 25 (.int .i64 ((i : Int))) ?_
  refine zwi 26 ((i : Int) + 1) ?_
  refine wv 12 (.int .i64 ((i : Int) + 1)) ?_
  apply Zn
  have hok2 : ∀ s ∈ (D ++ [S92]), StB s := fun s hs => by
   rcases List.mem_append.1 hs with h | h
   ·exact hok s h
   rw [List.mem_singleton.1 h, hS92]; exact ⟨⟨by show Z3 from_ (f + 1) + (i : Int) ≤ _; omega, hx.1, hx.2.1, by show 0 ≤ (5 : Int); omega, by show (5 : Int) < _; omega⟩, by show Z3 from_ (f + 1) + (i : Int) ≤ _; omega, by have q1 := (Z38 (Z4F L1 (yS (Z3 from_ (f + 1) + (i : Int)) x (5 : Int)))).2; have q2 := Z2a L1 (yS (Z3 from_ (f + 1) + (i : Int)) x (5 : Int)); show ZB _ _ ≤ _; omega⟩
  have H115 := H112.pk [0, 1, 2, 3, 4, 5, 6, 7, 8, 9, 10]
  refine ZF ?_ _ ⟨(i + 1), a106, c107, (D ++ [S92]), a90, c91, L93, rfl, (by omega), hok2, ndL93, (by omega), (by simp only [List.length_append, List.length_cons, List.length_nil]; omega), (by rw [hL93]; exact hpre.trans (by unfold Zp; split; exact List.prefix_refl _; exact List.prefix_append _ _)), H115, rfl⟩ (by omega)
  exact zs
 have g116 := of_decide_eq_false b39
 refine Z1w _ b39 ?_
 apply zxb
 apply ztn
 apply zsl
 refine zwN 49 (Z2m x da D.length dc) (H37.at 9 rfl) ?_
 refine zwd fun Kq kq => ?_
 refine Z1F (Z2m x da D.length dc) H37 8 ?_
 intro w119 H120
 refine kq _ _ ?_
 clear kq Kq
 apply znt
 apply ZI
 refine Z2e rfl (ZZ (vs := (Z2m x da D.length dc)) rfl (by kernel_rfl) (by kernel_rfl) (by exact Nat.le_of_ble_eq_true (by kernel_rfl)) (H120.at 8 rfl) (by kernel_rfl)) ?_
 exact ⟨ra, rc, L1, da, dc, D, rfl, by omega, hok, hnd, by omega, hpre, H120.pk [0, 1, 2, 3, 10, 4]⟩
end Go.Proofs.YtoaifondpohniaaGreat
