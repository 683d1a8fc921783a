/- WHAT IS PROVED: contracts and plain laws of Whole10M, Store10, Cert10. Conditions: stated with each. -/
import Derived.Test.YtenihpghfdcpkaaGreatPO02
import Derived.Test.YtenihpghfdcpkaaGreatPO05
import Derived.Test.YtenihpghfdcpkaaGreatPO06
import Derived.Test.YtenihpghfdcpkaaGreatPO14
import Derived.Test.YtenihpghfdcpkaaGreatPO19
import Derived.Test.YtenihpghfdcpkaaGreatPO21
import Derived.Test.YtenihpghfdcpkaaGreatPO40
import Derived.Test.YtenihpghfdcpkaaGreatPO41
set_option maxHeartbeats 4000000
set_option maxRecDepth 100000
namespace Go.Proofs.YtenihpghfdcpkaaGreat
open Go.RowKit
def GoodS (L : List Signed) (s : Z9) : Prop := s.sb = s.r ∧ (⟨s.r, Zx s⟩ : Signed) ∈ L ∧ s.sm = Zo L ⟨s.r, Zx s⟩
def Zf3 (L : List Signed) (c : Zg) : Prop := c.sb = 1000 + c.cl ∧ (⟨c.sb, Zp c⟩ : Signed) ∈ L ∧ c.sm = Zo L ⟨c.sb, Zp c⟩
theorem Z6M (L : List Signed) (cl seq : Int) (x : Hash) (p : List UInt8) : Zf3 (Zw L (yC cl seq x p)) (mkC L cl seq x p) := ⟨rfl, Z2I L (yC cl seq x p), rfl⟩
theorem Z7X {L : List Signed} {p m : Int} {s : List UInt8} (h : (⟨p, s⟩ : Signed) ∈ L) (hm : m = Zo L ⟨p, s⟩) : Z0x L p m s = true := by
 unfold Z0x
 rw [decide_eq_true_eq]
 exact ⟨(Z26 h).1, hm.symm⟩
theorem Za0 {f : Int} {L : List Signed} {s : Z9} (h : GoodS L s) (h0 : 0 ≤ s.r ∧ s.r < 3 * f + 1) (ht : 1 ≤ s.t ∧ s.t < 18446744073709551615) : Z1x f L s = true := by
 unfold Z1x inB
 rw [h.1, Z7X h.2.1 h.2.2, decide_eq_true h0.1, decide_eq_true h0.2, decide_eq_true ht.1, decide_eq_true ht.2, decide_eq_true rfl]
 rfl
structure WInv (y : Zg) (N k : Nat) (L : List Signed) (D : List Z9) (i : Nat) : Prop where
 all : ∀ s ∈ D, GoodS L s ∧ (1 ≤ s.t ∧ s.t ≤ 1000) ∧ (0 ≤ s.r ∧ s.r < N) ∧ s.cl ≤ 1000000 ∧ s.seq ≤ 1000000
 got : ∀ r : Nat, r < i → r ≠ k → ∃ s ∈ D, s.r = r ∧ Z35 s y = true
 no : ∀ s ∈ D, Z35 s y = true → s.r ≠ k
theorem WInv.start (y : Zg) (N k : Nat) (L : List Signed) : WInv y N k L [] 0 := ⟨by simp, fun r h => by omega, by simp⟩
section
variable {y : Zg} {N k Q : Nat} {f : Int} {L : List Signed} {D : List Z9}
theorem ZbH {r : Nat} (h : ∃ s ∈ D, s.r = r ∧ Z35 s y = true) : ∃ s, Z4C y D r = some s := by
 obtain ⟨s, hs, h1, h2⟩ := h
 cases hf : Z4C y D r with
 | some u => exact ⟨u, rfl⟩
 | none =>
  exfalso
  unfold Z4C at hf
  rw [List.find?_eq_none] at hf
  exact hf s hs (by simp [isR, h1, h2])
theorem WInv.len (h : WInv y N k L D N) : ∀ n, n ≤ N → (Z6V y D n).length = if k < n then n - 1 else n := fun n => by
 induction n with
 | zero => intro _; simp [Z6V]
 | succ n ih =>
  intro hn
  rw [Z9n, List.length_append, ih (by omega)]
  by_cases e : n = k
  ·subst e
   have : Z4C y D n = none := by
    cases hf : Z4C y D n with
    | none => rfl
    | some u =>
     obtain ⟨h1, h2, h3⟩ := Z3i hf
     exact absurd h1 (h.no u h3 h2)
   rw [this, if_neg (by omega), if_pos (by omega)]; simp
  ·obtain ⟨s, hs⟩ := ZbH (h.got n (by omega) e)
   rw [hs]
   by_cases hk : k < n
   ·rw [if_pos hk, if_pos (by omega)]; simp; omega
   ·rw [if_neg hk, if_neg (by omega)]; simp
theorem WInv.stamp (h : WInv y N k L D N) (hN : (N : Int) = 3 * f + 1) {s : Z9} (hs : s ∈ Z6V y D N) : s ∈ D ∧ Z35 s y = true ∧ s.r ≠ k ∧ Z1x f L s = true := by
 obtain ⟨_, hf⟩ := Z8o.1 hs
 obtain ⟨_, h2, h3⟩ := Z3i hf
 obtain ⟨g, ht, hr, _⟩ := h.all s h3
 exact ⟨h3, h2, h.no s h3 h2, Za0 g ⟨hr.1, by omega⟩ ⟨ht.1, by omega⟩⟩
theorem Z8W {S : List Z9} {i : Nat} (h : i < (S.take Q).length) : (S.take Q).getD i Zi ∈ S := by
 rw [List.getD_eq_getElem?_getD, List.getElem?_eq_getElem h]
 exact List.mem_of_mem_take (List.getElem_mem h)
theorem ZcV {x : Zg} {S : List Z9} (n : Nat) {i : Nat} (h0 : 0 < i) (h : i < ((Z6V x S n).take Q).length) : (((Z6V x S n).take Q).getD (i - 1) Zi).r < (((Z6V x S n).take Q).getD i Zi).r := by
 have hp := (Zan x S n).sublist (List.take_sublist Q _)
 have := List.pairwise_iff_getElem.1 hp (i - 1) i (by omega) h (by omega)
 have e1 : ((Z6V x S n).take Q).getD i Zi = ((Z6V x S n).take Q)[i] := by rw [List.getD_eq_getElem?_getD, List.getElem?_eq_getElem h]; rfl
 have e2 : ((Z6V x S n).take Q).getD (i - 1) Zi = ((Z6V x S n).take Q)[i - 1]'(by omega) := by rw [List.getD_eq_getElem?_getD, List.getElem?_eq_getElem (show i - 1 < ((Z6V x S n).take Q).length by omega)]; rfl
 rw [e1, e2]
 exact this
theorem WInv.right (h : WInv y N k L D N) (hN : (N : Int) = 3 * f + 1) (hQ : (Q : Int) = 2 * f + 1) (hl : Q ≤ (Z6V y D N).length) {cn : Int} (hc : Z2A cn L y = true) : Z0r f cn L y ((Z6V y D N).take Q) = true := by
 have hlen : ((Z6V y D N).take Q).length = Q := by rw [List.length_take]; omega
 unfold Z0r
 rw [hc, hlen, decide_eq_true hQ, Bool.true_and, Bool.true_and]
 refine Z1B fun i hi => ?_
 have hi' : i < ((Z6V y D N).take Q).length := by omega
 obtain ⟨_, h2, _, h4⟩ := h.stamp hN (Z8W hi')
 unfold Z3T
 rw [h2, h4, Bool.and_true, Bool.and_true]
 by_cases h0 : i = 0
 ·subst h0; rfl
 ·have := ZcV (x := y) (S := D) (Q := Q) N (show 0 < i by omega) hi'
  rw [Bool.or_eq_true]
  right
  rw [Bool.not_eq_true', decide_eq_false_iff_not]
  omega
end
theorem Z1Y {L : List Signed} (h : L.Nodup) (y : Signed) : (Zw L y).Nodup := by
 unfold Zw; split
 ·exact h
 ·rename_i hn
  rw [List.nodup_append]; exact ⟨h, by simp, fun x hx z hz => by rw [List.mem_singleton.1 hz]; exact fun e => hn (e ▸ hx)⟩
theorem WInv.ok {y : Zg} {N k Q : Nat} {L : List Signed} {D : List Z9} (h : WInv y N k L D N) (hN : N ≤ 1000) : Zfg ((Z6V y D N).take Q) := fun i hi => by
 obtain ⟨_, hf⟩ := Z8o.1 (Z8W hi)
 obtain ⟨_, _, h3⟩ := Z3i hf
 obtain ⟨_, h4, h5, h6, h7⟩ := h.all _ h3
 exact ⟨by omega, by omega, by omega, by omega, by omega⟩
theorem Z9Z {a a' : Option Addr} {n c n' c' : Nat} (h : Value.slice a n c = .slice a' n' c') : a = a' := by simp only [Value.slice.injEq] at h; exact h.1
theorem Z3R {α : Type} {enc : α → List Value} {sz : Nat} (hs : ∀ x, (enc x).length = sz) (h0 : 0 < sz) {W w : World} {G : List Ck} (H : Sat W G w) (is : List Nat) (j : Nat) {B : List Ck} (hB : (is.filterMap fun i => G[i]?) = B) (hj : G[j]? = some (ZF W fun _ => False)) (hne : is.all (fun i => !Nat.beq i j) = true) {va : Option Addr} {n vc : Nat} {ls : List α} (hv : ListAt enc sz W (.slice va n vc) ls) : 0 < ls.length → ∀ a, va = some a → ¬ (Z04 B).fp a.block := by
 intro h1 a ha hfp
 obtain ⟨vb, vo, vc', hva, hvs⟩ := hv.cells hs h0 h1
 have h2 := Z9Z hva
 rw [h2] at ha
 obtain rfl := (Option.some.inj ha)
 have hl : 0 < (ls.flatMap enc).length := by rw [Z0T enc sz hs]; exact Nat.mul_pos h1 h0
 have hc := hvs 0 _ (List.getElem?_eq_getElem hl)
 rw [Addr.add_lit] at hc
 have hlt := World.block_lt_of_cell? W _ hc
 subst hB
 obtain ⟨A, hA, hAf⟩ := hfp
 obtain ⟨i, hi, he⟩ := List.mem_filterMap.1 hA
 have hij : Nat.beq i j = false := by simpa using List.all_eq_true.1 hne i hi
 exact H.apart i j he hj hij _ hAf ⟨hlt, fun h => h⟩
section
variable {P : Program} {ops : Array Oper} {Q : Exit → Act → World → Prop} {md : Region.Mode} {S : World → Prop} {B : Nat → Bool}
end
section
variable {P : Program} {n : Nat} {f : Nat → Value} {w w0 : World} {dst : Option Tmp} {ty : TypeId} {pos : String} {aft : Array Edge} {gd : Option (Nat × Bool)} {K : Act → World → Prop} {Q : Exit → Act → World → Prop} {G : List Ck}
end
abbrev Z7c (p0 : Nat) : List Value := ([(.map (some p0))] : LV)
abbrev Z7s (p0 : Nat) (p1 : List Signed) : Ck := Z0u p0 ZZ (Value.int .i64) (Z0c p1)
abbrev Z4x (p0 : Option Addr) (p1 : Nat) (p2 : Nat) : List Value := ([(.slice p0 p1 p2)] : LV)
abbrev Z75 (p0 : Option Addr) (p1 : List Signed) (p2 : Nat) : Ck := Zh 181 2 (.slice p0 p1.length p2) p1.length (p1.flatMap Z4R)
abbrev Z2m (p0 : Nat) (p1 : Nat) : List Value := ([(pt p0 0), (pt p1 0)] : LV)
abbrev Z3l (p0 : Int) (p1 : Int) : List Value := ([i6 p0, i6 p1] : LV)
abbrev Z23 (p0 : Zg) : List Value := ([i6 p0.cl, i6 p0.seq] : LV) ++ hc p0.h ++ ([i6 p0.len, i6 p0.sb, i6 p0.sm] : LV)
abbrev Z3m : List Value := ([i6 0, i6 0] : LV) ++ hc ZC ++ ([i6 0, i6 0, i6 0, (.slice none 0 0)] : LV)
abbrev Z98 (p0 : Zg) : List Value := ([i6 p0.cl, i6 p0.seq] : LV) ++ hc p0.h ++ ([i6 p0.len, i6 p0.sb, i6 p0.sm, (.slice none 0 0)] : LV)
abbrev Z2Z (p0 : Zg) (p1 : Option Addr) (p2 : Nat) (p3 : Nat) : List Value := ([i6 p0.cl, i6 p0.seq] : LV) ++ hc p0.h ++ ([i6 p0.len, i6 p0.sb, i6 p0.sm, (.slice p1 p2 p3)] : LV)
abbrev Zco (p0 : Option Addr) (p1 : List Z9) (p2 : Nat) : Ck := Zh 149 38 (.slice p0 p1.length p2) p1.length (p1.flatMap Z1T)
abbrev Z3d (p0 : Z9) : List Value := ([i6 p0.r, i6 p0.cl, i6 p0.seq] : LV) ++ hc p0.h ++ ([u6 p0.t, i6 p0.sb, i6 p0.sm] : LV)
theorem Z2t {va : Option Addr} {n c n' c' : Nat} {ad : Addr} (h : Value.slice va n c = .slice (some ad) n' c') : va = some ad := by
 simp only [Value.slice.injEq] at h; exact h.1
theorem ZcI {xs : List Int} {i : Nat} (h : i < xs.length) : xs.getD i 0 ∈ xs := by
 rw [List.getD_eq_getElem?_getD, List.getElem?_eq_getElem h]; exact List.getElem_mem h
theorem Z4M (w : World) (b mb r : Nat) (a : Option Addr) (c : Nat) (L : List Signed) (hB : (Z04 (Z08 b mb r a c L)).ok w) (f cn : Int) (hf : 1 ≤ f ∧ f ≤ 5) (x : Zg) (hx : ZcK x) (from_ : Int) (hL : L.length ≤ 1000) (hn : L.Nodup) (va : Option Addr) (vc : Nat) (xs : List Int) (hxs : ListAt Z4j 1 w (.slice va xs.length vc) xs) (hbd : ∀ x ∈ xs, 0 ≤ x ∧ x ≤ 18446744073709551615) (hva : 0 < xs.length → ∀ ad, va = some ad → ¬ (Z04 (Z08 b mb r a c L)).fp ad.block) :
  Calls Tryz.prog 32 #[(.agg ⟨([zp b, zp r] : LV)⟩), (.agg ⟨([i6 f, i6 cn] : LV)⟩), (.agg ⟨(([i6 x.cl, i6 x.seq] : LV) ++ hc x.h ++ ([i6 x.len, i6 x.sb, i6 x.sm] : LV))⟩), i6 from_, (.slice va xs.length vc)] w fun e w' => ∃ (ra : Option Addr) (rc : Nat) (L1 : List Signed) (da : Option Addr) (dc : Nat) (D : List Z9), e = .returned (.agg ⟨Zax x ++ [.slice da D.length dc]⟩) ∧ (D.length : Int) = 2 * f + 1 ∧ (∀ s ∈ D, StB s) ∧ L1.Nodup ∧ L1.length ≤ L.length + 11 ∧ L <+: L1 ∧ Sat w [Z0 b 179 [.map (some mb)], Z0u mb ZZ (Value.int .i64) (Z0c L1), Z0 r 165 [.slice ra (L1).length rc], Zh 181 2 (.slice ra (L1).length rc) (L1).length ((L1).flatMap Z4R), Zh 149 38 (.slice da D.length dc) D.length (D.flatMap Z1T), ZF w (Z04 (Z08 b mb r a c L)).fp] w' := by
 have hwf := Z2b from_ (f + 1) om
 obtain ⟨Q, hQ⟩ : ∃ Q : Nat, (Q : Int) = 2 * f + 1 := ⟨(2 * f + 1).toNat, by omega⟩
 have H := Sat.start (Z08 b mb r a c L) hB
 refine Za Tryz.func32 rfl 50 rfl kn ?_
 refine zsl <| zy <| zdb (Z2m b r) H fun b2 w3 H4 => ?_
 refine kk <| zy <| zdb (Z3l f cn) H4 fun b6 w7 H8 => ?_
 refine kk <| zy <| zdb (Z23 x) H8 fun b10 w11 H12 => ?_
 refine kk <| zy <| zda (Z3m) H12 fun b14 w15 H16 => ?_
 refine kk <| Z0G <| zwN 14 (Z23 x) (H16.at 7 rfl) <| wv 15 (.agg ⟨(Z98 x)⟩) <| zy <| zda (Z3m) H16 fun b18 w19 H20 => ?_
 refine kk <| zy <| Z1p (Z98 x) H20 9 fun w22 H23 => ?_
 refine kk <| Z0G <| wv 16 (vi from_) <| wv 17 (pt b6 0) <| zw1 18 (vi f) (H23.cell 6 rfl rfl) <| zwi 19 (f + 1) <| zy <| zdq 20 (Z3f w22 from_ (f + 1) om) H23 fun w26 H27 => ?_
 refine kk <| wv 3 (vi (Z2 from_ (f + 1))) <| znt <| Z7 <| zsl <| wv 12 (vi 0) <| znt <| Zc ?_
 have H29 := H27.addNil 149 38
 refine Zq ([12, 13] ++ List.range' 21 28) (fun F_ W_ m_ => ∃ (i : Nat) (da : Option Addr) (dc : Nat) (D : List Z9) (ra : Option Addr) (rc : Nat) (L1 : List Signed), F_ 12 = (vi i) ∧ (i ≤ Q) ∧ (∀ s ∈ D, StB s) ∧ (L1.Nodup) ∧ (L1.length ≤ L.length + i) ∧ (D.length = i) ∧ (L <+: L1) ∧ Sat w [Z0 b 179 (Z7c mb), (Z7s mb L1), Z0 r 165 (Z4x ra L1.length rc), (Z75 ra L1 rc), ZF w (Z04 (Z08 b mb r a c L)).fp, Z0 b2 33 (Z2m b r), Z0 b6 29 (Z3l f cn), Z0 b10 73 (Z23 x), Z0 b14 76 (Z3m), Z0 b18 76 (Z2Z x da D.length dc), (Zco da D dc)] W_ ∧ m_ = Q - i) _ ⟨0, none, 0, [], a, c, L, (show ((vi 0) : Value) = _ by first | rfl | go_num), (Nat.zero_le _), (by simp), hn, om, rfl, (List.prefix_refl _), H29, rfl⟩ ?_
 rintro g30 w31 _ ⟨i, da, dc, D, ra, rc, L1, v33, hin, hok, hnd, hLl, hDl, hpre, H32, rfl⟩
 refine Ze 12 _ v33 ?_
 refine Z7 <| zsl <| wv 21 (vi i) <| zwN 22 (Z3l f cn) (H32.at 6 rfl) <| zy <| zdq 23 (ZaZ w31 f cn om) H32 fun w36 H37 => ?_
 refine kk <| wv 24 (.bool (decide ((i : Int) < (2 * f + 1)))) <| znt ?_
 refine zid (fun b39 g40 => ?_) fun b39 g116 => ?_
 ·refine Zm <| ztn <| Z7 <| Zc <| zsl <| wv 13 (vu 5) <| znt <| Z7 <| zsl <| wv 27 (vi i) ?_
  refine wv 28 (.slice va xs.length vc) <| wv 29 (vi xs.length) <| wv 30 (.bool (decide ((i : Int) < xs.length))) <| znt ?_
  refine zid (fun b42 g43 => ?_) fun b42 g82 => ?_
  ·have hx0 : 0 ≤ xs.getD i 0 := (hbd _ (ZcI om)).1
   refine Zl <| wv 31 (.slice va xs.length vc) <| wv 32 (vi i) ?_
   obtain ⟨g45, o46, c47, e48, R49⟩ := SliceOf.atD hxs 0 (show i < xs.length by omega)
   refine wv 33 (.pointer (some ⟨g45, o46 + ((i : Int)).toNat * 1, none⟩)) ?_ (hr := Zd (E := 25) kr kr kn rfl e48 rfl om om)
   refine zw1 34 (vu (xs.getD i 0)) (H37.cellR 4 rfl (Z0o R49 0 kr (show o46 + ((i : Int)).toNat * 1 = o46 + i * 1 + 0 by omega)) (by have hq := hva om _ (Z2t e48); exact hq)) <| wv 35 (vu ((xs.getD i 0) % 1000)) ?_ (hr := Z91 kr om om)
   refine wv 36 (vu (1 + ((xs.getD i 0) % 1000))) ?_ (hr := Z0q (z := 1 + ((xs.getD i 0) % 1000)) kr (Z1s om))
   refine wv 13 (vu (1 + ((xs.getD i 0) % 1000))) <| znt <| Z1j H37 [ZF w (Z04 (Z08 b mb r a c L)).fp, Z0 b2 33 (Z2m b r), Z0 b6 29 (Z3l f cn), Z0 b10 73 (Z23 x), Z0 b14 76 (Z3m), Z0 b18 76 (Z2Z x da D.length dc)] [12] 13 rfl kr (fun Hx => (Hx.pk [4, 5, 6, 7, 8, 9])) fun w50 H51 S52 => ?_
   refine zkp 0 S52 37 (pt b18 37) <| zkv 1 S52 38 (.slice da D.length dc) ?_ (he := fun _ H' => (zl1 (H'.cell 5 rfl kr)))
   refine zkv 2 S52 39 (.agg ⟨(Z2m b r)⟩) ?_ (he := fun _ H' => (zlN (vs := (Z2m b r)) (H'.at 1 rfl)))
   refine zkp 3 S52 40 (vi (Z2 from_ (f + 1))) <| zkp 4 S52 41 (vi i) <| zkp 5 S52 42 (vi ((Z2 from_ (f + 1)) + (i : Int))) ?_ (he := fun _ => (Z0q (z := (Z2 from_ (f + 1)) + (i : Int)) kr (IntWalk.i64_in _ om)))
   refine zkv 6 S52 43 (.agg ⟨(Z23 x)⟩) ?_ (he := fun _ H' => (zlN (vs := (Z23 x)) (H'.at 3 rfl)))
   refine zkp 7 S52 44 (vu (1 + ((xs.getD i 0) % 1000))) <| zky 8 ?_
   refine zdc 45 (Z6G w50 b mb r ra rc L1 (H51.fn [0, 1, 2, 3]) ((Z2 from_ (f + 1)) + (i : Int)) x (1 + ((xs.getD i 0) % 1000)) om hx om om hnd) ?_
   rintro _ w54 ⟨a56, c57, rfl, T55⟩
   obtain ⟨L59, hL59⟩ : ∃ L59 : List Signed, L59 = Zw L1 (yS ((Z2 from_ (f + 1)) + (i : Int)) x (1 + ((xs.getD i 0) % 1000))) := ⟨_, rfl⟩
   rw [← hL59] at T55
   have H60 := H51.tl [Z0 b 179 (Z7c mb), (Z7s mb L59), Z0 r 165 (Z4x a56 L59.length c57), (Z75 a56 L59 c57)] [0, 1, 2, 3] [4, 5, 6, 7, 8, 9, 10] T55 [0, 1, 2, 3, 4, 5, 6, 7, 8, 9, 10]
   refine ⟨_, rfl, ?_⟩
   obtain ⟨S58, hS58⟩ : ∃ S58 : Z9, S58 = mkS L1 ((Z2 from_ (f + 1)) + (i : Int)) x (1 + ((xs.getD i 0) % 1000)) := ⟨_, rfl⟩
   rw [← hS58]
   have ndL59 : L59.Nodup := by rw [hL59]; exact Z1Y hnd _
   have llL59 : L59.length ≤ L1.length + 1 := by rw [hL59]; exact Z2j _ _
   have S61 := H60.pk [4, 5, 6, 7, 8, 9]
   refine ke S61 <| zky 9 ?_
   refine Z2J 149 38 80 (.agg ⟨(([(vi 0), (vi 0), (vi 0)] : LV) ++ hc ZC ++ ([(vu 0), (vi 0), (vi 0)] : LV))⟩) [(0, (.agg ⟨(Z3d S58)⟩))] (Z3d S58) H60 ?_
   intro b63 w64 H65
   have H66 := H65.ct 11 rfl (Zh 149 38 (.slice (some ⟨b63, 0, none⟩) 1 1) 1 ([S58].flatMap Z1T)) (by rw [(show ((Z3d S58) : LV) = [S58].flatMap Z1T by kernel_rfl)])
   have S67 := H66.pk [4, 5, 6, 7, 8, 9]
   refine ke S67 <| zky 10 ?_
   refine Z0g (T := 74) (e := 149) (size := 38) (bytes := 80) rfl H66 kr 10 11 rfl rfl rfl rfl (Z07 Z1T Z7p [S58]) om om ?_
   intro v69 w70 H71
   have H74 := H71.ct 10 rfl (Zh 149 38 v69 ((D ++ [S58]).length) ((D ++ [S58]).flatMap Z1T)) ja
   obtain ⟨a72, c73, rfl⟩ := Z1 (H74.at 10 rfl)
   have S75 := H74.pk [4, 5, 6, 7, 8, 9]
   refine ke S75 <| zkp 11 S75 48 (pt b18 37) <| Z3s 12 (Sat w [ZF w (Z04 (Z08 b mb r a c L)).fp, Z0 b2 33 (Z2m b r), Z0 b6 29 (Z3l f cn), Z0 b10 73 (Z23 x), Z0 b14 76 (Z3m)]) rfl kr (Z8 rfl) rfl (fun Kq kq => ?_)
   refine zds (Z4x a72 ((D ++ [S58]).length) c73) (Z2Z x a72 ((D ++ [S58]).length) c73) H74 9 ?_
   intro w77 H78
   have S80 := H78.pk [4, 5, 6, 7, 8]
   refine kq _ _ S80 <| zhf <| Z6 <| ztn <| Zl <| wv 25 (vi i) <| zwi 26 ((i : Int) + 1) <| wv 12 (vi ((i : Int) + 1)) <| Zn ?_
   have hok2 : ∀ s ∈ (D ++ [S58]), StB s := fun s hs => by
    rcases List.mem_append.1 hs with h | h
    ·exact hok s h
    rw [List.mem_singleton.1 h, hS58]; exact ⟨⟨by show Z2 from_ (f + 1) + (i : Int) ≤ _; omega, hx.1, hx.2.1, by show 0 ≤ (1 + ((xs.getD i 0) % 1000)); omega, by show (1 + ((xs.getD i 0) % 1000)) < _; omega⟩, by show Z2 from_ (f + 1) + (i : Int) ≤ _; omega, by have q1 := (Z26 (Z2I L1 (yS (Z2 from_ (f + 1) + (i : Int)) x (1 + ((xs.getD i 0) % 1000))))).2; have q2 := Z2j L1 (yS (Z2 from_ (f + 1) + (i : Int)) x (1 + ((xs.getD i 0) % 1000))); show Zo _ _ ≤ _; omega⟩
   have H81 := H78.pk [0, 1, 2, 3, 4, 5, 6, 7, 8, 9, 10]
   refine Z5 ?_ _ ⟨(i + 1), a72, c73, (D ++ [S58]), a56, c57, L59, rfl, om, hok2, ndL59, om, (by simp only [List.length_append, List.length_cons, List.length_nil]; omega), (by rw [hL59]; exact hpre.trans (by unfold Zw; split; exact List.prefix_refl _; exact List.prefix_append _ _)), H81, rfl⟩ om
   exact zs
  refine Zm <| ztn <| Z1j H37 [ZF w (Z04 (Z08 b mb r a c L)).fp, Z0 b2 33 (Z2m b r), Z0 b6 29 (Z3l f cn), Z0 b10 73 (Z23 x), Z0 b14 76 (Z3m), Z0 b18 76 (Z2Z x da D.length dc)] [12] 13 rfl kr (fun Hx => (Hx.pk [4, 5, 6, 7, 8, 9])) fun w84 H85 S86 => ?_
  refine zkp 0 S86 37 (pt b18 37) <| zkv 1 S86 38 (.slice da D.length dc) ?_ (he := fun _ H' => (zl1 (H'.cell 5 rfl kr)))
  refine zkv 2 S86 39 (.agg ⟨(Z2m b r)⟩) ?_ (he := fun _ H' => (zlN (vs := (Z2m b r)) (H'.at 1 rfl)))
  refine zkp 3 S86 40 (vi (Z2 from_ (f + 1))) <| zkp 4 S86 41 (vi i) <| zkp 5 S86 42 (vi ((Z2 from_ (f + 1)) + (i : Int))) ?_ (he := fun _ => (Z0q (z := (Z2 from_ (f + 1)) + (i : Int)) kr (IntWalk.i64_in _ om)))
  refine zkv 6 S86 43 (.agg ⟨(Z23 x)⟩) ?_ (he := fun _ H' => (zlN (vs := (Z23 x)) (H'.at 3 rfl)))
  refine zkp 7 S86 44 (vu 5) <| zky 8 ?_
  refine zdc 45 (Z6G w84 b mb r ra rc L1 (H85.fn [0, 1, 2, 3]) ((Z2 from_ (f + 1)) + (i : Int)) x (5 : Int) om hx om om hnd) ?_
  rintro _ w88 ⟨a90, c91, rfl, T89⟩
  obtain ⟨L93, hL93⟩ : ∃ L93 : List Signed, L93 = Zw L1 (yS ((Z2 from_ (f + 1)) + (i : Int)) x (5 : Int)) := ⟨_, rfl⟩
  rw [← hL93] at T89
  have H94 := H85.tl [Z0 b 179 (Z7c mb), (Z7s mb L93), Z0 r 165 (Z4x a90 L93.length c91), (Z75 a90 L93 c91)] [0, 1, 2, 3] [4, 5, 6, 7, 8, 9, 10] T89 [0, 1, 2, 3, 4, 5, 6, 7, 8, 9, 10]
  refine ⟨_, rfl, ?_⟩
  obtain ⟨S92, hS92⟩ : ∃ S92 : Z9, S92 = mkS L1 ((Z2 from_ (f + 1)) + (i : Int)) x (5 : Int) := ⟨_, rfl⟩
  rw [← hS92]
  have ndL93 : L93.Nodup := by rw [hL93]; exact Z1Y hnd _
  have llL93 : L93.length ≤ L1.length + 1 := by rw [hL93]; exact Z2j _ _
  have S95 := H94.pk [4, 5, 6, 7, 8, 9]
  refine ke S95 <| zky 9 ?_
  refine Z2J 149 38 80 (.agg ⟨(([(vi 0), (vi 0), (vi 0)] : LV) ++ hc ZC ++ ([(vu 0), (vi 0), (vi 0)] : LV))⟩) [(0, (.agg ⟨(Z3d S92)⟩))] (Z3d S92) H94 ?_
  intro b97 w98 H99
  have H100 := H99.ct 11 rfl (Zh 149 38 (.slice (some ⟨b97, 0, none⟩) 1 1) 1 ([S92].flatMap Z1T)) (by rw [(show ((Z3d S92) : LV) = [S92].flatMap Z1T by kernel_rfl)])
  have S101 := H100.pk [4, 5, 6, 7, 8, 9]
  refine ke S101 <| zky 10 ?_
  refine Z0g (T := 74) (e := 149) (size := 38) (bytes := 80) rfl H100 kr 10 11 rfl rfl rfl rfl (Z07 Z1T Z7p [S92]) om om ?_
  intro v103 w104 H105
  have H108 := H105.ct 10 rfl (Zh 149 38 v103 ((D ++ [S92]).length) ((D ++ [S92]).flatMap Z1T)) ja
  obtain ⟨a106, c107, rfl⟩ := Z1 (H108.at 10 rfl)
  have S109 := H108.pk [4, 5, 6, 7, 8, 9]
  refine ke S109 <| zkp 11 S109 48 (pt b18 37) <| Z3s 12 (Sat w [ZF w (Z04 (Z08 b mb r a c L)).fp, Z0 b2 33 (Z2m b r), Z0 b6 29 (Z3l f cn), Z0 b10 73 (Z23 x), Z0 b14 76 (Z3m)]) rfl kr (Z8 rfl) rfl (fun Kq kq => ?_)
  refine zds (Z4x a106 ((D ++ [S92]).length) c107) (Z2Z x a106 ((D ++ [S92]).length) c107) H108 9 ?_
  intro w111 H112
  have S114 := H112.pk [4, 5, 6, 7, 8]
  refine kq _ _ S114 <| zhf <| Z6 <| ztn <| Zl <| wv 25 (vi i) <| zwi 26 ((i : Int) + 1) <| wv 12 (vi ((i : Int) + 1)) <| Zn ?_
  have hok2 : ∀ s ∈ (D ++ [S92]), StB s := fun s hs => by
   rcases List.mem_append.1 hs with h | h
   ·exact hok s h
   rw [List.mem_singleton.1 h, hS92]; exact ⟨⟨by show Z2 from_ (f + 1) + (i : Int) ≤ _; omega, hx.1, hx.2.1, by show 0 ≤ (5 : Int); omega, by show (5 : Int) < _; omega⟩, by show Z2 from_ (f + 1) + (i : Int) ≤ _; omega, by have q1 := (Z26 (Z2I L1 (yS (Z2 from_ (f + 1) + (i : Int)) x (5 : Int)))).2; have q2 := Z2j L1 (yS (Z2 from_ (f + 1) + (i : Int)) x (5 : Int)); show Zo _ _ ≤ _; omega⟩
  have H115 := H112.pk [0, 1, 2, 3, 4, 5, 6, 7, 8, 9, 10]
  refine Z5 ?_ _ ⟨(i + 1), a106, c107, (D ++ [S92]), a90, c91, L93, rfl, om, hok2, ndL93, om, (by simp only [List.length_append, List.length_cons, List.length_nil]; omega), (by rw [hL93]; exact hpre.trans (by unfold Zw; split; exact List.prefix_refl _; exact List.prefix_append _ _)), H115, rfl⟩ om
  exact zs
 refine zxb <| ztn <| zsl <| zwN 49 (Z2Z x da D.length dc) (H37.at 9 rfl) <| zy <| Z1p (Z2Z x da D.length dc) H37 8 fun w119 H120 => ?_
 refine kk <| znt <| Zk <| Z5k rfl (ZP (vs := (Z2Z x da D.length dc)) rfl kr kr kn (H120.at 8 rfl) kr) ?_
 exact ⟨ra, rc, L1, da, dc, D, rfl, by omega, hok, hnd, by omega, hpre, H120.pk [0, 1, 2, 3, 10, 4]⟩
end Go.Proofs.YtenihpghfdcpkaaGreat
