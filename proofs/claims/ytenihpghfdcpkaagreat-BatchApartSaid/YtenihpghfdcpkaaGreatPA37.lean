/- WHAT IS PROVED: contracts and plain laws of Whole10M, Store10, Cert10. Conditions: stated with each. -/
import Derived.Test.YtenihpghfdcpkaaGreatPA05
import Derived.Test.YtenihpghfdcpkaaGreatPA06
import Derived.Test.YtenihpghfdcpkaaGreatPA09
import Derived.Test.YtenihpghfdcpkaaGreatPA20
import Derived.Test.YtenihpghfdcpkaaGreatPA32
import Derived.Test.YtenihpghfdcpkaaGreatPA35
import Derived.Test.YtenihpghfdcpkaaGreatPA36
set_option maxHeartbeats 4000000
set_option maxRecDepth 100000
namespace Go.Proofs.YtenihpghfdcpkaaGreat
open Go.RowKit
def GoodS (L : List Signed) (s : Z4) : Prop := s.sb = s.r ∧ (⟨s.r, Zv s⟩ : Signed) ∈ L ∧ s.sm = Ze L ⟨s.r, Zv s⟩
def Zei (L : List Signed) (c : Z9) : Prop := c.sb = 1000 + c.cl ∧ (⟨c.sb, Zo c⟩ : Signed) ∈ L ∧ c.sm = Ze L ⟨c.sb, Zo c⟩
theorem Z6R (L : List Signed) (cl seq : Int) (x : Hash) (p : List UInt8) : Zei (Zg L (yC cl seq x p)) (mkC L cl seq x p) := ⟨rfl, Z2m L (yC cl seq x p), rfl⟩
theorem Z7r {L : List Signed} {p m : Int} {s : List UInt8} (h : (⟨p, s⟩ : Signed) ∈ L) (hm : m = Ze L ⟨p, s⟩) : Z0M L p m s = true := by
 unfold Z0M
 rw [decide_eq_true_eq]
 exact ⟨(Z1S h).1, hm.symm⟩
theorem Zac {f : Int} {L : List Signed} {s : Z4} (h : GoodS L s) (h0 : 0 ≤ s.r ∧ s.r < 3 * f + 1) (ht : 1 ≤ s.t ∧ s.t < 18446744073709551615) : Z1Y f L s = true := by
 unfold Z1Y inB
 rw [h.1, Z7r h.2.1 h.2.2, decide_eq_true h0.1, decide_eq_true h0.2, decide_eq_true ht.1, decide_eq_true ht.2, decide_eq_true rfl]
 rfl
structure WInv (y : Z9) (N k : Nat) (L : List Signed) (D : List Z4) (i : Nat) : Prop where
 all : ∀ s ∈ D, GoodS L s ∧ (1 ≤ s.t ∧ s.t ≤ 1000) ∧ (0 ≤ s.r ∧ s.r < N) ∧ s.cl ≤ 1000000 ∧ s.seq ≤ 1000000
 got : ∀ r : Nat, r < i → r ≠ k → ∃ s ∈ D, s.r = r ∧ Z54 s y = true
 no : ∀ s ∈ D, Z54 s y = true → s.r ≠ k
theorem WInv.start (y : Z9) (N k : Nat) (L : List Signed) : WInv y N k L [] 0 := ⟨by simp, fun r h => by omega, by simp⟩
section
variable {y : Z9} {N k Q : Nat} {f : Int} {L : List Signed} {D : List Z4}
theorem Zbt {r : Nat} (h : ∃ s ∈ D, s.r = r ∧ Z54 s y = true) : ∃ s, Z4E y D r = some s := by
 obtain ⟨s, hs, h1, h2⟩ := h
 cases hf : Z4E y D r with
 | some u => exact ⟨u, rfl⟩
 | none =>
  exfalso
  unfold Z4E at hf
  rw [List.find?_eq_none] at hf
  exact hf s hs (by simp [isR, h1, h2])
theorem WInv.len (h : WInv y N k L D N) : ∀ n, n ≤ N → (Z6Z y D n).length = if k < n then n - 1 else n := fun n => by
 induction n with
 | zero => intro _; simp [Z6Z]
 | succ n ih =>
  intro hn
  rw [Z9e, List.length_append, ih (by omega)]
  by_cases e : n = k
  ·subst e
   have : Z4E y D n = none := by
    cases hf : Z4E y D n with
    | none => rfl
    | some u =>
     obtain ⟨h1, h2, h3⟩ := Z3k hf
     exact absurd h1 (h.no u h3 h2)
   rw [this, if_neg (by omega), if_pos (by omega)]; simp
  ·obtain ⟨s, hs⟩ := Zbt (h.got n (by omega) e)
   rw [hs]
   by_cases hk : k < n
   ·rw [if_pos hk, if_pos (by omega)]; simp; omega
   ·rw [if_neg hk, if_neg (by omega)]; simp
theorem WInv.stamp (h : WInv y N k L D N) (hN : (N : Int) = 3 * f + 1) {s : Z4} (hs : s ∈ Z6Z y D N) : s ∈ D ∧ Z54 s y = true ∧ s.r ≠ k ∧ Z1Y f L s = true := by
 obtain ⟨_, hf⟩ := Z8p.1 hs
 obtain ⟨_, h2, h3⟩ := Z3k hf
 obtain ⟨g, ht, hr, _⟩ := h.all s h3
 exact ⟨h3, h2, h.no s h3 h2, Zac g ⟨hr.1, by omega⟩ ⟨ht.1, by omega⟩⟩
theorem Z8K {S : List Z4} {i : Nat} (h : i < (S.take Q).length) : (S.take Q).getD i Zf ∈ S := by
 rw [List.getD_eq_getElem?_getD, List.getElem?_eq_getElem h]
 exact List.mem_of_mem_take (List.getElem_mem h)
theorem ZcK {x : Z9} {S : List Z4} (n : Nat) {i : Nat} (h0 : 0 < i) (h : i < ((Z6Z x S n).take Q).length) : (((Z6Z x S n).take Q).getD (i - 1) Zf).r < (((Z6Z x S n).take Q).getD i Zf).r := by
 have hp := (Z9A x S n).sublist (List.take_sublist Q _)
 have := List.pairwise_iff_getElem.1 hp (i - 1) i (by omega) h (by omega)
 have e1 : ((Z6Z x S n).take Q).getD i Zf = ((Z6Z x S n).take Q)[i] := by rw [List.getD_eq_getElem?_getD, List.getElem?_eq_getElem h]; rfl
 have e2 : ((Z6Z x S n).take Q).getD (i - 1) Zf = ((Z6Z x S n).take Q)[i - 1]'(by omega) := by rw [List.getD_eq_getElem?_getD, List.getElem?_eq_getElem (show i - 1 < ((Z6Z x S n).take Q).length by omega)]; rfl
 rw [e1, e2]
 exact this
theorem WInv.right (h : WInv y N k L D N) (hN : (N : Int) = 3 * f + 1) (hQ : (Q : Int) = 2 * f + 1) (hl : Q ≤ (Z6Z y D N).length) {cn : Int} (hc : Z4p cn L y = true) : Z14 f cn L y ((Z6Z y D N).take Q) = true := by
 have hlen : ((Z6Z y D N).take Q).length = Q := by rw [List.length_take]; omega
 unfold Z14
 rw [hc, hlen, decide_eq_true hQ, Bool.true_and, Bool.true_and]
 refine Z4J fun i hi => ?_
 have hi' : i < ((Z6Z y D N).take Q).length := by omega
 obtain ⟨_, h2, _, h4⟩ := h.stamp hN (Z8K hi')
 unfold Z7b
 rw [h2, h4, Bool.and_true, Bool.and_true]
 by_cases h0 : i = 0
 ·subst h0; rfl
 ·have := ZcK (x := y) (S := D) (Q := Q) N (show 0 < i by omega) hi'
  rw [Bool.or_eq_true]
  right
  rw [Bool.not_eq_true', decide_eq_false_iff_not]
  omega
end
theorem Z1P {L : List Signed} (h : L.Nodup) (y : Signed) : (Zg L y).Nodup := by
 unfold Zg; split
 ·exact h
 ·rename_i hn
  rw [List.nodup_append]; exact ⟨h, by simp, fun x hx z hz => by rw [List.mem_singleton.1 hz]; exact fun e => hn (e ▸ hx)⟩
theorem WInv.ok {y : Z9} {N k Q : Nat} {L : List Signed} {D : List Z4} (h : WInv y N k L D N) (hN : N ≤ 1000) : Zfm ((Z6Z y D N).take Q) := fun i hi => by
 obtain ⟨_, hf⟩ := Z8p.1 (Z8K hi)
 obtain ⟨_, _, h3⟩ := Z3k hf
 obtain ⟨_, h4, h5, h6, h7⟩ := h.all _ h3
 exact ⟨by omega, by omega, by omega, by omega, by omega⟩
theorem Za0 {a a' : Option Addr} {n c n' c' : Nat} (h : Value.slice a n c = .slice a' n' c') : a = a' := by simp only [Value.slice.injEq] at h; exact h.1
theorem Z3W {α : Type} {enc : α → List Value} {sz : Nat} (hs : ∀ x, (enc x).length = sz) (h0 : 0 < sz) {W w : World} {G : List Ck} (H : Sat W G w) (is : List Nat) (j : Nat) {B : List Ck} (hB : (is.filterMap fun i => G[i]?) = B) (hj : G[j]? = some (Z3 W fun _ => False)) (hne : is.all (fun i => !Nat.beq i j) = true) {va : Option Addr} {n vc : Nat} {ls : List α} (hv : ListAt enc sz W (.slice va n vc) ls) : 0 < ls.length → ∀ a, va = some a → ¬ (ZR B).fp a.block := by
 intro h1 a ha hfp
 obtain ⟨vb, vo, vc', hva, hvs⟩ := hv.cells hs h0 h1
 have h2 := Za0 hva
 rw [h2] at ha
 obtain rfl := (Option.some.inj ha)
 have hl : 0 < (ls.flatMap enc).length := by rw [Z0A enc sz hs]; exact Nat.mul_pos h1 h0
 have hc := hvs 0 _ (List.getElem?_eq_getElem hl)
 rw [Addr.add_lit] at hc
 have hlt := World.block_lt_of_cell? W _ hc
 subst hB
 obtain ⟨A, hA, hAf⟩ := hfp
 obtain ⟨i, hi, he⟩ := List.mem_filterMap.1 hA
 have hij : Nat.beq i j = false := by simpa using List.all_eq_true.1 hne i hi
 exact H.apart i j he hj hij _ hAf ⟨hlt, fun h => h⟩
section
variable {P : Program} {ops : Array Oper} {Q : Exit → Act → World → Prop} {md : Region.Mode} {S : World → Prop} {B : Nat → Bool}
end
section
variable {P : Program} {n : Nat} {f : Nat → Value} {w w0 : World} {dst : Option Tmp} {ty : TypeId} {pos : String} {aft : Array Edge} {gd : Option (Nat × Bool)} {K : Act → World → Prop} {Q : Exit → Act → World → Prop} {G : List Ck}
end
abbrev Z6P (p0 : Nat) : List Value := ([(.map (some p0))] : List Value)
abbrev Z6z (p0 : Nat) (p1 : List Signed) : Ck := Z0B p0 ZZ (Value.int .i64) (Z0a p1)
abbrev Z4v (p0 : Option Addr) (p1 : Nat) (p2 : Nat) : List Value := ([(.slice p0 p1 p2)] : List Value)
abbrev Z6v (p0 : Option Addr) (p1 : List Signed) (p2 : Nat) : Ck := Zc 181 2 (.slice p0 p1.length p2) p1.length (p1.flatMap Z4W)
abbrev Z25 (p0 : Nat) (p1 : Nat) : List Value := ([(pt p0 0), (pt p1 0)] : List Value)
abbrev Z3s (p0 : Int) (p1 : Int) : List Value := ([(.int .i64 p0), (.int .i64 p1)] : List Value)
abbrev Z1L (p0 : Z9) : List Value := ([(.int .i64 p0.cl), (.int .i64 p0.seq)] : List Value) ++ hc p0.h ++ ([(.int .i64 p0.len), (.int .i64 p0.sb), (.int .i64 p0.sm)] : List Value)
abbrev Z3f : List Value := ([(.int .i64 (0)), (.int .i64 (0))] : List Value) ++ hc Zn ++ ([(.int .i64 (0)), (.int .i64 (0)), (.int .i64 (0)), (.slice none 0 0)] : List Value)
abbrev Z9c (p0 : Z9) : List Value := ([(.int .i64 p0.cl), (.int .i64 p0.seq)] : List Value) ++ hc p0.h ++ ([(.int .i64 p0.len), (.int .i64 p0.sb), (.int .i64 p0.sm), (.slice none 0 0)] : List Value)
abbrev Z2N (p0 : Z9) (p1 : Option Addr) (p2 : Nat) (p3 : Nat) : List Value := ([(.int .i64 p0.cl), (.int .i64 p0.seq)] : List Value) ++ hc p0.h ++ ([(.int .i64 p0.len), (.int .i64 p0.sb), (.int .i64 p0.sm), (.slice p1 p2 p3)] : List Value)
abbrev Zbz (p0 : Option Addr) (p1 : List Z4) (p2 : Nat) : Ck := Zc 149 38 (.slice p0 p1.length p2) p1.length (p1.flatMap Z1U)
abbrev Z3a (p0 : Z4) : List Value := ([(.int .i64 p0.r), (.int .i64 p0.cl), (.int .i64 p0.seq)] : List Value) ++ hc p0.h ++ ([(.int .u64 p0.t), (.int .i64 p0.sb), (.int .i64 p0.sm)] : List Value)
theorem Z2a {va : Option Addr} {n c n' c' : Nat} {ad : Addr} (h : Value.slice va n c = .slice (some ad) n' c') : va = some ad := by
 simp only [Value.slice.injEq] at h; exact h.1
theorem ZdC {xs : List Int} {i : Nat} (h : i < xs.length) : xs.getD i 0 ∈ xs := by
 rw [List.getD_eq_getElem?_getD, List.getElem?_eq_getElem h]; exact List.getElem_mem h
theorem Z4I (w : World) (b mb r : Nat) (a : Option Addr) (c : Nat) (L : List Signed) (hB : (ZR (ZT b mb r a c L)).ok w) (f cn : Int) (hf : 1 ≤ f ∧ f ≤ 5) (x : Z9) (hx : ZeN x) (from_ : Int) (hL : L.length ≤ 1000) (hn : L.Nodup) (va : Option Addr) (vc : Nat) (xs : List Int) (hxs : ListAt Z4j 1 w (.slice va xs.length vc) xs) (hbd : ∀ x ∈ xs, 0 ≤ x ∧ x ≤ 18446744073709551615) (hva : 0 < xs.length → ∀ ad, va = some ad → ¬ (ZR (ZT b mb r a c L)).fp ad.block) :
  Calls Tryz.prog 32 #[(.agg ⟨([(.pointer (some ⟨b, 0, none⟩)), (.pointer (some ⟨r, 0, none⟩))] : List Value)⟩), (.agg ⟨([(.int .i64 (f)), (.int .i64 (cn))] : List Value)⟩), (.agg ⟨(([(.int .i64 (x.cl)), (.int .i64 (x.seq))] : List Value) ++ hc x.h ++ ([(.int .i64 (x.len)), (.int .i64 (x.sb)), (.int .i64 (x.sm))] : List Value))⟩), (.int .i64 (from_)), (.slice va xs.length vc)] w fun e w' => ∃ (ra : Option Addr) (rc : Nat) (L1 : List Signed) (da : Option Addr) (dc : Nat) (D : List Z4), e = .returned (.agg ⟨Zaa x ++ [.slice da D.length dc]⟩) ∧ (D.length : Int) = 2 * f + 1 ∧ (∀ s ∈ D, StB s) ∧ L1.Nodup ∧ L1.length ≤ L.length + 11 ∧ L <+: L1 ∧ Sat w [Z0 b 179 [.map (some mb)], Z0B mb ZZ (Value.int .i64) (Z0a L1), Z0 r 165 [.slice ra (L1).length rc], Zc 181 2 (.slice ra (L1).length rc) (L1).length ((L1).flatMap Z4W), Zc 149 38 (.slice da D.length dc) D.length (D.flatMap Z1U), Z3 w (ZR (ZT b mb r a c L)).fp] w' := by
 have hwf := Z1V from_ (f + 1) om
 obtain ⟨Q, hQ⟩ : ∃ Q : Nat, (Q : Int) = 2 * f + 1 := ⟨(2 * f + 1).toNat, by omega⟩
 have H := Sat.start (ZT b mb r a c L) hB
 refine Z8 Tryz.func32 rfl 50 rfl kn ?_
 refine zsl <| zy <| zdb (Z25 b r) H fun b2 w3 H4 => ?_
 refine kk <| zy <| zdb (Z3s f cn) H4 fun b6 w7 H8 => ?_
 refine kk <| zy <| zdb (Z1L x) H8 fun b10 w11 H12 => ?_
 refine kk <| zy <| zda (Z3f) H12 fun b14 w15 H16 => ?_
 refine kk <| Z0y <| zwN 14 (Z1L x) (H16.at 7 rfl) <| wv 15 (.agg ⟨(Z9c x)⟩) <| zy <| zda (Z3f) H16 fun b18 w19 H20 => ?_
 refine kk <| zy <| Z1z (Z9c x) H20 9 fun w22 H23 => ?_
 refine kk <| Z0y <| wv 16 (vi from_) <| wv 17 (pt b6 0) <| zw1 18 (vi f) (H23.cell 6 rfl rfl) <| zwi 19 (f + 1) <| zy <| zdq 20 (Z3b w22 from_ (f + 1) om) H23 fun w26 H27 => ?_
 refine kk <| wv 3 (vi (Z1 from_ (f + 1))) <| znt <| Z5 <| zsl <| wv 12 (vi 0) <| znt <| Za ?_
 have H29 := H27.addNil 149 38
 refine Zw ([12, 13] ++ List.range' 21 28) (fun F_ W_ m_ => ∃ (i : Nat) (da : Option Addr) (dc : Nat) (D : List Z4) (ra : Option Addr) (rc : Nat) (L1 : List Signed), F_ 12 = (vi i) ∧ (i ≤ Q) ∧ (∀ s ∈ D, StB s) ∧ (L1.Nodup) ∧ (L1.length ≤ L.length + i) ∧ (D.length = i) ∧ (L <+: L1) ∧ Sat w [Z0 b 179 (Z6P mb), (Z6z mb L1), Z0 r 165 (Z4v ra L1.length rc), (Z6v ra L1 rc), Z3 w (ZR (ZT b mb r a c L)).fp, Z0 b2 33 (Z25 b r), Z0 b6 29 (Z3s f cn), Z0 b10 73 (Z1L x), Z0 b14 76 (Z3f), Z0 b18 76 (Z2N x da D.length dc), (Zbz da D dc)] W_ ∧ m_ = Q - i) _ ⟨0, none, 0, [], a, c, L, (show ((vi 0) : Value) = _ by first | rfl | go_num), (Nat.zero_le _), (by simp), hn, om, rfl, (List.prefix_refl _), H29, rfl⟩ ?_
 rintro g30 w31 _ ⟨i, da, dc, D, ra, rc, L1, v33, hin, hok, hnd, hLl, hDl, hpre, H32, rfl⟩
 refine Zd 12 _ v33 ?_
 refine Z5 <| zsl <| wv 21 (vi i) <| zwN 22 (Z3s f cn) (H32.at 6 rfl) <| zy <| zdq 23 (Zam w31 f cn om) H32 fun w36 H37 => ?_
 refine kk <| wv 24 (.bool (decide ((i : Int) < (2 * f + 1)))) <| znt ?_
 refine zid (fun b39 g40 => ?_) fun b39 g116 => ?_
 ·refine Zt <| ztn <| Z5 <| Za <| zsl <| wv 13 (vu 5) <| znt <| Z5 <| zsl <| wv 27 (vi i) ?_
  refine wv 28 (.slice va xs.length vc) <| wv 29 (vi xs.length) <| wv 30 (.bool (decide ((i : Int) < xs.length))) <| znt ?_
  refine zid (fun b42 g43 => ?_) fun b42 g82 => ?_
  ·have hx0 : 0 ≤ xs.getD i 0 := (hbd _ (ZdC om)).1
   refine Zl <| wv 31 (.slice va xs.length vc) <| wv 32 (vi i) ?_
   obtain ⟨g45, o46, c47, e48, R49⟩ := SliceOf.atD hxs 0 (show i < xs.length by omega)
   refine wv 33 (.pointer (some ⟨g45, o46 + ((i : Int)).toNat * 1, none⟩)) ?_ (hr := Zh (E := 25) kr kr kn rfl e48 rfl om om)
   refine zw1 34 (vu (xs.getD i 0)) (H37.cellR 4 rfl (Z0P R49 0 kr (show o46 + ((i : Int)).toNat * 1 = o46 + i * 1 + 0 by omega)) (by have hq := hva om _ (Z2a e48); exact hq)) <| wv 35 (vu ((xs.getD i 0) % 1000)) ?_ (hr := Z8s kr om om)
   refine wv 36 (vu (1 + ((xs.getD i 0) % 1000))) ?_ (hr := Z0g (z := 1 + ((xs.getD i 0) % 1000)) kr (Z12 om))
   refine wv 13 (vu (1 + ((xs.getD i 0) % 1000))) <| znt <| Z18 H37 [Z3 w (ZR (ZT b mb r a c L)).fp, Z0 b2 33 (Z25 b r), Z0 b6 29 (Z3s f cn), Z0 b10 73 (Z1L x), Z0 b14 76 (Z3f), Z0 b18 76 (Z2N x da D.length dc)] [12] 13 rfl kr (fun Hx => (Hx.pk [4, 5, 6, 7, 8, 9])) fun w50 H51 S52 => ?_
   refine zkp 0 S52 37 (pt b18 37) <| zkv 1 S52 38 (.slice da D.length dc) ?_ (he := fun _ H' => (zl1 (H'.cell 5 rfl kr)))
   refine zkv 2 S52 39 (.agg ⟨(Z25 b r)⟩) ?_ (he := fun _ H' => (zlN (vs := (Z25 b r)) (H'.at 1 rfl)))
   refine zkp 3 S52 40 (vi (Z1 from_ (f + 1))) <| zkp 4 S52 41 (vi i) <| zkp 5 S52 42 (vi ((Z1 from_ (f + 1)) + (i : Int))) ?_ (he := fun _ => (Z0g (z := (Z1 from_ (f + 1)) + (i : Int)) kr (IntWalk.i64_in _ om)))
   refine zkv 6 S52 43 (.agg ⟨(Z1L x)⟩) ?_ (he := fun _ H' => (zlN (vs := (Z1L x)) (H'.at 3 rfl)))
   refine zkp 7 S52 44 (vu (1 + ((xs.getD i 0) % 1000))) <| zky 8 ?_
   refine zdc 45 (Z6x w50 b mb r ra rc L1 (H51.fn [0, 1, 2, 3]) ((Z1 from_ (f + 1)) + (i : Int)) x (1 + ((xs.getD i 0) % 1000)) om hx om om hnd) ?_
   rintro _ w54 ⟨a56, c57, rfl, T55⟩
   obtain ⟨L59, hL59⟩ : ∃ L59 : List Signed, L59 = Zg L1 (yS ((Z1 from_ (f + 1)) + (i : Int)) x (1 + ((xs.getD i 0) % 1000))) := ⟨_, rfl⟩
   rw [← hL59] at T55
   have H60 := H51.tl [Z0 b 179 (Z6P mb), (Z6z mb L59), Z0 r 165 (Z4v a56 L59.length c57), (Z6v a56 L59 c57)] [0, 1, 2, 3] [4, 5, 6, 7, 8, 9, 10] T55 [0, 1, 2, 3, 4, 5, 6, 7, 8, 9, 10]
   refine ⟨_, rfl, ?_⟩
   obtain ⟨S58, hS58⟩ : ∃ S58 : Z4, S58 = mkS L1 ((Z1 from_ (f + 1)) + (i : Int)) x (1 + ((xs.getD i 0) % 1000)) := ⟨_, rfl⟩
   rw [← hS58]
   have ndL59 : L59.Nodup := by rw [hL59]; exact Z1P hnd _
   have llL59 : L59.length ≤ L1.length + 1 := by rw [hL59]; exact Z23 _ _
   have S61 := H60.pk [4, 5, 6, 7, 8, 9]
   refine ke S61 <| zky 9 ?_
   refine Z2w 149 38 80 (.agg ⟨(([(vi 0), (vi 0), (vi 0)] : List Value) ++ hc Zn ++ ([(vu 0), (vi 0), (vi 0)] : List Value))⟩) [(0, (.agg ⟨(Z3a S58)⟩))] (Z3a S58) H60 ?_
   intro b63 w64 H65
   have H66 := H65.ct 11 rfl (Zc 149 38 (.slice (some ⟨b63, 0, none⟩) 1 1) 1 ([S58].flatMap Z1U)) (by rw [(show ((Z3a S58) : List Value) = [S58].flatMap Z1U by kernel_rfl)])
   have S67 := H66.pk [4, 5, 6, 7, 8, 9]
   refine ke S67 <| zky 10 ?_
   refine Z00 (T := 74) (e := 149) (size := 38) (bytes := 80) rfl H66 kr 10 11 rfl rfl rfl rfl (ZX Z1U Z6T [S58]) om om ?_
   intro v69 w70 H71
   have H74 := H71.ct 10 rfl (Zc 149 38 v69 ((D ++ [S58]).length) ((D ++ [S58]).flatMap Z1U)) ja
   obtain ⟨a72, c73, rfl⟩ := Z2 (H74.at 10 rfl)
   have S75 := H74.pk [4, 5, 6, 7, 8, 9]
   refine ke S75 <| zkp 11 S75 48 (pt b18 37) <| Z3v 12 (Sat w [Z3 w (ZR (ZT b mb r a c L)).fp, Z0 b2 33 (Z25 b r), Z0 b6 29 (Z3s f cn), Z0 b10 73 (Z1L x), Z0 b14 76 (Z3f)]) rfl kr (Zb rfl) rfl (fun Kq kq => ?_)
   refine zds (Z4v a72 ((D ++ [S58]).length) c73) (Z2N x a72 ((D ++ [S58]).length) c73) H74 9 ?_
   intro w77 H78
   have S80 := H78.pk [4, 5, 6, 7, 8]
   refine kq _ _ S80 <| zhf <| Z7 <| ztn <| Zl <| wv 25 (vi i) <| zwi 26 ((i : Int) + 1) <| wv 12 (vi ((i : Int) + 1)) <| Zu ?_
   have hok2 : ∀ s ∈ (D ++ [S58]), StB s := fun s hs => by
    rcases List.mem_append.1 hs with h | h
    ·exact hok s h
    rw [List.mem_singleton.1 h, hS58]; exact ⟨⟨by show Z1 from_ (f + 1) + (i : Int) ≤ _; omega, hx.1, hx.2.1, by show 0 ≤ (1 + ((xs.getD i 0) % 1000)); omega, by show (1 + ((xs.getD i 0) % 1000)) < _; omega⟩, by show Z1 from_ (f + 1) + (i : Int) ≤ _; omega, by have q1 := (Z1S (Z2m L1 (yS (Z1 from_ (f + 1) + (i : Int)) x (1 + ((xs.getD i 0) % 1000))))).2; have q2 := Z23 L1 (yS (Z1 from_ (f + 1) + (i : Int)) x (1 + ((xs.getD i 0) % 1000))); show Ze _ _ ≤ _; omega⟩
   have H81 := H78.pk [0, 1, 2, 3, 4, 5, 6, 7, 8, 9, 10]
   refine Z6 ?_ _ ⟨(i + 1), a72, c73, (D ++ [S58]), a56, c57, L59, rfl, om, hok2, ndL59, om, (by simp only [List.length_append, List.length_cons, List.length_nil]; omega), (by rw [hL59]; exact hpre.trans (by unfold Zg; split; exact List.prefix_refl _; exact List.prefix_append _ _)), H81, rfl⟩ om
   exact zs
  refine Zt <| ztn <| Z18 H37 [Z3 w (ZR (ZT b mb r a c L)).fp, Z0 b2 33 (Z25 b r), Z0 b6 29 (Z3s f cn), Z0 b10 73 (Z1L x), Z0 b14 76 (Z3f), Z0 b18 76 (Z2N x da D.length dc)] [12] 13 rfl kr (fun Hx => (Hx.pk [4, 5, 6, 7, 8, 9])) fun w84 H85 S86 => ?_
  refine zkp 0 S86 37 (pt b18 37) <| zkv 1 S86 38 (.slice da D.length dc) ?_ (he := fun _ H' => (zl1 (H'.cell 5 rfl kr)))
  refine zkv 2 S86 39 (.agg ⟨(Z25 b r)⟩) ?_ (he := fun _ H' => (zlN (vs := (Z25 b r)) (H'.at 1 rfl)))
  refine zkp 3 S86 40 (vi (Z1 from_ (f + 1))) <| zkp 4 S86 41 (vi i) <| zkp 5 S86 42 (vi ((Z1 from_ (f + 1)) + (i : Int))) ?_ (he := fun _ => (Z0g (z := (Z1 from_ (f + 1)) + (i : Int)) kr (IntWalk.i64_in _ om)))
  refine zkv 6 S86 43 (.agg ⟨(Z1L x)⟩) ?_ (he := fun _ H' => (zlN (vs := (Z1L x)) (H'.at 3 rfl)))
  refine zkp 7 S86 44 (vu 5) <| zky 8 ?_
  refine zdc 45 (Z6x w84 b mb r ra rc L1 (H85.fn [0, 1, 2, 3]) ((Z1 from_ (f + 1)) + (i : Int)) x (5 : Int) om hx om om hnd) ?_
  rintro _ w88 ⟨a90, c91, rfl, T89⟩
  obtain ⟨L93, hL93⟩ : ∃ L93 : List Signed, L93 = Zg L1 (yS ((Z1 from_ (f + 1)) + (i : Int)) x (5 : Int)) := ⟨_, rfl⟩
  rw [← hL93] at T89
  have H94 := H85.tl [Z0 b 179 (Z6P mb), (Z6z mb L93), Z0 r 165 (Z4v a90 L93.length c91), (Z6v a90 L93 c91)] [0, 1, 2, 3] [4, 5, 6, 7, 8, 9, 10] T89 [0, 1, 2, 3, 4, 5, 6, 7, 8, 9, 10]
  refine ⟨_, rfl, ?_⟩
  obtain ⟨S92, hS92⟩ : ∃ S92 : Z4, S92 = mkS L1 ((Z1 from_ (f + 1)) + (i : Int)) x (5 : Int) := ⟨_, rfl⟩
  rw [← hS92]
  have ndL93 : L93.Nodup := by rw [hL93]; exact Z1P hnd _
  have llL93 : L93.length ≤ L1.length + 1 := by rw [hL93]; exact Z23 _ _
  have S95 := H94.pk [4, 5, 6, 7, 8, 9]
  refine ke S95 <| zky 9 ?_
  refine Z2w 149 38 80 (.agg ⟨(([(vi 0), (vi 0), (vi 0)] : List Value) ++ hc Zn ++ ([(vu 0), (vi 0), (vi 0)] : List Value))⟩) [(0, (.agg ⟨(Z3a S92)⟩))] (Z3a S92) H94 ?_
  intro b97 w98 H99
  have H100 := H99.ct 11 rfl (Zc 149 38 (.slice (some ⟨b97, 0, none⟩) 1 1) 1 ([S92].flatMap Z1U)) (by rw [(show ((Z3a S92) : List Value) = [S92].flatMap Z1U by kernel_rfl)])
  have S101 := H100.pk [4, 5, 6, 7, 8, 9]
  refine ke S101 <| zky 10 ?_
  refine Z00 (T := 74) (e := 149) (size := 38) (bytes := 80) rfl H100 kr 10 11 rfl rfl rfl rfl (ZX Z1U Z6T [S92]) om om ?_
  intro v103 w104 H105
  have H108 := H105.ct 10 rfl (Zc 149 38 v103 ((D ++ [S92]).length) ((D ++ [S92]).flatMap Z1U)) ja
  obtain ⟨a106, c107, rfl⟩ := Z2 (H108.at 10 rfl)
  have S109 := H108.pk [4, 5, 6, 7, 8, 9]
  refine ke S109 <| zkp 11 S109 48 (pt b18 37) <| Z3v 12 (Sat w [Z3 w (ZR (ZT b mb r a c L)).fp, Z0 b2 33 (Z25 b r), Z0 b6 29 (Z3s f cn), Z0 b10 73 (Z1L x), Z0 b14 76 (Z3f)]) rfl kr (Zb rfl) rfl (fun Kq kq => ?_)
  refine zds (Z4v a106 ((D ++ [S92]).length) c107) (Z2N x a106 ((D ++ [S92]).length) c107) H108 9 ?_
  intro w111 H112
  have S114 := H112.pk [4, 5, 6, 7, 8]
  refine kq _ _ S114 <| zhf <| Z7 <| ztn <| Zl <| wv 25 (vi i) <| zwi 26 ((i : Int) + 1) <| wv 12 (vi ((i : Int) + 1)) <| Zu ?_
  have hok2 : ∀ s ∈ (D ++ [S92]), StB s := fun s hs => by
   rcases List.mem_append.1 hs with h | h
   ·exact hok s h
   rw [List.mem_singleton.1 h, hS92]; exact ⟨⟨by show Z1 from_ (f + 1) + (i : Int) ≤ _; omega, hx.1, hx.2.1, by show 0 ≤ (5 : Int); omega, by show (5 : Int) < _; omega⟩, by show Z1 from_ (f + 1) + (i : Int) ≤ _; omega, by have q1 := (Z1S (Z2m L1 (yS (Z1 from_ (f + 1) + (i : Int)) x (5 : Int)))).2; have q2 := Z23 L1 (yS (Z1 from_ (f + 1) + (i : Int)) x (5 : Int)); show Ze _ _ ≤ _; omega⟩
  have H115 := H112.pk [0, 1, 2, 3, 4, 5, 6, 7, 8, 9, 10]
  refine Z6 ?_ _ ⟨(i + 1), a106, c107, (D ++ [S92]), a90, c91, L93, rfl, om, hok2, ndL93, om, (by simp only [List.length_append, List.length_cons, List.length_nil]; omega), (by rw [hL93]; exact hpre.trans (by unfold Zg; split; exact List.prefix_refl _; exact List.prefix_append _ _)), H115, rfl⟩ om
  exact zs
 refine zxb <| ztn <| zsl <| zwN 49 (Z2N x da D.length dc) (H37.at 9 rfl) <| zy <| Z1z (Z2N x da D.length dc) H37 8 fun w119 H120 => ?_
 refine kk <| znt <| Zq <| Z66 rfl (ZL (vs := (Z2N x da D.length dc)) rfl kr kr kn (H120.at 8 rfl) kr) ?_
 exact ⟨ra, rc, L1, da, dc, D, rfl, by omega, hok, hnd, by omega, hpre, H120.pk [0, 1, 2, 3, 10, 4]⟩
end Go.Proofs.YtenihpghfdcpkaaGreat
