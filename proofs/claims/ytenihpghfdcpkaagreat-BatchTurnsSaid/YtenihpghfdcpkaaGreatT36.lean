/- WHAT IS PROVED: contracts and plain laws of Whole10M, Store10, Cert10. Conditions: stated with each. -/
import Derived.Test.YtenihpghfdcpkaaGreatT05
import Derived.Test.YtenihpghfdcpkaaGreatT06
import Derived.Test.YtenihpghfdcpkaaGreatT09
import Derived.Test.YtenihpghfdcpkaaGreatT18
import Derived.Test.YtenihpghfdcpkaaGreatT31
import Derived.Test.YtenihpghfdcpkaaGreatT34
import Derived.Test.YtenihpghfdcpkaaGreatT35
set_option maxHeartbeats 4000000
set_option maxRecDepth 100000
namespace Go.Proofs.YtenihpghfdcpkaaGreat
open Go.RowKit
def GoodS (L : List Signed) (s : StampD) : Prop := s.sb = s.r ∧ (⟨s.r, stampB s⟩ : Signed) ∈ L ∧ s.sm = markOf L ⟨s.r, stampB s⟩
def GoodC (L : List Signed) (c : CommitD) : Prop := c.sb = 1000 + c.cl ∧ (⟨c.sb, commitB c⟩ : Signed) ∈ L ∧ c.sm = markOf L ⟨c.sb, commitB c⟩
theorem goodS_new (L : List Signed) (q : Int) (x : CommitD) (t : Int) : GoodS (signL L (yS q x t)) (mkS L q x t) := ⟨rfl, signL_mem L (yS q x t), rfl⟩
theorem goodC_new (L : List Signed) (cl seq : Int) (x : Hash) (p : List UInt8) : GoodC (signL L (yC cl seq x p)) (mkC L cl seq x p) := ⟨rfl, signL_mem L (yC cl seq x p), rfl⟩
theorem goodS_keep {L : List Signed} {s : StampD} (h : GoodS L s) (y : Signed) : GoodS (signL L y) s := ⟨h.1, signL_sub h.2.1, by rw [markOf_signL h.2.1]; exact h.2.2⟩
theorem good_right {L : List Signed} {p m : Int} {s : List UInt8} (h : (⟨p, s⟩ : Signed) ∈ L) (hm : m = markOf L ⟨p, s⟩) : rightB L p m s = true := by
 unfold rightB
 rw [decide_eq_true_eq]
 exact ⟨(markOf_pos h).1, hm.symm⟩
theorem goodS_right {f : Int} {L : List Signed} {s : StampD} (h : GoodS L s) (h0 : 0 ≤ s.r ∧ s.r < 3 * f + 1) (ht : 1 ≤ s.t ∧ s.t < 18446744073709551615) : rightS f L s = true := by
 unfold rightS inB
 rw [h.1, good_right h.2.1 h.2.2, decide_eq_true h0.1, decide_eq_true h0.2, decide_eq_true ht.1, decide_eq_true ht.2, decide_eq_true rfl]
 rfl
structure WInv (y : CommitD) (N k : Nat) (L : List Signed) (D : List StampD) (i : Nat) : Prop where
 all : ∀ s ∈ D, GoodS L s ∧ (1 ≤ s.t ∧ s.t ≤ 1000) ∧ (0 ≤ s.r ∧ s.r < N) ∧ s.cl ≤ 1000000 ∧ s.seq ≤ 1000000
 got : ∀ r : Nat, r < i → r ≠ k → ∃ s ∈ D, s.r = r ∧ sameN s y = true
 no : ∀ s ∈ D, sameN s y = true → s.r ≠ k
theorem WInv.start (y : CommitD) (N k : Nat) (L : List Signed) : WInv y N k L [] 0 := ⟨by simp, fun r h => by omega, by simp⟩
theorem sameN_mkS (L : List Signed) (q : Int) (y : CommitD) (t : Int) : sameN (mkS L q y t) y = true := by simp [sameN, mkS]
theorem WInv.one {y : CommitD} {N k i : Nat} {L : List Signed} {D : List StampD} (h : WInv y N k L D i) (hi : i < N) (hk : i ≠ k) {t : Int} (ht : 1 ≤ t ∧ t ≤ 1000) (hy : y.cl ≤ 1000000 ∧ y.seq ≤ 1000000) : WInv y N k (signL L (yS i y t)) (D ++ [mkS L i y t]) (i + 1) := by
 refine ⟨fun s hs => ?_, fun r hr hrk => ?_, fun s hs hn => ?_⟩
 ·rcases List.mem_append.1 hs with hs | hs
  ·obtain ⟨h1, h2⟩ := h.all s hs
   exact ⟨goodS_keep h1 _, h2⟩
  ·obtain rfl := List.mem_singleton.1 hs
   exact ⟨goodS_new L i y t, ht, ⟨by show (0 : Int) ≤ i; omega, by show (i : Int) < N; omega⟩, hy.1, hy.2⟩
 ·by_cases e : r = i
  ·subst e; exact ⟨_, List.mem_append_right _ (List.mem_singleton.2 rfl), rfl, sameN_mkS L r y t⟩
  ·obtain ⟨s, h1, h2⟩ := h.got r (by omega) hrk
   exact ⟨s, List.mem_append_left _ h1, h2⟩
 ·rcases List.mem_append.1 hs with hs | hs
  ·exact h.no s hs hn
  ·obtain rfl := List.mem_singleton.1 hs
   show (i : Int) ≠ k; omega
theorem WInv.two {y z : CommitD} {N k : Nat} {L : List Signed} {D : List StampD} (h : WInv y N k L D k) (hk : k < N) {j : Int} (hj : 0 ≤ j ∧ j < N) (hjk : j ≠ k) {t : Int} (ht : 1 ≤ t ∧ t + 1 ≤ 1000) (hy : y.cl ≤ 1000000 ∧ y.seq ≤ 1000000) (hz : z.cl ≤ 1000000 ∧ z.seq ≤ 1000000) (hyz : z.seq ≠ y.seq) :
  WInv y N k (signL (signL L (yS k z t)) (yS j y (t + 1))) (D ++ [mkS L k z t, mkS (signL L (yS k z t)) j y (t + 1)]) (k + 1) := by
 refine ⟨fun s hs => ?_, fun r hr hrk => ?_, fun s hs hn => ?_⟩
 ·rcases List.mem_append.1 hs with hs | hs
  ·obtain ⟨h1, h2⟩ := h.all s hs
   exact ⟨goodS_keep (goodS_keep h1 _) _, h2⟩
  ·rcases List.mem_cons.1 hs with rfl | hs
   ·exact ⟨goodS_keep (goodS_new L k z t) _, ⟨ht.1, by show t ≤ 1000; omega⟩, ⟨by show (0 : Int) ≤ k; omega, by show (k : Int) < N; omega⟩, hz.1, hz.2⟩
   ·obtain rfl := List.mem_singleton.1 hs
    exact ⟨goodS_new _ j y (t + 1), ⟨by show 1 ≤ t + 1; omega, ht.2⟩, hj, hy.1, hy.2⟩
 ·obtain ⟨s, h1, h2⟩ := h.got r (by omega) hrk
  exact ⟨s, List.mem_append_left _ h1, h2⟩
 ·rcases List.mem_append.1 hs with hs | hs
  ·exact h.no s hs hn
  ·rcases List.mem_cons.1 hs with rfl | hs
   ·simp only [sameN, Bool.and_eq_true, decide_eq_true_eq] at hn
    exact absurd hn.1.2 hyz
   ·obtain rfl := List.mem_singleton.1 hs
    exact hjk
section
variable {y : CommitD} {N k Q : Nat} {f : Int} {L : List Signed} {D : List StampD}
theorem firstR_got {r : Nat} (h : ∃ s ∈ D, s.r = r ∧ sameN s y = true) : ∃ s, firstR y D r = some s := by
 obtain ⟨s, hs, h1, h2⟩ := h
 cases hf : firstR y D r with
 | some u => exact ⟨u, rfl⟩
 | none =>
  exfalso
  unfold firstR at hf
  rw [List.find?_eq_none] at hf
  exact hf s hs (by simp [isR, h1, h2])
theorem WInv.len (h : WInv y N k L D N) : ∀ n, n ≤ N → (refS y D n).length = if k < n then n - 1 else n := fun n => by
 induction n with
 | zero => intro _; simp [refS]
 | succ n ih =>
  intro hn
  rw [refS_step, List.length_append, ih (by omega)]
  by_cases e : n = k
  ·subst e
   have : firstR y D n = none := by
    cases hf : firstR y D n with
    | none => rfl
    | some u =>
     obtain ⟨h1, h2, h3⟩ := firstR_some hf
     exact absurd h1 (h.no u h3 h2)
   rw [this, if_neg (by omega), if_pos (by omega)]; simp
  ·obtain ⟨s, hs⟩ := firstR_got (h.got n (by omega) e)
   rw [hs]
   by_cases hk : k < n
   ·rw [if_pos hk, if_pos (by omega)]; simp; omega
   ·rw [if_neg hk, if_neg (by omega)]; simp
theorem WInv.stamp (h : WInv y N k L D N) (hN : (N : Int) = 3 * f + 1) {s : StampD} (hs : s ∈ refS y D N) : s ∈ D ∧ sameN s y = true ∧ s.r ≠ k ∧ rightS f L s = true := by
 obtain ⟨_, hf⟩ := refS_mem.1 hs
 obtain ⟨_, h2, h3⟩ := firstR_some hf
 obtain ⟨g, ht, hr, _⟩ := h.all s h3
 exact ⟨h3, h2, h.no s h3 h2, goodS_right g ⟨hr.1, by omega⟩ ⟨ht.1, by omega⟩⟩
theorem take_getD {S : List StampD} {i : Nat} (h : i < (S.take Q).length) : (S.take Q).getD i stamp0 ∈ S := by
 rw [List.getD_eq_getElem?_getD, List.getElem?_eq_getElem h]
 exact List.mem_of_mem_take (List.getElem_mem h)
theorem take_rise {x : CommitD} {S : List StampD} (n : Nat) {i : Nat} (h0 : 0 < i) (h : i < ((refS x S n).take Q).length) : (((refS x S n).take Q).getD (i - 1) stamp0).r < (((refS x S n).take Q).getD i stamp0).r := by
 have hp := (refS_sorted x S n).sublist (List.take_sublist Q _)
 have := List.pairwise_iff_getElem.1 hp (i - 1) i (by omega) h (by omega)
 have e1 : ((refS x S n).take Q).getD i stamp0 = ((refS x S n).take Q)[i] := by rw [List.getD_eq_getElem?_getD, List.getElem?_eq_getElem h]; rfl
 have e2 : ((refS x S n).take Q).getD (i - 1) stamp0 = ((refS x S n).take Q)[i - 1]'(by omega) := by rw [List.getD_eq_getElem?_getD, List.getElem?_eq_getElem (show i - 1 < ((refS x S n).take Q).length by omega)]; rfl
 rw [e1, e2]
 exact this
theorem WInv.right (h : WInv y N k L D N) (hN : (N : Int) = 3 * f + 1) (hQ : (Q : Int) = 2 * f + 1) (hl : Q ≤ (refS y D N).length) {cn : Int} (hc : rightC cn L y = true) : rightX f cn L y ((refS y D N).take Q) = true := by
 have hlen : ((refS y D N).take Q).length = Q := by rw [List.length_take]; omega
 unfold rightX
 rw [hc, hlen, decide_eq_true hQ, Bool.true_and, Bool.true_and]
 refine all_upto fun i hi => ?_
 have hi' : i < ((refS y D N).take Q).length := by omega
 obtain ⟨_, h2, _, h4⟩ := h.stamp hN (take_getD hi')
 unfold okAt
 rw [h2, h4, Bool.and_true, Bool.and_true]
 by_cases h0 : i = 0
 ·subst h0; rfl
 ·have := take_rise (x := y) (S := D) (Q := Q) N (show 0 < i by omega) hi'
  rw [Bool.or_eq_true]
  right
  rw [Bool.not_eq_true', decide_eq_false_iff_not]
  omega
end
theorem signL_nodup {L : List Signed} (h : L.Nodup) (y : Signed) : (signL L y).Nodup := by
 unfold signL; split
 ·exact h
 ·rename_i hn
  rw [List.nodup_append]; exact ⟨h, by simp, fun x hx z hz => by rw [List.mem_singleton.1 hz]; exact fun e => hn (e ▸ hx)⟩
theorem WInv.ok {y : CommitD} {N k Q : Nat} {L : List Signed} {D : List StampD} (h : WInv y N k L D N) (hN : N ≤ 1000) : StsOk ((refS y D N).take Q) := fun i hi => by
 obtain ⟨_, hf⟩ := refS_mem.1 (take_getD hi)
 obtain ⟨_, _, h3⟩ := firstR_some hf
 obtain ⟨_, h4, h5, h6, h7⟩ := h.all _ h3
 exact ⟨by omega, by omega, by omega, by omega, by omega⟩
theorem slice_addrS {a a' : Option Addr} {n c n' c' : Nat} (h : Value.slice a n c = .slice a' n' c') : a = a' := by simp only [Value.slice.injEq] at h; exact h.1
theorem list_offS {α : Type} {enc : α → List Value} {sz : Nat} (hs : ∀ x, (enc x).length = sz) (h0 : 0 < sz) {W w : World} {G : List Ck} (H : Sat W G w) (is : List Nat) (j : Nat) {B : List Ck} (hB : (is.filterMap fun i => G[i]?) = B) (hj : G[j]? = some (restC W fun _ => False)) (hne : is.all (fun i => !Nat.beq i j) = true) {va : Option Addr} {n vc : Nat} {ls : List α} (hv : ListAt enc sz W (.slice va n vc) ls) : 0 < ls.length → ∀ a, va = some a → ¬ (sepC B).fp a.block := by
 intro h1 a ha hfp
 obtain ⟨vb, vo, vc', hva, hvs⟩ := hv.cells hs h0 h1
 have h2 := slice_addrS hva
 rw [h2] at ha
 obtain rfl := (Option.some.inj ha)
 have hl : 0 < (ls.flatMap enc).length := by rw [flat_len enc sz hs]; exact Nat.mul_pos h1 h0
 have hc := hvs 0 _ (List.getElem?_eq_getElem hl)
 rw [Addr.add_lit] at hc
 have hlt := World.block_lt_of_cell? W _ hc
 subst hB
 obtain ⟨A, hA, hAf⟩ := hfp
 obtain ⟨i, hi, he⟩ := List.mem_filterMap.1 hA
 have hij : Nat.beq i j = false := by simpa using List.all_eq_true.1 hne i hi
 exact H.apart i j he hj hij _ hAf ⟨hlt, fun h => h⟩
section
variable {P : Program} {ops : Array Oper} {Q : Exit → Act → World → Prop} {md : Region.Mode} {S : World → Prop} {B : Nat → Bool}
end
section
variable {P : Program} {n : Nat} {f : Nat → Value} {w w0 : World} {dst : Option Tmp} {ty : TypeId} {pos : String} {aft : Array Edge} {gd : Option (Nat × Bool)} {K : Act → World → Prop} {Q : Exit → Act → World → Prop} {G : List Ck}
end
abbrev kCert10_0 (p0 : Nat) : List Value := ([(.map (some p0))] : List Value)
abbrev kCert10_1 (p0 : Nat) (p1 : List Signed) : Ck := mapC p0 signedV (Value.int .i64) (marks p1)
abbrev kCert10_2 (p0 : Option Addr) (p1 : Nat) (p2 : Nat) : List Value := ([(.slice p0 p1 p2)] : List Value)
abbrev kCert10_3 (p0 : Option Addr) (p1 : List Signed) (p2 : Nat) : Ck := rowC 181 2 (.slice p0 p1.length p2) p1.length (p1.flatMap encS)
abbrev kCert10_4 (p0 : Nat) (p1 : Nat) : List Value := ([(pt p0 0), (pt p1 0)] : List Value)
abbrev kCert10_5 (p0 : Int) (p1 : Int) : List Value := ([(.int .i64 p0), (.int .i64 p1)] : List Value)
abbrev kCert10_6 (p0 : CommitD) : List Value := ([(.int .i64 p0.cl), (.int .i64 p0.seq)] : List Value) ++ hc p0.h ++ ([(.int .i64 p0.len), (.int .i64 p0.sb), (.int .i64 p0.sm)] : List Value)
abbrev kCert10_7 : List Value := ([(.int .i64 (0)), (.int .i64 (0))] : List Value) ++ hc hash0 ++ ([(.int .i64 (0)), (.int .i64 (0)), (.int .i64 (0)), (.slice none 0 0)] : List Value)
abbrev kCert10_8 (p0 : CommitD) : List Value := ([(.int .i64 p0.cl), (.int .i64 p0.seq)] : List Value) ++ hc p0.h ++ ([(.int .i64 p0.len), (.int .i64 p0.sb), (.int .i64 p0.sm), (.slice none 0 0)] : List Value)
abbrev kCert10_9 (p0 : CommitD) (p1 : Option Addr) (p2 : Nat) (p3 : Nat) : List Value := ([(.int .i64 p0.cl), (.int .i64 p0.seq)] : List Value) ++ hc p0.h ++ ([(.int .i64 p0.len), (.int .i64 p0.sb), (.int .i64 p0.sm), (.slice p1 p2 p3)] : List Value)
abbrev kCert10_10 (p0 : Option Addr) (p1 : List StampD) (p2 : Nat) : Ck := rowC 149 38 (.slice p0 p1.length p2) p1.length (p1.flatMap encSt)
abbrev kCert10_11 (p0 : StampD) : List Value := ([(.int .i64 p0.r), (.int .i64 p0.cl), (.int .i64 p0.seq)] : List Value) ++ hc p0.h ++ ([(.int .u64 p0.t), (.int .i64 p0.sb), (.int .i64 p0.sm)] : List Value)
theorem slice_addrB {va : Option Addr} {n c n' c' : Nat} {ad : Addr} (h : Value.slice va n c = .slice (some ad) n' c') : va = some ad := by
 simp only [Value.slice.injEq] at h; exact h.1
theorem getD_memU {xs : List Int} {i : Nat} (h : i < xs.length) : xs.getD i 0 ∈ xs := by
 rw [List.getD_eq_getElem?_getD, List.getElem?_eq_getElem h]; exact List.getElem_mem h
theorem bkCert_any (w : World) (b mb r : Nat) (a : Option Addr) (c : Nat) (L : List Signed) (hB : (sepC (bothL b mb r a c L)).ok w) (f cn : Int) (hf : 1 ≤ f ∧ f ≤ 5) (x : CommitD) (hx : CoOk x) (from_ : Int) (hL : L.length ≤ 1000) (hn : L.Nodup) (va : Option Addr) (vc : Nat) (xs : List Int) (hxs : ListAt encU 1 w (.slice va xs.length vc) xs) (hbd : ∀ x ∈ xs, 0 ≤ x ∧ x ≤ 18446744073709551615) (hva : 0 < xs.length → ∀ ad, va = some ad → ¬ (sepC (bothL b mb r a c L)).fp ad.block) :
  Calls Tryz.prog 32 #[(.agg ⟨([(.pointer (some ⟨b, 0, none⟩)), (.pointer (some ⟨r, 0, none⟩))] : List Value)⟩), (.agg ⟨([(.int .i64 (f)), (.int .i64 (cn))] : List Value)⟩), (.agg ⟨(([(.int .i64 (x.cl)), (.int .i64 (x.seq))] : List Value) ++ hc x.h ++ ([(.int .i64 (x.len)), (.int .i64 (x.sb)), (.int .i64 (x.sm))] : List Value))⟩), (.int .i64 (from_)), (.slice va xs.length vc)] w fun e w' => ∃ (ra : Option Addr) (rc : Nat) (L1 : List Signed) (da : Option Addr) (dc : Nat) (D : List StampD), e = .returned (.agg ⟨encCo x ++ [.slice da D.length dc]⟩) ∧ (D.length : Int) = 2 * f + 1 ∧ (∀ s ∈ D, StB s) ∧ L1.Nodup ∧ L1.length ≤ L.length + 11 ∧ L <+: L1 ∧ Sat w [cellC b 179 [.map (some mb)], mapC mb signedV (Value.int .i64) (marks L1), cellC r 165 [.slice ra (L1).length rc], rowC 181 2 (.slice ra (L1).length rc) (L1).length ((L1).flatMap encS), rowC 149 38 (.slice da D.length dc) D.length (D.flatMap encSt), restC w (sepC (bothL b mb r a c L)).fp] w' := by
 have hwf := within_lim from_ (f + 1) (by omega)
 obtain ⟨Q, hQ⟩ : ∃ Q : Nat, (Q : Int) = 2 * f + 1 := ⟨(2 * f + 1).toNat, by omega⟩
 have H := Sat.start (bothL b mb r a c L) hB
 refine calls_fr Tryz.func32 rfl 50 rfl (Nat.le_of_ble_eq_true rfl) ?_
 refine zsl <| zwd fun Kq kq => zdb (kCert10_4 b r) H fun b2 w3 H4 => ?_
 refine kq _ _ <| zwd fun Kq kq => zdb (kCert10_5 f cn) H4 fun b6 w7 H8 => ?_
 refine kq _ _ <| zwd fun Kq kq => zdb (kCert10_6 x) H8 fun b10 w11 H12 => ?_
 refine kq _ _ <| zwd fun Kq kq => zda (kCert10_7) H12 fun b14 w15 H16 => ?_
 refine kq _ _ <| znsl <| zwN 14 (kCert10_6 x) (H16.at 7 rfl) <| wv 15 (.agg ⟨(kCert10_8 x)⟩) <| zwd fun Kq kq => zda (kCert10_7) H16 fun b18 w19 H20 => ?_
 refine kq _ _ <| zwd fun Kq kq => zds1 (kCert10_8 x) H20 9 fun w22 H23 => ?_
 refine kq _ _ <| znsl <| wv 16 (.int .i64 (from_)) <| wv 17 (pt b6 0) <| zw1 18 (.int .i64 (f)) (H23.cell 6 rfl rfl) <| zwi 19 (f + 1) <| zwd fun Kq kq => zdq 20 (within_any w22 from_ (f + 1) (by omega)) H23 fun w26 H27 => ?_
 refine kq _ _ <| wv 3 (.int .i64 (withinV from_ (f + 1))) <| znt <| w_seq <| zsl <| wv 12 (.int .i64 (0)) <| znt <| w_block ?_
 have H29 := H27.addNil 149 38
 refine wp_round ([12, 13] ++ List.range' 21 28) (fun F_ W_ m_ => ∃ (i : Nat) (da : Option Addr) (dc : Nat) (D : List StampD) (ra : Option Addr) (rc : Nat) (L1 : List Signed), F_ 12 = (.int .i64 ((i : Int))) ∧ (i ≤ Q) ∧ (∀ s ∈ D, StB s) ∧ (L1.Nodup) ∧ (L1.length ≤ L.length + i) ∧ (D.length = i) ∧ (L <+: L1) ∧ Sat w [cellC b 179 (kCert10_0 mb), (kCert10_1 mb L1), cellC r 165 (kCert10_2 ra L1.length rc), (kCert10_3 ra L1 rc), restC w (sepC (bothL b mb r a c L)).fp, cellC b2 33 (kCert10_4 b r), cellC b6 29 (kCert10_5 f cn), cellC b10 73 (kCert10_6 x), cellC b14 76 (kCert10_7), cellC b18 76 (kCert10_9 x da D.length dc), (kCert10_10 da D dc)] W_ ∧ m_ = Q - i) _ ⟨0, none, 0, [], a, c, L, (show ((.int .i64 (0)) : Value) = _ by first | rfl | go_num), (Nat.zero_le _), (by simp), hn, (by omega), rfl, (List.prefix_refl _), H29, rfl⟩ ?_
 rintro g30 w31 _ ⟨i, da, dc, D, ra, rc, L1, v33, hin, hok, hnd, hLl, hDl, hpre, H32, rfl⟩
 refine wp_know 12 _ v33 ?_
 refine w_seq <| zsl <| wv 21 (.int .i64 ((i : Int))) <| zwN 22 (kCert10_5 f cn) (H32.at 6 rfl) <| zwd fun Kq kq => zdq 23 (rQ_any w31 f cn (by omega)) H32 fun w36 H37 => ?_
 refine kq _ _ <| wv 24 (.bool (decide ((i : Int) < (2 * f + 1)))) <| znt ?_
 refine (bsplit (decide ((i : Int) < (2 * f + 1)))).elim (fun b39 => ?_) (fun b39 => ?_)
 ·have g40 := of_decide_eq_true b39
  refine zwkt _ b39 ?_
  refine w_skip <| ztn <| w_seq <| w_block <| zsl <| wv 13 (.int .u64 (5)) <| znt <| w_seq <| zsl <| wv 27 (.int .i64 ((i : Int))) ?_
  refine wv 28 (.slice va xs.length vc) <| wv 29 (.int .i64 ((xs.length : Int))) <| wv 30 (.bool (decide ((i : Int) < (xs.length : Int)))) <| znt ?_
  refine (bsplit (decide ((i : Int) < (xs.length : Int)))).elim (fun b42 => ?_) (fun b42 => ?_)
  ·have g43 := of_decide_eq_true b42
   refine zwkt _ b42 ?_
   have hx0 : 0 ≤ xs.getD i 0 := (hbd _ (getD_memU (by omega))).1
   refine w_lit <| wv 31 (.slice va xs.length vc) <| wv 32 (.int .i64 ((i : Int))) ?_
   obtain ⟨g45, o46, c47, e48, R49⟩ := SliceOf.atD hxs 0 (show i < xs.length by omega)
   refine wv 33 (.pointer (some ⟨g45, o46 + ((i : Int)).toNat * 1, none⟩)) ?_ (hr := e_indexAddrW (E := 25) (by kernel_rfl) (by kernel_rfl) (Nat.le_of_ble_eq_true rfl) rfl e48 rfl (by omega) (by omega))
   refine zw1 34 (.int .u64 ((xs.getD i 0))) (H37.cellR 4 rfl (cells_at R49 0 (by kernel_rfl) (show o46 + ((i : Int)).toNat * 1 = o46 + i * 1 + 0 by omega)) (by have hq := hva (by omega) _ (slice_addrB e48); exact hq)) <| wv 35 (.int .u64 ((xs.getD i 0) % 1000)) ?_ (hr := e_rem (by kernel_rfl) (by omega) (by omega))
   refine wv 36 (.int .u64 (1 + ((xs.getD i 0) % 1000))) ?_ (hr := e_int (z := 1 + ((xs.getD i 0) % 1000)) (by kernel_rfl) (wrap_u64 (by omega)))
   refine wv 13 (.int .u64 (1 + ((xs.getD i 0) % 1000))) <| znt <| k_start H37 [restC w (sepC (bothL b mb r a c L)).fp, cellC b2 33 (kCert10_4 b r), cellC b6 29 (kCert10_5 f cn), cellC b10 73 (kCert10_6 x), cellC b14 76 (kCert10_7), cellC b18 76 (kCert10_9 x da D.length dc)] [12] 13 rfl (by kernel_rfl) (fun Hx => (Hx.pk [4, 5, 6, 7, 8, 9])) fun w50 H51 S52 => ?_
   refine zkp 0 S52 37 (pt b18 37) <| zkv 1 S52 38 (.slice da D.length dc) ?_ (he := fun _ H' => (zl1 (H'.cell 5 rfl (by kernel_rfl))))
   refine zkv 2 S52 39 (.agg ⟨(kCert10_4 b r)⟩) ?_ (he := fun _ H' => (zlN (vs := (kCert10_4 b r)) (H'.at 1 rfl)))
   refine zkp 3 S52 40 (.int .i64 (withinV from_ (f + 1))) <| zkp 4 S52 41 (.int .i64 ((i : Int))) <| zkp 5 S52 42 (.int .i64 ((withinV from_ (f + 1)) + (i : Int))) ?_ (he := fun _ => (e_int (z := (withinV from_ (f + 1)) + (i : Int)) (by kernel_rfl) (IntWalk.i64_in _ (by omega))))
   refine zkv 6 S52 43 (.agg ⟨(kCert10_6 x)⟩) ?_ (he := fun _ H' => (zlN (vs := (kCert10_6 x)) (H'.at 3 rfl)))
   refine zkp 7 S52 44 (.int .u64 (1 + ((xs.getD i 0) % 1000))) <| zkd0 8 fun Kq kq => ?_
   refine zdc 45 (bkStamp_any w50 b mb r ra rc L1 (H51.fn [0, 1, 2, 3]) ((withinV from_ (f + 1)) + (i : Int)) x (1 + ((xs.getD i 0) % 1000)) (by omega) hx (by omega) (by omega) hnd) ?_
   rintro _ w54 ⟨a56, c57, rfl, T55⟩
   obtain ⟨L59, hL59⟩ : ∃ L59 : List Signed, L59 = signL L1 (yS ((withinV from_ (f + 1)) + (i : Int)) x (1 + ((xs.getD i 0) % 1000))) := ⟨_, rfl⟩
   rw [← hL59] at T55
   have H60 := H51.tl [cellC b 179 (kCert10_0 mb), (kCert10_1 mb L59), cellC r 165 (kCert10_2 a56 L59.length c57), (kCert10_3 a56 L59 c57)] [0, 1, 2, 3] [4, 5, 6, 7, 8, 9, 10] T55 [0, 1, 2, 3, 4, 5, 6, 7, 8, 9, 10]
   refine ⟨_, rfl, ?_⟩
   obtain ⟨S58, hS58⟩ : ∃ S58 : StampD, S58 = mkS L1 ((withinV from_ (f + 1)) + (i : Int)) x (1 + ((xs.getD i 0) % 1000)) := ⟨_, rfl⟩
   rw [← hS58]
   have ndL59 : L59.Nodup := by rw [hL59]; exact signL_nodup hnd _
   have llL59 : L59.length ≤ L1.length + 1 := by rw [hL59]; exact signL_len _ _
   have S61 := H60.pk [4, 5, 6, 7, 8, 9]
   refine kq _ _ S61 <| zkd0 9 fun Kq kq => ?_
   refine zdbs 149 38 80 (.agg ⟨(([(.int .i64 (0)), (.int .i64 (0)), (.int .i64 (0))] : List Value) ++ hc hash0 ++ ([(.int .u64 (0)), (.int .i64 (0)), (.int .i64 (0))] : List Value))⟩) [(0, (.agg ⟨(kCert10_11 S58)⟩))] (kCert10_11 S58) H60 ?_
   intro b63 w64 (H65 : Sat w [cellC b 179 (kCert10_0 mb), (kCert10_1 mb L59), cellC r 165 (kCert10_2 a56 L59.length c57), (kCert10_3 a56 L59 c57), restC w (sepC (bothL b mb r a c L)).fp, cellC b2 33 (kCert10_4 b r), cellC b6 29 (kCert10_5 f cn), cellC b10 73 (kCert10_6 x), cellC b14 76 (kCert10_7), cellC b18 76 (kCert10_9 x da D.length dc), (kCert10_10 da D dc), rowC 149 38 (.slice (some ⟨b63, 0, none⟩) 1 1) 1 (kCert10_11 S58)] w64)
   have H66 : Sat w [cellC b 179 (kCert10_0 mb), (kCert10_1 mb L59), cellC r 165 (kCert10_2 a56 L59.length c57), (kCert10_3 a56 L59 c57), restC w (sepC (bothL b mb r a c L)).fp, cellC b2 33 (kCert10_4 b r), cellC b6 29 (kCert10_5 f cn), cellC b10 73 (kCert10_6 x), cellC b14 76 (kCert10_7), cellC b18 76 (kCert10_9 x da D.length dc), (kCert10_10 da D dc), rowC 149 38 (.slice (some ⟨b63, 0, none⟩) 1 1) 1 ([S58].flatMap encSt)] w64 := H65.cast (by rw [(show ((kCert10_11 S58) : List Value) = [S58].flatMap encSt by kernel_rfl)])
   have S67 := H66.pk [4, 5, 6, 7, 8, 9]
   refine kq _ _ S67 <| zkd0 10 fun Kq kq => ?_
   refine d_append (T := 74) (e := 149) (size := 38) (bytes := 80) rfl H66 (by kernel_rfl) 10 11 rfl rfl rfl rfl (flat_one encSt encSt_one [S58]) (by omega) (by omega) ?_
   intro v69 w70 H71
   have H74 : Sat w [cellC b 179 (kCert10_0 mb), (kCert10_1 mb L59), cellC r 165 (kCert10_2 a56 L59.length c57), (kCert10_3 a56 L59 c57), restC w (sepC (bothL b mb r a c L)).fp, cellC b2 33 (kCert10_4 b r), cellC b6 29 (kCert10_5 f cn), cellC b10 73 (kCert10_6 x), cellC b14 76 (kCert10_7), cellC b18 76 (kCert10_9 x da D.length dc), rowC 149 38 v69 ((D ++ [S58]).length) ((D ++ [S58]).flatMap encSt), rowC 149 38 (.slice (some ⟨b63, 0, none⟩) 1 1) 1 ([S58].flatMap encSt)] w70 := H71.cast (by simp only [List.length_append, List.flatMap_append] <;> rfl)
   obtain ⟨a72, c73, rfl⟩ := ownsRow_shape (H74.at 10 rfl)
   have S75 := H74.pk [4, 5, 6, 7, 8, 9]
   refine kq _ _ S75 <| zkp 11 S75 48 (pt b18 37) <| k_brk 12 (Sat w [restC w (sepC (bothL b mb r a c L)).fp, cellC b2 33 (kCert10_4 b r), cellC b6 29 (kCert10_5 f cn), cellC b10 73 (kCert10_6 x), cellC b14 76 (kCert10_7)]) rfl (by kernel_rfl) (wants0 rfl) rfl (fun Kq kq => ?_)
   refine zds (kCert10_2 a72 ((D ++ [S58]).length) c73) (kCert10_9 x a72 ((D ++ [S58]).length) c73) H74 9 ?_
   intro w77 H78
   have S80 := H78.pk [4, 5, 6, 7, 8]
   refine kq _ _ S80 <| zhf <| blk_normal <| ztn <| w_lit <| wv 25 (.int .i64 ((i : Int))) <| zwi 26 ((i : Int) + 1) <| wv 12 (.int .i64 ((i : Int) + 1)) <| w_nil ?_
   have hok2 : ∀ s ∈ (D ++ [S58]), StB s := fun s hs => by
    rcases List.mem_append.1 hs with h | h
    ·exact hok s h
    rw [List.mem_singleton.1 h, hS58]; exact ⟨⟨by show withinV from_ (f + 1) + (i : Int) ≤ _; omega, hx.1, hx.2.1, by show 0 ≤ (1 + ((xs.getD i 0) % 1000)); omega, by show (1 + ((xs.getD i 0) % 1000)) < _; omega⟩, by show withinV from_ (f + 1) + (i : Int) ≤ _; omega, by have q1 := (markOf_pos (signL_mem L1 (yS (withinV from_ (f + 1) + (i : Int)) x (1 + ((xs.getD i 0) % 1000))))).2; have q2 := signL_len L1 (yS (withinV from_ (f + 1) + (i : Int)) x (1 + ((xs.getD i 0) % 1000))); show markOf _ _ ≤ _; omega⟩
   have H81 := H78.pk [0, 1, 2, 3, 4, 5, 6, 7, 8, 9, 10]
   refine round_back ?_ _ ⟨(i + 1), a72, c73, (D ++ [S58]), a56, c57, L59, rfl, (by omega), hok2, ndL59, (by omega), (by simp only [List.length_append, List.length_cons, List.length_nil]; omega), (by rw [hL59]; exact hpre.trans (by unfold signL; split; exact List.prefix_refl _; exact List.prefix_append _ _)), H81, rfl⟩ (by omega)
   exact zs
  have g82 := of_decide_eq_false b42
  refine zwkf _ b42 ?_
  refine w_skip <| ztn <| k_start H37 [restC w (sepC (bothL b mb r a c L)).fp, cellC b2 33 (kCert10_4 b r), cellC b6 29 (kCert10_5 f cn), cellC b10 73 (kCert10_6 x), cellC b14 76 (kCert10_7), cellC b18 76 (kCert10_9 x da D.length dc)] [12] 13 rfl (by kernel_rfl) (fun Hx => (Hx.pk [4, 5, 6, 7, 8, 9])) fun w84 H85 S86 => ?_
  refine zkp 0 S86 37 (pt b18 37) <| zkv 1 S86 38 (.slice da D.length dc) ?_ (he := fun _ H' => (zl1 (H'.cell 5 rfl (by kernel_rfl))))
  refine zkv 2 S86 39 (.agg ⟨(kCert10_4 b r)⟩) ?_ (he := fun _ H' => (zlN (vs := (kCert10_4 b r)) (H'.at 1 rfl)))
  refine zkp 3 S86 40 (.int .i64 (withinV from_ (f + 1))) <| zkp 4 S86 41 (.int .i64 ((i : Int))) <| zkp 5 S86 42 (.int .i64 ((withinV from_ (f + 1)) + (i : Int))) ?_ (he := fun _ => (e_int (z := (withinV from_ (f + 1)) + (i : Int)) (by kernel_rfl) (IntWalk.i64_in _ (by omega))))
  refine zkv 6 S86 43 (.agg ⟨(kCert10_6 x)⟩) ?_ (he := fun _ H' => (zlN (vs := (kCert10_6 x)) (H'.at 3 rfl)))
  refine zkp 7 S86 44 (.int .u64 (5)) <| zkd0 8 fun Kq kq => ?_
  refine zdc 45 (bkStamp_any w84 b mb r ra rc L1 (H85.fn [0, 1, 2, 3]) ((withinV from_ (f + 1)) + (i : Int)) x (5 : Int) (by omega) hx (by omega) (by omega) hnd) ?_
  rintro _ w88 ⟨a90, c91, rfl, T89⟩
  obtain ⟨L93, hL93⟩ : ∃ L93 : List Signed, L93 = signL L1 (yS ((withinV from_ (f + 1)) + (i : Int)) x (5 : Int)) := ⟨_, rfl⟩
  rw [← hL93] at T89
  have H94 := H85.tl [cellC b 179 (kCert10_0 mb), (kCert10_1 mb L93), cellC r 165 (kCert10_2 a90 L93.length c91), (kCert10_3 a90 L93 c91)] [0, 1, 2, 3] [4, 5, 6, 7, 8, 9, 10] T89 [0, 1, 2, 3, 4, 5, 6, 7, 8, 9, 10]
  refine ⟨_, rfl, ?_⟩
  obtain ⟨S92, hS92⟩ : ∃ S92 : StampD, S92 = mkS L1 ((withinV from_ (f + 1)) + (i : Int)) x (5 : Int) := ⟨_, rfl⟩
  rw [← hS92]
  have ndL93 : L93.Nodup := by rw [hL93]; exact signL_nodup hnd _
  have llL93 : L93.length ≤ L1.length + 1 := by rw [hL93]; exact signL_len _ _
  have S95 := H94.pk [4, 5, 6, 7, 8, 9]
  refine kq _ _ S95 <| zkd0 9 fun Kq kq => ?_
  refine zdbs 149 38 80 (.agg ⟨(([(.int .i64 (0)), (.int .i64 (0)), (.int .i64 (0))] : List Value) ++ hc hash0 ++ ([(.int .u64 (0)), (.int .i64 (0)), (.int .i64 (0))] : List Value))⟩) [(0, (.agg ⟨(kCert10_11 S92)⟩))] (kCert10_11 S92) H94 ?_
  intro b97 w98 (H99 : Sat w [cellC b 179 (kCert10_0 mb), (kCert10_1 mb L93), cellC r 165 (kCert10_2 a90 L93.length c91), (kCert10_3 a90 L93 c91), restC w (sepC (bothL b mb r a c L)).fp, cellC b2 33 (kCert10_4 b r), cellC b6 29 (kCert10_5 f cn), cellC b10 73 (kCert10_6 x), cellC b14 76 (kCert10_7), cellC b18 76 (kCert10_9 x da D.length dc), (kCert10_10 da D dc), rowC 149 38 (.slice (some ⟨b97, 0, none⟩) 1 1) 1 (kCert10_11 S92)] w98)
  have H100 : Sat w [cellC b 179 (kCert10_0 mb), (kCert10_1 mb L93), cellC r 165 (kCert10_2 a90 L93.length c91), (kCert10_3 a90 L93 c91), restC w (sepC (bothL b mb r a c L)).fp, cellC b2 33 (kCert10_4 b r), cellC b6 29 (kCert10_5 f cn), cellC b10 73 (kCert10_6 x), cellC b14 76 (kCert10_7), cellC b18 76 (kCert10_9 x da D.length dc), (kCert10_10 da D dc), rowC 149 38 (.slice (some ⟨b97, 0, none⟩) 1 1) 1 ([S92].flatMap encSt)] w98 := H99.cast (by rw [(show ((kCert10_11 S92) : List Value) = [S92].flatMap encSt by kernel_rfl)])
  have S101 := H100.pk [4, 5, 6, 7, 8, 9]
  refine kq _ _ S101 <| zkd0 10 fun Kq kq => ?_
  refine d_append (T := 74) (e := 149) (size := 38) (bytes := 80) rfl H100 (by kernel_rfl) 10 11 rfl rfl rfl rfl (flat_one encSt encSt_one [S92]) (by omega) (by omega) ?_
  intro v103 w104 H105
  have H108 : Sat w [cellC b 179 (kCert10_0 mb), (kCert10_1 mb L93), cellC r 165 (kCert10_2 a90 L93.length c91), (kCert10_3 a90 L93 c91), restC w (sepC (bothL b mb r a c L)).fp, cellC b2 33 (kCert10_4 b r), cellC b6 29 (kCert10_5 f cn), cellC b10 73 (kCert10_6 x), cellC b14 76 (kCert10_7), cellC b18 76 (kCert10_9 x da D.length dc), rowC 149 38 v103 ((D ++ [S92]).length) ((D ++ [S92]).flatMap encSt), rowC 149 38 (.slice (some ⟨b97, 0, none⟩) 1 1) 1 ([S92].flatMap encSt)] w104 := H105.cast (by simp only [List.length_append, List.flatMap_append] <;> rfl)
  obtain ⟨a106, c107, rfl⟩ := ownsRow_shape (H108.at 10 rfl)
  have S109 := H108.pk [4, 5, 6, 7, 8, 9]
  refine kq _ _ S109 <| zkp 11 S109 48 (pt b18 37) <| k_brk 12 (Sat w [restC w (sepC (bothL b mb r a c L)).fp, cellC b2 33 (kCert10_4 b r), cellC b6 29 (kCert10_5 f cn), cellC b10 73 (kCert10_6 x), cellC b14 76 (kCert10_7)]) rfl (by kernel_rfl) (wants0 rfl) rfl (fun Kq kq => ?_)
  refine zds (kCert10_2 a106 ((D ++ [S92]).length) c107) (kCert10_9 x a106 ((D ++ [S92]).length) c107) H108 9 ?_
  intro w111 H112
  have S114 := H112.pk [4, 5, 6, 7, 8]
  refine kq _ _ S114 <| zhf <| blk_normal <| ztn <| w_lit <| wv 25 (.int .i64 ((i : Int))) <| zwi 26 ((i : Int) + 1) <| wv 12 (.int .i64 ((i : Int) + 1)) <| w_nil ?_
  have hok2 : ∀ s ∈ (D ++ [S92]), StB s := fun s hs => by
   rcases List.mem_append.1 hs with h | h
   ·exact hok s h
   rw [List.mem_singleton.1 h, hS92]; exact ⟨⟨by show withinV from_ (f + 1) + (i : Int) ≤ _; omega, hx.1, hx.2.1, by show 0 ≤ (5 : Int); omega, by show (5 : Int) < _; omega⟩, by show withinV from_ (f + 1) + (i : Int) ≤ _; omega, by have q1 := (markOf_pos (signL_mem L1 (yS (withinV from_ (f + 1) + (i : Int)) x (5 : Int)))).2; have q2 := signL_len L1 (yS (withinV from_ (f + 1) + (i : Int)) x (5 : Int)); show markOf _ _ ≤ _; omega⟩
  have H115 := H112.pk [0, 1, 2, 3, 4, 5, 6, 7, 8, 9, 10]
  refine round_back ?_ _ ⟨(i + 1), a106, c107, (D ++ [S92]), a90, c91, L93, rfl, (by omega), hok2, ndL93, (by omega), (by simp only [List.length_append, List.length_cons, List.length_nil]; omega), (by rw [hL93]; exact hpre.trans (by unfold signL; split; exact List.prefix_refl _; exact List.prefix_append _ _)), H115, rfl⟩ (by omega)
  exact zs
 have g116 := of_decide_eq_false b39
 refine zwkf _ b39 ?_
 refine zxb <| ztn <| zsl <| zwN 49 (kCert10_9 x da D.length dc) (H37.at 9 rfl) <| zwd fun Kq kq => zds1 (kCert10_9 x da D.length dc) H37 8 fun w119 H120 => ?_
 refine kq _ _ <| znt <| w_ret <| end1 rfl (res_cellN (vs := (kCert10_9 x da D.length dc)) rfl (by kernel_rfl) (by kernel_rfl) (Nat.le_of_ble_eq_true (by kernel_rfl)) (H120.at 8 rfl) (by kernel_rfl)) ?_
 exact ⟨ra, rc, L1, da, dc, D, rfl, by omega, hok, hnd, by omega, hpre, H120.pk [0, 1, 2, 3, 10, 4]⟩
end Go.Proofs.YtenihpghfdcpkaaGreat
