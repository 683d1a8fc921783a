/- WHAT IS PROVED: contracts and plain laws of PlS, PlQ, CutS, OpenB11. Conditions: stated with each. -/
import Derived.Test.YtoaifondpohniaaGreatPL06
import Derived.Test.YtoaifondpohniaaGreatPL17
import Derived.Test.YtoaifondpohniaaGreatPL18
import Derived.Test.YtoaifondpohniaaGreatPL19
import Derived.Test.YtoaifondpohniaaGreatPL21
import Derived.Test.YtoaifondpohniaaGreatPL33
import Derived.Test.YtoaifondpohniaaGreatPL35
import Derived.Test.YtoaifondpohniaaGreatPL36
import Derived.Test.YtoaifondpohniaaGreatPL37
import Derived.Test.YtoaifondpohniaaGreatPL38
import Derived.Test.YtoaifondpohniaaGreatPL39
import Derived.Test.YtoaifondpohniaaGreatPL40
import Derived.Test.YtoaifondpohniaaGreatPL41
set_option maxHeartbeats 4000000
set_option maxRecDepth 100000
namespace Go.Proofs.YtoaifondpohniaaGreat
open Go.RowKit
theorem akF_i (w : World) (s : Za) : (part 3 ⟨Z0q s⟩ 0).run Tryz.prog w = .ok (.int .i64 s.r) w ∧ (part 24 ⟨Z0q s⟩ 1).run Tryz.prog w = .ok (Z6c s.cl s.seq) w ∧ (part 26 ⟨Z0q s⟩ 3).run Tryz.prog w = .ok (Z8j s.h) w ∧ (part 27 ⟨Z0q s⟩ 35).run Tryz.prog w = .ok (.int .u64 s.t) w ∧ (part 29 ⟨Z0q s⟩ 36).run Tryz.prog w = .ok (Z6c s.sb s.sm) w :=
 ⟨by kernel_rfl, by kernel_rfl, by kernel_rfl, by kernel_rfl, by kernel_rfl⟩
theorem akF : Flat Tryz.prog 31 Z0q := by
 refine ⟨fun w x y => ?_, by kernel_rfl⟩
 obtain ⟨x1, x2, x3, x4, x5⟩ := akF_i w x
 obtain ⟨y1, y2, y3, y4, y5⟩ := akF_i w y
 have ei := fun a b => run_equalIn_int (P := Tryz.prog) w 9998 3 .i64 .i64 a b Tryz.underlying3
 have eu := fun a b => run_equalIn_int (P := Tryz.prog) w 9998 27 .u64 .u64 a b Tryz.underlying27
 refine (Z1S (d := 9999) _ [x.r == y.r, decide (x.cl = y.cl ∧ x.seq = y.seq), decide (x.h = y.h), x.t == y.t, decide (x.sb = y.sb ∧ x.sm = y.sm)] Tryz.underlying31 (by kernel_rfl)
  ⟨⟨by decide, _, _, x1, y1, ei _ _⟩, ⟨by decide, _, _, x2, y2, Z3J w _ _ _ _⟩, ⟨by decide, _, _, x3, y3, Z2T w 9997 _ _⟩, ⟨by decide, _, _, x4, y4, eu _ _⟩, ⟨by decide, _, _, x5, y5, Z4j w _ _ _ _⟩, trivial⟩).trans ?_
 congr 1
 obtain ⟨a1, a2, a3, a4, a5, a6, a7⟩ := x
 obtain ⟨b1, b2, b3, b4, b5, b6, b7⟩ := y
 rw [Bool.eq_iff_iff]
 simp [and_assoc]
theorem Z4w {α : Type} {enc : α → List Value} {sz : Nat} (hs : ∀ x, (enc x).length = sz) (h0 : 0 < sz) {W w : World} {D : Nat → Prop} {G : List Ck} (H : Sat W G w) (is : List Nat) (j : Nat) {B : List Ck} (hB : (is.filterMap fun i => G[i]?) = B) (hj : G[j]? = some (Z7 W D)) (hne : is.all (fun i => !Nat.beq i j) = true) {va : Option Addr} {n vc : Nat} {ls : List α} (hv : ListAt enc sz W (.slice va n vc) ls) (hf : 0 < ls.length → ∀ ad, va = some ad → ¬ D ad.block) : 0 < ls.length → ∀ a, va = some a → ¬ (ZL B).fp a.block := by
 intro h1 a ha hfp
 obtain ⟨vb, vo, vc', hva, hvs⟩ := hv.cells hs h0 h1
 have h2 : va = some ⟨vb, vo, none⟩ := by simp only [Value.slice.injEq] at hva; exact hva.1
 have h3 := h2
 rw [ha] at h3
 obtain rfl := (Option.some.inj h3)
 have hl : 0 < (ls.flatMap enc).length := by rw [Z1K enc sz hs]; exact Nat.mul_pos h1 h0
 have hc := hvs 0 _ (List.getElem?_eq_getElem hl)
 rw [Addr.add_lit] at hc
 have hlt := World.block_lt_of_cell? W _ hc
 subst hB
 obtain ⟨A, hA, hAf⟩ := hfp
 obtain ⟨i, hi, he⟩ := List.mem_filterMap.1 hA
 have hij : Nat.beq i j = false := by simpa using List.all_eq_true.1 hne i hi
 exact H.apart i j he hj hij _ hAf ⟨hlt, hf h1 _ ha⟩
section
variable {P : Program} {n : Nat} {f : Nat → Value} {w : World}
theorem e_tdiv {o : Oper} {k : IntKind} {a b : Int} (hr : (execOp (ev n f) o).run P w = (Op.intDiv .quo k a b >>= fun v => pure (Next.value v)).run P w) (h : b ≠ 0) (hw : k.wrap (a.tdiv b) = a.tdiv b) : (execOp (ev n f) o).run P w = .ok (.value (.int k (a.tdiv b))) w := by
 rw [hr]
 simp [Op.intDiv, h, hw]
end
theorem ZbU {a b : Int} (ha : -9223372036854775808 ≤ a ∧ a ≤ 9223372036854775807) (hb : 2 ≤ b) : IntKind.i64.wrap (a.tdiv b) = a.tdiv b := by
 have key : ∀ c : Int, 0 ≤ c → 0 ≤ c.tdiv b ∧ 2 * c.tdiv b ≤ c := fun c hc => by
  rw [Int.tdiv_eq_ediv_of_nonneg hc]
  have h1 := Int.ediv_nonneg hc (show 0 ≤ b by omega)
  have h2 := Int.mul_ediv_add_emod c b
  have h3 := Int.emod_nonneg c (show b ≠ 0 by omega)
  have h4 : 2 * (c / b) ≤ b * (c / b) := Int.mul_le_mul_of_nonneg_right hb h1
  omega
 refine IntWalk.i64_in _ ?_
 rcases Int.le_total 0 a with h | h
 ·have := key a h; omega
 ·have h1 := key (-a) (by omega)
  rw [Int.neg_tdiv] at h1
  omega
theorem Zcm (z : Int) : 0 ≤ IntKind.u8.wrap z ∧ IntKind.u8.wrap z < 256 := by
 simp only [IntKind.wrap, IntKind.signed, IntKind.bits]
 constructor
 ·exact Int.emod_nonneg _ (by decide)
 ·exact Int.emod_lt_of_pos _ (by decide)
structure AcOff (D : Nat → Prop) (a : Z9m) : Prop where
 xs : 0 < a.xs.length → ∀ ad, a.ta = some ad → ¬ D ad.block
 S : 0 < a.X.S.length → ∀ ad, a.X.sa = some ad → ¬ D ad.block
theorem Zal {AL : List Z9m} {i : Nat} (h : i < AL.length) : AL.getD i ac0 ∈ AL := by
 rw [List.getD_eq_getElem?_getD, List.getElem?_eq_getElem h]; exact List.getElem_mem h
theorem Z36 {D : List Za} {i : Nat} (h : i < D.length) : D.getD i Ze ∈ D := by
 rw [List.getD_eq_getElem?_getD, List.getElem?_eq_getElem h]; exact List.getElem_mem h
def Z1B (ep last til : Int) : Int := if 0 ≤ ep ∧ ep ≤ 1048576 then (if til ≤ last ∨ til = 18446744073709551615 then 4 else 0) else 1
theorem Z3W {ep last til : Int} : Z1B ep last til = 0 ↔ (0 ≤ ep ∧ ep ≤ 1048576) ∧ ¬ (til ≤ last ∨ til = 18446744073709551615) := by
 unfold Z1B
 by_cases h1 : 0 ≤ ep ∧ ep ≤ 1048576
 ·rw [if_pos h1]
  by_cases h2 : til ≤ last ∨ til = 18446744073709551615
  ·rw [if_pos h2]; exact ⟨fun h => absurd h (by decide), fun h => absurd h2 h.2⟩
  ·rw [if_neg h2]; exact ⟨fun _ => ⟨h1, h2⟩, fun _ => rfl⟩
 ·rw [if_neg h1]; exact ⟨fun h => absurd h (by decide), fun h => absurd h.1 h1⟩
def Z9F (p : PrR) : Signed := ⟨p.r, Z0f (⟨p.r, p.e, p.f, p.ca, p.cc, 0, 0, p.C⟩ : PrR)⟩
structure Z9X (rp ep til : Int) (Lb Lb' : List Signed) (C : List CeR) (p : PrR) : Prop where
 C : p.C = C
 r : p.r = rp
 e : p.e = ep
 f : p.f = til
 L : Lb' = Zp Lb (Z9F p)
 sb : p.sb = rp
 sm : p.sm = ZB Lb' (Z9F p)
section
variable {w w' : World} {G : List Ck} {L1 : List Ck} {A B : Ck}
theorem Z98 {L : List Ck} (hA : (ZL L).ok w) (hu : Upd [] w w') : Sat w (L ++ [Z7 w (ZL L).fp]) w' := (Sat.start L hA).keepU hu
end
theorem Z9A (w : World) (t tm : Nat) (F Cn rp : Int) (M : List (NmD × CeR)) (B : List Ck) (b mb : Nat) (Lb : List Signed)
  (hA : (ZL [Z0 t 121 [.int .i64 F, .int .i64 Cn, .int .i64 rp, .map (some tm)], ZQ tm nmV ceV M, ZY B, Z0 b 110 [.map (some mb)], ZQ mb Zz (Value.int .i64) (ZS Lb)]).ok w) (hcT : ∀ q ∈ M, CeT B q.2) (hlM : M.length ≤ 64) (hrp : 0 ≤ rp ∧ rp ≤ 1000000) (hnb : Lb.Nodup) (hlb : Lb.length ≤ 100000) (ep last til : Int) (hlast : 0 ≤ last) (htil : til ≤ 18446744073709551615) :
  Calls Tryz.prog 29 #[.pointer (some ⟨t, 0, none⟩), .pointer (some ⟨b, 0, none⟩), .int .i64 ep, .int .u64 last, .int .u64 til] w fun e w' => ∃ (p : PrR) (Bh : List Ck) (Lb' : List Signed), e = .returned (.tuple #[.agg ⟨Z9u p⟩, .int .i64 (Z1B ep last til)]) ∧
   (Z1B ep last til = 0 → ∃ (HL : List CeR) (ss : List NmD), ss.Perm (M.map (·.1)) ∧ (ss.Pairwise fun a b => ¬ Z5c b a) ∧ HvC M ss HL ∧ Z9X rp ep til Lb Lb' (Z0a HL last til) p ∧ ∀ c ∈ p.C, CeT Bh c) ∧ (¬ Z1B ep last til = 0 → p = pr0 ∧ Lb' = Lb) ∧
   Sat w [Z0 t 121 [.int .i64 F, .int .i64 Cn, .int .i64 rp, .map (some tm)], ZQ tm nmV ceV M, ZY B, Z0 b 110 [.map (some mb)], ZQ mb Zz (Value.int .i64) (ZS Lb'), Zk 53 38 (.slice p.ca p.C.length p.cc) p.C.length (p.C.flatMap Z03), ZY Bh, Z7 w (ZL [Z0 t 121 [.int .i64 F, .int .i64 Cn, .int .i64 rp, .map (some tm)], ZQ tm nmV ceV M, ZY B, Z0 b 110 [.map (some mb)], ZQ mb Zz (Value.int .i64) (ZS Lb)]).fp] w' := by
 by_cases hg : Z1B ep last til = 0
 ·obtain ⟨h1, h2⟩ := Z3W.1 hg
  refine (Z4y w t tm F Cn rp M B b mb Lb hA hcT hlM hrp hnb hlb ep last til h1 ⟨hlast, by omega, by omega⟩).mono fun e w' q => ?_
  obtain ⟨ca, cc, HL, Bh, ss, he, hs, hsp, hv, hT, hS⟩ := q
  refine ⟨⟨rp, ep, til, ca, cc, rp, ZB (Zp Lb (⟨rp, Z0f (⟨rp, ep, til, ca, cc, 0, 0, (Z0a HL last til)⟩ : PrR)⟩ : Signed)) (⟨rp, Z0f (⟨rp, ep, til, ca, cc, 0, 0, (Z0a HL last til)⟩ : PrR)⟩ : Signed), Z0a HL last til⟩, Bh, _, by rw [hg]; exact he, fun _ => ⟨HL, ss, hs, hsp, hv, ⟨rfl, rfl, rfl, rfl, rfl, rfl, rfl⟩, fun c hc => hT c (Z42 hc)⟩, fun h => absurd hg h, hS⟩
 ·have hbad : ¬ (0 ≤ ep ∧ ep ≤ 1048576) ∨ til ≤ last ∨ til = 18446744073709551615 := by
   by_cases q1 : 0 ≤ ep ∧ ep ≤ 1048576
   ·right
    by_cases q2 : til ≤ last ∨ til = 18446744073709551615
    ·exact q2
    ·exact absurd (Z3W.2 ⟨q1, q2⟩) hg
   ·exact .inl q1
  refine (Z5d w t b ep last til hbad).mono fun e w' q => ?_
  obtain ⟨he, hu⟩ := q
  refine ⟨pr0, [], Lb, ?_, fun h => absurd h hg, fun _ => ⟨rfl, rfl⟩, ?_⟩
  ·rw [he]
   congr 3
   unfold Z1B
   by_cases q1 : 0 ≤ ep ∧ ep ≤ 1048576
   ·rw [if_pos q1, if_pos q1, if_pos (by rcases hbad with h | h; exact absurd q1 h; exact h)]
   ·rw [if_neg q1, if_neg q1]
  ·exact (((Z98 hA hu).addNil 53 38).bag0).pick [0, 1, 2, 3, 4, 6, 7, 5] (by decide)
theorem Zb0 (w : World) (t : Nat) (F Cn rp : Int) (la : Option Addr) (lc : Nat) (L : List CeR) (B : List Ck) (r : Nat) (ra : Option Addr) (rc : Nat) (Lb : List Signed)
  (hA : (ZL [Z0 t 45 [.int .i64 F, .int .i64 Cn, .int .i64 rp, .slice la (L).length lc], Zk 53 38 (.slice la (L).length lc) (L).length ((L).flatMap Z03), ZY B, Z0 r 98 [.slice ra (Lb).length rc], Zk 114 2 (.slice ra (Lb).length rc) (Lb).length ((Lb).flatMap Z1N)]).ok w) (hlL : L.length ≤ 64) (hcT : ∀ c ∈ L, CeT B c) (hrp : 0 ≤ rp ∧ rp ≤ 1000000) (hnb : Lb.Nodup) (hlb : Lb.length ≤ 100000) (ep last til : Int) (hlast : 0 ≤ last) (htil : til ≤ 18446744073709551615) :
  Calls Tryz.prog 14 #[.pointer (some ⟨t, 0, none⟩), .pointer (some ⟨r, 0, none⟩), .int .i64 ep, .int .u64 last, .int .u64 til] w fun e w' => ∃ (p : PrR) (ra' : Option Addr) (rc' : Nat) (Lb' : List Signed), e = .returned (.tuple #[.agg ⟨Z9u p⟩, .int .i64 (Z1B ep last til)]) ∧
   (Z1B ep last til = 0 → Z9X rp ep til Lb Lb' (Z0a L last til) p) ∧ (¬ Z1B ep last til = 0 → p = pr0 ∧ Lb' = Lb) ∧
   Sat w [Z0 t 45 [.int .i64 F, .int .i64 Cn, .int .i64 rp, .slice la (L).length lc], Zk 53 38 (.slice la (L).length lc) (L).length ((L).flatMap Z03), ZY B, Z0 r 98 [.slice ra' (Lb').length rc'], Zk 114 2 (.slice ra' (Lb').length rc') (Lb').length ((Lb').flatMap Z1N), Zk 53 38 (.slice p.ca p.C.length p.cc) p.C.length (p.C.flatMap Z03), Z7 w (ZL [Z0 t 45 [.int .i64 F, .int .i64 Cn, .int .i64 rp, .slice la (L).length lc], Zk 53 38 (.slice la (L).length lc) (L).length ((L).flatMap Z03), ZY B, Z0 r 98 [.slice ra (Lb).length rc], Zk 114 2 (.slice ra (Lb).length rc) (Lb).length ((Lb).flatMap Z1N)]).fp] w' := by
 by_cases hg : Z1B ep last til = 0
 ·obtain ⟨h1, h2⟩ := Z3W.1 hg
  refine (Z7Q w t F Cn rp la lc L B r ra rc Lb hA hlL hcT hrp hnb hlb ep last til h1 ⟨hlast, by omega, by omega⟩).mono fun e w' q => ?_
  obtain ⟨ca, cc, ra', rc', he, hS⟩ := q
  exact ⟨⟨rp, ep, til, ca, cc, rp, ZB (Zp Lb (⟨rp, Z0f (⟨rp, ep, til, ca, cc, 0, 0, (Z0a L last til)⟩ : PrR)⟩ : Signed)) (⟨rp, Z0f (⟨rp, ep, til, ca, cc, 0, 0, (Z0a L last til)⟩ : PrR)⟩ : Signed), Z0a L last til⟩, ra', rc', _, by rw [hg]; exact he, fun _ => ⟨rfl, rfl, rfl, rfl, rfl, rfl, rfl⟩, fun h => absurd hg h, hS⟩
 ·have hbad : ¬ (0 ≤ ep ∧ ep ≤ 1048576) ∨ til ≤ last ∨ til = 18446744073709551615 := by
   by_cases q1 : 0 ≤ ep ∧ ep ≤ 1048576
   ·right
    by_cases q2 : til ≤ last ∨ til = 18446744073709551615
    ·exact q2
    ·exact absurd (Z3W.2 ⟨q1, q2⟩) hg
   ·exact .inl q1
  refine (Z5Q w t r ep last til hbad).mono fun e w' q => ?_
  obtain ⟨he, hu⟩ := q
  refine ⟨pr0, ra, rc, Lb, ?_, fun h => absurd h hg, fun _ => ⟨rfl, rfl⟩, ?_⟩
  ·rw [he]
   congr 3
   unfold Z1B
   by_cases q1 : 0 ≤ ep ∧ ep ≤ 1048576
   ·rw [if_pos q1, if_pos q1, if_pos (by rcases hbad with h | h; exact absurd q1 h; exact h)]
   ·rw [if_neg q1, if_neg q1]
  ·exact ((Z98 hA hu).addNil 53 38).pick [0, 1, 2, 3, 4, 6, 5] (by decide)
theorem Za2 {B : List Ck} {M : List (NmD × CeR)} {L : List CeR} {rp ep last til : Int} {Lb Lp Lq : List Signed} {p q : PrR} {Bh : List Ck} (hE : TabEq B M L) (hn : Lb.Nodup)
  (h1 : Z1B ep last til = 0 → ∃ (HL : List CeR) (ss : List NmD), ss.Perm (M.map (·.1)) ∧ (ss.Pairwise fun a b => ¬ Z5c b a) ∧ HvC M ss HL ∧ Z9X rp ep til Lb Lp (Z0a HL last til) p ∧ ∀ c ∈ p.C, CeT Bh c) (h2 : ¬ Z1B ep last til = 0 → p = pr0 ∧ Lp = Lb)
  (g1 : Z1B ep last til = 0 → Z9X rp ep til Lb Lq (Z0a L last til) q) (g2 : ¬ Z1B ep last til = 0 → q = pr0 ∧ Lq = Lb) :
  Zci q = Zci p ∧ Lq = Lp ∧ Lp.Nodup ∧ Lp.length ≤ Lb.length + 1 ∧ (∀ c ∈ p.C, stC c ∈ Bh) ∧ ∀ c ∈ q.C, stC c ∈ B := by
 by_cases hg : Z1B ep last til = 0
 ·obtain ⟨HL, ss, hs, hsp, hv, hp, hT⟩ := h1 hg
  have hq := g1 hg
  have hcp : q.C.map Z3g = p.C.map Z3g := by
   rw [hq.C, hp.C]
   exact (ZcM (hE.held hs hsp hv) last til).symm
  have hY : Z9F q = Z9F p := by
   unfold Z9F
   rw [hq.r, hq.e, hq.f, hp.r, hp.e, hp.f]
   exact congrArg (Signed.mk rp) (ZcJ hcp)
  have hL : Lq = Lp := by rw [hq.L, hp.L, hY]
  refine ⟨?_, hL, ?_, ?_, fun c hc => (hT c hc).bag, fun c hc => ?_⟩
  ·unfold Zci
   rw [hq.r, hq.e, hq.f, hq.sb, hq.sm, hp.r, hp.e, hp.f, hp.sb, hp.sm, hL, hY]
   exact congrArg (fun z => (rp, ep, til, rp, ZB Lp (Z9F p), z)) hcp
  ·rw [hp.L]; exact Z20 hn _
  ·rw [hp.L]; exact Z2a _ _
  ·rw [hq.C] at hc
   exact (hE.ct c (Z42 hc)).bag
 ·obtain ⟨rfl, rfl⟩ := h2 hg
  obtain ⟨rfl, rfl⟩ := g2 hg
  exact ⟨rfl, rfl, hn, by omega, fun c hc => absurd hc List.not_mem_nil, fun c hc => absurd hc List.not_mem_nil⟩
theorem Za8 (w : World) (v : Value) (S : List Za) (hS : ListAt Z0q 38 w v S) (hx : S.length ≤ 1000000) :
  Calls Tryz.prog 101 #[(v)] w fun e w' => ∃ u, e = .returned u ∧ (Zk 101 38 u S.length (S.flatMap Z0q)).ok w' ∧ Upd [] w w' ∧ ∀ b, (Zk 101 38 u S.length (S.flatMap Z0q)).fp b → w.heap.size ≤ b := by
 have H := Sat.start0 w
 refine Zh Tryz.func101 rfl 5 rfl (Nat.le_of_ble_eq_true rfl) ?_
 refine Zd ?_
 refine Zq ?_
 refine Z2 (Z1 rfl) (d := 2) (v := (.slice none 0 0)) rfl (by kernel_rfl) ?_
 refine Zn ?_
 refine Z4 ?_
 refine Zd ?_
 refine Zq ?_
 refine Z2 (Z1 rfl) (d := 3) (v := v) rfl (by kernel_rfl) ?_
 refine Z07 (Z1 rfl) (fun K1 hK1 => ?_)
 refine Z4Y (T := 51) (e := 101) (size := 38) (bytes := 80) rfl H (by kernel_rfl) Z1y Z4q (ListAt.now H 0 rfl hS) rfl rfl (by omega) (by omega) ?_
 intro v2 w3 (H4 : Sat w [Z7 w (fun _ => False), Zk 101 38 v2 S.length (S.flatMap Z0q)] w3)
 obtain ⟨a5, c6, rfl⟩ := Z6 (H4.at 1 rfl)
 refine hK1 _ _ ?_
 clear hK1 K1
 refine Z2 (Z1 rfl) (d := 2) (v := (.slice a5 S.length c6)) rfl (by kernel_rfl) ?_
 refine Zn ?_
 refine Z4 ?_
 refine ZI ?_
 refine Z2e rfl (ZT (v := (.slice a5 S.length c6)) rfl) ?_
 exact ⟨_, rfl, H4.at 1 rfl, H4.upd 0 rfl [] (fun _ h => h.elim), H4.fresh 0 rfl (fun _ h => h) 1 rfl rfl⟩
theorem Zbl (w : World) (sa : Option Addr) (sc : Nat) (S : List Za) (hS : ListAt Z0q 38 w (.slice sa S.length sc) S) (hx : S.length ≤ 9223372036854775807) (n : Nat) (hn : n ≤ 1000000) :
  Calls Tryz.prog 68 #[(.slice sa S.length sc), (.int .i64 ((n : Int)))] w fun e w' => ∃ u, e = .returned u ∧ (Zk 101 38 u (S.take n).length ((S.take n).flatMap Z0q)).ok w' ∧ Upd [] w w' ∧ ∀ b, (Zk 101 38 u (S.take n).length ((S.take n).flatMap Z0q)).fp b → w.heap.size ≤ b := by
 have hcap := ListAt.cap hS
 have H := Sat.start0 w
 refine Zh Tryz.func68 rfl 12 rfl (Nat.le_of_ble_eq_true rfl) ?_
 refine Zd ?_
 refine Zq ?_
 refine Z2 (Z1 rfl) (d := 4) (v := (.slice none 0 0)) rfl (by kernel_rfl) ?_
 refine Zn ?_
 refine Z4 ?_
 refine Zd ?_
 refine Zq ?_
 refine Z2 (Z1 rfl) (d := 5) (v := (.slice sa S.length sc)) rfl (by kernel_rfl) ?_
 refine Z2 (Z1 rfl) (d := 6) (v := (.slice sa S.length sc)) rfl (by kernel_rfl) ?_
 refine Z2 (Z1 rfl) (d := 7) (v := (.int .i64 ((S.length : Int)))) rfl (by kernel_rfl) ?_
 refine Z2 (Z1 rfl) (d := 8) (v := (.int .i64 ((n : Int)))) rfl (by kernel_rfl) ?_
 refine Z2 (Z1 rfl) (d := 9) (v := (.int .i64 (((min S.length n : Nat) : Int)))) rfl (e_min (k := .i64) (a := (S.length : Int)) (b := (n : Int)) (z := ((min S.length n : Nat) : Int)) rfl rfl (by omega)) ?_
 refine Z2 (Z1 rfl) (d := 10) (v := (.slice sa (min S.length n) sc)) rfl (Zad (E := 101) (q := (min S.length n)) (by kernel_rfl) (by kernel_rfl) rfl rfl (by omega) (by omega)) ?_
 refine Z07 (Z1 rfl) (fun K1 hK1 => ?_)
 refine Z0g (d := 11) rfl (by kernel_rfl) (Za8 w (.slice sa (min S.length n) sc) (S.take (min S.length n)) (ListAt.take (ListAt.now H 0 rfl hS) (by omega)) (by simp only [List.length_take]; omega)) ?_
 rintro _ w2 ⟨u3, rfl, k4, p5, q6⟩
 have H7 : Sat w [Z7 w (fun _ => False), Zk 101 38 u3 ((S.take (min S.length n)).length) ((S.take (min S.length n)).flatMap Z0q)] w2 := H.addU p5 k4 q6
 obtain ⟨a8, c9, rfl⟩ := Z6 (H7.at 1 rfl)
 refine ⟨_, rfl, ?_⟩
 refine hK1 _ _ ?_
 clear hK1 K1
 refine Z2 (Z1 rfl) (d := 4) (v := (.slice a8 ((S.take (min S.length n)).length) c9)) rfl (by kernel_rfl) ?_
 refine Zn ?_
 refine Z4 ?_
 refine ZI ?_
 refine Z2e rfl (ZT (v := (.slice a8 ((S.take (min S.length n)).length) c9)) rfl) ?_
 have ht : S.take (min S.length n) = S.take n := by rw [List.take_eq_take_iff]; omega
 exact ⟨_, rfl, (by rw [← ht]; exact H7.at 1 rfl), H7.upd 0 rfl [] (fun _ h => h.elim), (by rw [← ht]; exact H7.fresh 0 rfl (fun _ h => h) 1 rfl rfl)⟩
end Go.Proofs.YtoaifondpohniaaGreat
namespace Go.Proofs.YtoaifondpohniaaGreat
open Go.ChangeShapes Go.WideShapes Go.ChangeAt Go.RowKit Go.Deep
structure AcB (W : World) (a : Z9m) : Prop where
 xs : ListAt Z3y 1 W (.slice a.ta a.xs.length a.tc) a.xs
 b : ∀ x ∈ a.xs, 0 ≤ x ∧ x ≤ 18446744073709551615
 X : Zcp W a.X
 S : ∀ s ∈ a.X.S, StB s
 x : CoB a.X.x
 t : 0 ≤ a.t ∧ a.t ≤ 18446744073709551615
 u : 0 ≤ a.u ∧ a.u ≤ 18446744073709551615
section
variable {H : Type} {enc : TypeId × Value → H} {W : World}
theorem Z7X {n : Nat} {cs : List Value} {y : DataW H × List MemPlace} (h : DataW.trod enc Tryz.prog W 0 (fun _ => true) true n 101 cs = some y) : ∃ x : Za, cs = Z0q x ∧ StB x := by
 obtain ⟨hl, m, hf⟩ := Z2F Tryz.underlying101 h
 obtain ⟨z0, h0⟩ := hf 0 _ rfl
 obtain ⟨z1, h1⟩ := hf 1 _ rfl
 obtain ⟨z2, h2⟩ := hf 2 _ rfl
 obtain ⟨z3, h3⟩ := hf 3 _ rfl
 obtain ⟨z4, h4⟩ := hf 4 _ rfl
 obtain ⟨r, e0, w0⟩ := Z0G (k := .i64) (by kernel_rfl) h0
 obtain ⟨cl, seq, e1, w1, w2⟩ := Z4S h1
 obtain ⟨hh, e2⟩ := Z6p h2
 obtain ⟨t, e3, w3⟩ := Z0G (k := .u64) (by kernel_rfl) h3
 obtain ⟨sb, sm, e4, w4, w5⟩ := Z7U h4
 simp only [List.getElem_toArray, List.getElem_cons_zero, List.getElem_cons_succ] at e0 e1 e2 e3 e4
 simp only [show Tryz.prog.cellsOf 3 = 1 by kernel_rfl, show Tryz.prog.cellsOf 27 = 1 by kernel_rfl, show Tryz.prog.cellsOf 26 = 32 by kernel_rfl, show Tryz.prog.cellsOf 24 = 2 by kernel_rfl, show Tryz.prog.cellsOf 29 = 2 by kernel_rfl] at e0 e1 e2 e3 e4
 have hw0 := Z9k w0
 have hw3 := Z9l w3
 refine ⟨⟨r, cl, seq, hh, t, sb, sm⟩, ?_, ?_⟩
 ·have := Z0w e0 (Z0w e1 (Z0w e2 (Z0w e3 (Z0w e4 (Z4m (hl.trans (show Tryz.prog.cellsOf 101 = 38 by kernel_rfl)))))))
  simp only [List.drop_zero] at this
  rw [this]; simp [Z0q]
 ·refine ⟨⟨?_, ?_, ?_, ?_, ?_⟩, ?_, ?_⟩ <;> simp only <;> omega
theorem Z6S {n : Nat} {cs : List Value} {y : DataW H × List MemPlace} (h : DataW.trod enc Tryz.prog W 0 (fun _ => true) true n 50 cs = some y) : ∃ x : Zg, cs = Z43 x ∧ CoB x := by
 obtain ⟨hl, m, hf⟩ := Z2F Tryz.underlying50 h
 obtain ⟨z1, h1⟩ := hf 0 _ rfl
 obtain ⟨z2, h2⟩ := hf 1 _ rfl
 obtain ⟨z3, h3⟩ := hf 2 _ rfl
 obtain ⟨z4, h4⟩ := hf 3 _ rfl
 obtain ⟨cl, seq, e1, w1, w2⟩ := Z4S h1
 obtain ⟨hh, e2⟩ := Z6p h2
 obtain ⟨t, e3, w3⟩ := Z0G (k := .i64) (by kernel_rfl) h3
 obtain ⟨sb, sm, e4, w4, w5⟩ := Z7U h4
 simp only [List.getElem_toArray, List.getElem_cons_zero, List.getElem_cons_succ] at e1 e2 e3 e4
 simp only [show Tryz.prog.cellsOf 3 = 1 by kernel_rfl, show Tryz.prog.cellsOf 26 = 32 by kernel_rfl, show Tryz.prog.cellsOf 24 = 2 by kernel_rfl, show Tryz.prog.cellsOf 29 = 2 by kernel_rfl] at e1 e2 e3 e4
 have hw3 := Z9k w3
 refine ⟨⟨cl, seq, hh, t, sb, sm⟩, ?_, ?_⟩
 ·have := Z0w e1 (Z0w e2 (Z0w e3 (Z0w e4 (Z4m (hl.trans (show Tryz.prog.cellsOf 50 = 37 by kernel_rfl))))))
  simp only [List.drop_zero] at this
  rw [this]; simp [Z43]
 ·refine ⟨⟨?_, ?_, ?_⟩, ?_, ?_⟩ <;> simp only <;> omega
theorem Z7L {v : Value} {d : DataW H} {ps : List MemPlace} (hv : ∃ a len cap, v = .slice a len cap) (h : DataW.Trod enc Tryz.prog W 0 (fun _ => true) true 51 v d ps) : ∃ xs, (∀ x ∈ xs, StB x) ∧ ListAt Z0q 38 W v xs := by
 obtain ⟨xs, hx⟩ := Z3K (sz := 38) (R := fun w a (x : Za) => Z3s w a (Z0q x) ∧ StB x) Tryz.underlying51 (by kernel_rfl) (by omega) hv h (fun cs n y b off hl hcs hy => by
  obtain ⟨x, rfl, hs⟩ := Z7X hy
  refine ⟨x, fun j v hj => ?_, hs⟩
  obtain ⟨hj', rfl⟩ := List.getElem?_eq_some_iff.1 hj
  rw [Addr.add_lit]; exact hcs j hj')
 refine ⟨xs, fun n hn => ?_, SliceOf.imp hx fun a x h => h.1⟩
 obtain ⟨i, hi, rfl⟩ := List.mem_iff_getElem.1 hn
 obtain ⟨b, off, cap, _, _, hall⟩ := hx.some (by omega)
 exact (hall i hi).2
theorem Z8b {n : Nat} {cs : List Value} {y : DataW H × List MemPlace} (h : DataW.trod enc Tryz.prog W 0 (fun _ => true) true n 53 cs = some y) : ∃ (x : Zg) (S : List Za) (a : Option Addr) (c : Nat), cs = Z43 x ++ [.slice a S.length c] ∧ CoB x ∧ (∀ s ∈ S, StB s) ∧ ListAt Z0q 38 W (.slice a S.length c) S := by
 obtain ⟨hl, m, hf⟩ := Z2F Tryz.underlying53 h
 obtain ⟨z1, h1⟩ := hf 0 _ rfl
 obtain ⟨z2, h2⟩ := hf 1 _ rfl
 obtain ⟨x, e1, hx⟩ := Z6S h1
 obtain ⟨a, len, cap, e2⟩ := Z3r Tryz.underlying51 h2
 have h2' := h2
 rw [e2] at h2'
 obtain ⟨S, hS, hL⟩ := Z7L (v := .slice a len cap) (d := z2.1) (ps := z2.2) ⟨_, _, _, rfl⟩ ⟨m, h2'⟩
 obtain ⟨a', c', hv⟩ := hL.len
 rw [hv] at hL e2
 simp only [List.getElem_toArray, List.getElem_cons_zero, List.getElem_cons_succ] at e1 e2
 simp only [show Tryz.prog.cellsOf 51 = 1 by kernel_rfl, show Tryz.prog.cellsOf 50 = 37 by kernel_rfl] at e1 e2
 refine ⟨x, S, a', c', ?_, hx, hS, hL⟩
 have := Z0w e1 (Z0w e2 (Z4m (hl.trans (show Tryz.prog.cellsOf 53 = 38 by kernel_rfl))))
 simp only [List.drop_zero] at this
 rw [this]; simp
theorem Z9Z {n : Nat} {cs : List Value} {y : DataW H × List MemPlace} (h : DataW.trod enc Tryz.prog W 0 (fun _ => true) true n 55 cs = some y) : ∃ a : Z9m, cs = Z6W a ∧ AcB W a := by
 obtain ⟨hl, m, hf⟩ := Z2F Tryz.underlying55 h
 obtain ⟨z0, h0⟩ := hf 0 _ rfl
 obtain ⟨z1, h1⟩ := hf 1 _ rfl
 obtain ⟨z2, h2⟩ := hf 2 _ rfl
 obtain ⟨z3, h3⟩ := hf 3 _ rfl
 obtain ⟨z4, h4⟩ := hf 4 _ rfl
 obtain ⟨z5, h5⟩ := hf 5 _ rfl
 obtain ⟨z6, h6⟩ := hf 6 _ rfl
 obtain ⟨d, e0, _⟩ := Z0G (k := .i64) (by kernel_rfl) h0
 obtain ⟨f, e1, _⟩ := Z0G (k := .i64) (by kernel_rfl) h1
 obtain ⟨t, e2, w2⟩ := Z0G (k := .u64) (by kernel_rfl) h2
 obtain ⟨u, e3, w3⟩ := Z0G (k := .u64) (by kernel_rfl) h3
 obtain ⟨na, nb, e4, _⟩ := Z4S h4
 obtain ⟨a5, l5, c5, e5⟩ := Z3r Tryz.underlying48 h5
 have h5' := h5
 rw [e5] at h5'
 obtain ⟨xs, hb, hL⟩ := ZaS (v := .slice a5 l5 c5) (d := z5.1) (ps := z5.2) Tryz.underlying48 Tryz.underlying27 (by kernel_rfl) ⟨_, _, _, rfl⟩ ⟨m, h5'⟩
 obtain ⟨a', c', hv⟩ := SliceOf.len hL
 rw [hv] at hL e5
 obtain ⟨x, S, sa, sc, e6, hx6, hs, hSl⟩ := Z8b h6
 simp only [List.getElem_toArray, List.getElem_cons_zero, List.getElem_cons_succ] at e0 e1 e2 e3 e4 e5 e6
 simp only [show Tryz.prog.cellsOf 3 = 1 by kernel_rfl, show Tryz.prog.cellsOf 27 = 1 by kernel_rfl, show Tryz.prog.cellsOf 24 = 2 by kernel_rfl, show Tryz.prog.cellsOf 48 = 1 by kernel_rfl, show Tryz.prog.cellsOf 53 = 38 by kernel_rfl] at e0 e1 e2 e3 e4 e5 e6
 refine ⟨⟨d, f, t, u, ⟨na, nb⟩, a', c', xs, ⟨x, sa, sc, S⟩⟩, ?_, hL, hb, hSl, hs, hx6, Z9l w2, Z9l w3⟩
 have := Z0w e0 (Z0w e1 (Z0w e2 (Z0w e3 (Z0w e4 (Z0w e5 (Z0w e6 (Z4m (hl.trans (show Tryz.prog.cellsOf 55 = 45 by kernel_rfl)))))))))
 simp only [List.drop_zero] at this
 rw [this]; simp [Z6W, Z03]
theorem Z6E {v : Value} {d : DataW H} {ps : List MemPlace} (hv : ∃ a len cap, v = .slice a len cap) (h : DataW.Trod enc Tryz.prog W 0 (fun _ => true) true 22 v d ps) : ∃ xs, (∀ x ∈ xs, AcB W x) ∧ ListAt Z6W 45 W v xs := by
 obtain ⟨xs, hx⟩ := Z3K (sz := 45) (R := fun w a (x : Z9m) => Z3s w a (Z6W x) ∧ AcB W x) Tryz.underlying22 (by kernel_rfl) (by omega) hv h (fun cs n y b off hl hcs hy => by
  obtain ⟨x, rfl, hs⟩ := Z9Z hy
  refine ⟨x, fun j v hj => ?_, hs⟩
  obtain ⟨hj', rfl⟩ := List.getElem?_eq_some_iff.1 hj
  rw [Addr.add_lit]; exact hcs j hj')
 refine ⟨xs, fun n hn => ?_, SliceOf.imp hx fun a x h => h.1⟩
 obtain ⟨i, hi, rfl⟩ := List.mem_iff_getElem.1 hn
 obtain ⟨b, off, cap, _, _, hall⟩ := hx.some (by omega)
 exact (hall i hi).2
end
end Go.Proofs.YtoaifondpohniaaGreat
