/- WHAT IS PROVED: contracts and plain laws of LtA, IntJ, OpenB11, CeV, CesC. Conditions: stated with each. -/
import Derived.Test.YtoaifondpohniaaGreatPR04
import Derived.Test.YtoaifondpohniaaGreatPR05
import Derived.Test.YtoaifondpohniaaGreatPR08
import Derived.Test.YtoaifondpohniaaGreatPR14
import Derived.Test.YtoaifondpohniaaGreatPR15
import Derived.Test.YtoaifondpohniaaGreatPR17
import Derived.Test.YtoaifondpohniaaGreatPR24
import Derived.Test.YtoaifondpohniaaGreatPR28
set_option maxHeartbeats 4000000
set_option maxRecDepth 100000
namespace Go.Proofs.YtoaifondpohniaaGreat
open Go.RowKit
abbrev Z3j (p0 : Int) (p1 : Int) : List Value := ([(.int .i64 p0), (.int .i64 p1)] : List Value)
abbrev Z54 (p0 : Z5) : List Value := ([(.int .i64 p0.r), (.int .i64 p0.cl), (.int .i64 p0.seq)] : List Value) ++ hc p0.h ++ ([(.int .u64 p0.t), (.int .i64 p0.sb), (.int .i64 p0.sm)] : List Value)
def Z12 (f : Int) (L : List Signed) (s : Z5) : Bool := inB f s.r && decide (s.sb = s.r) && Z0p L s.sb s.sm (Z1H s)
theorem Z4c (w : World) (f cn : Int) (hf : -1099511627776 ≤ f ∧ f ≤ 1099511627776) (b mb : Nat) (L : List Signed) (hb : (Z0 b 110 [.map (some mb)]).ok w) (hm : MapAt w mb Z0e (Value.int .i64) (Z04 L)) (s : Z5) (hs : Z8E s) :
  Calls Tryz.prog 17 #[(.agg ⟨([(.int .i64 (f)), (.int .i64 (cn))] : List Value)⟩), (.pointer (some ⟨b, 0, none⟩)), (.agg ⟨(([(.int .i64 (s.r)), (.int .i64 (s.cl)), (.int .i64 (s.seq))] : List Value) ++ hc s.h ++ ([(.int .u64 (s.t)), (.int .i64 (s.sb)), (.int .i64 (s.sm))] : List Value))⟩)] w fun e w' => e = .returned (.bool (Z12 f L s)) ∧ Upd [] w w' := by
 have H := Sat.start0 w
 have hs2 := hs
 unfold Z8E at hs2
 refine Zp Tryz.func17 rfl 27 rfl (Nat.le_of_ble_eq_true rfl) ?_
 apply zsl
 refine zwd fun Kq kq => ?_
 refine zdb (Z3j f cn) H ?_
 intro b2 w3 H4
 refine kq _ _ ?_
 clear kq Kq
 refine zwd fun Kq kq => ?_
 refine zdb (Z54 s) H4 ?_
 intro b6 w7 H8
 refine kq _ _ ?_
 clear kq Kq
 refine wv 6 (.bool false) ?_
 apply znt
 apply Zt
 refine Z00 H8 [Z6 w (fun _ => False), Z0 b2 36 (Z3j f cn), Z0 b6 31 (Z54 s)] 21 rfl (by kernel_rfl) (fun Hx => (Hx.pk [0, 1, 2])) ?_
 intro w9 H10 S11
 refine hv0 0 S11 7 (.agg ⟨(Z3j f cn)⟩) ?_ (he := fun _ H' => (Zc (vs := (Z3j f cn)) rfl (by kernel_rfl) (by kernel_rfl) (by exact Nat.le_of_ble_eq_true (by kernel_rfl)) (H'.at 1 rfl) (by kernel_rfl)))
 refine hv0 1 S11 8 (pt b6 0) ?_
 refine hv0 2 S11 9 (.int .i64 (s.r)) ?_ (he := fun _ H' => (Z2 rfl (by kernel_rfl) (H'.cell 2 rfl (by kernel_rfl))))
 refine Z09 3 fun Kq kq => ?_
 refine zdq 10 (Z74 w9 f cn s.r (by omega)) H10 ?_
 intro w13 H14
 have S16 := H14.pk [0, 1, 2]
 refine kq _ _ S16 ?_
 clear kq Kq
 refine hv0 4 S16 11 (.bool (inB f s.r)) ?_
 refine (Zl (inB f s.r)).elim (fun b17 => ?_) (fun b17 => ?_)
 ·refine Z0j 11 (.bool true) (congrArg Value.bool b17) ?_
  refine Z0N 5 S16 4 11 true 12 (pt b6 36) ?_
  refine Z0N 6 S16 4 11 true 13 (pt b6 36) ?_
  refine Z0N 7 S16 4 11 true 14 (.int .i64 (s.sb)) ?_ (he := fun _ H' => (Z2 rfl (by kernel_rfl) (H'.cell 2 rfl (by kernel_rfl))))
  refine Z0N 8 S16 4 11 true 15 (pt b6 0) ?_
  refine Z0N 9 S16 4 11 true 16 (.int .i64 (s.r)) ?_ (he := fun _ H' => (Z2 rfl (by kernel_rfl) (H'.cell 2 rfl (by kernel_rfl))))
  refine Z0N 10 S16 4 11 true 17 (.bool (decide (s.sb = s.r))) ?_
  refine hv0 11 S16 18 (.bool (decide (s.sb = s.r))) ?_
  refine hv0 12 S16 19 (.bool (decide (s.sb = s.r))) ?_
  refine (Zl (decide (s.sb = s.r))).elim (fun b18 => ?_) (fun b18 => ?_)
  ·have g19 := of_decide_eq_true b18
   refine Z0j 19 (.bool true) (congrArg Value.bool b18) ?_
   refine Z0N 13 S16 12 19 true 20 (pt b 0) ?_
   refine Z0N 14 S16 12 19 true 21 (pt b6 36) ?_
   refine Z0N 15 S16 12 19 true 22 (.agg ⟨(Z3j s.sb s.sm)⟩) ?_ (he := fun _ H' => (Zc (vs := (Z3j s.sb s.sm)) rfl (by kernel_rfl) (by kernel_rfl) (by exact Nat.le_of_ble_eq_true (by kernel_rfl)) (H'.at 2 rfl) (by kernel_rfl)))
   refine Z0N 16 S16 12 19 true 23 (.agg ⟨(Z54 s)⟩) ?_ (he := fun _ H' => (Zc (vs := (Z54 s)) rfl (by kernel_rfl) (by kernel_rfl) (by exact Nat.le_of_ble_eq_true (by kernel_rfl)) (H'.at 2 rfl) (by kernel_rfl)))
   refine Z5v 17 rfl (by kernel_rfl) (Z01 12 19 true rfl (by kernel_rfl) rfl (by kernel_rfl)) (fun Kq kq => ?_)
   refine zdc 24 (Z7P w13 s hs) ?_
   rintro _ w22 ⟨u23, rfl, k24, p25, q26⟩
   have H27 := H14.addU p25 k24 q26
   obtain ⟨a28, c29, rfl⟩ := Z1 (H27.at 3 rfl)
   refine ⟨_, rfl, ?_⟩
   have S30 := H27.pk [0, 1, 2]
   refine kq _ _ S30 ?_
   clear kq Kq
   refine Z5v 18 rfl (by kernel_rfl) (Z01 12 19 true rfl (by kernel_rfl) rfl (by kernel_rfl)) (fun Kq kq => ?_)
   refine zdq 25 (Z5J w22 b mb L (H27.roCk 0 rfl hb (fun _ _ h => h)) (H27.roMap 0 rfl hm (fun h => h)) a28 c29 (Z1H s) (ListAt.row (enc := ZN) (sz := 1) ZE (by decide) (H27.at 3 rfl)) s.sb s.sm) H27 ?_
   intro w32 H33
   have S35 := H33.pk [0, 1, 2]
   refine kq _ _ S35 ?_
   clear kq Kq
   refine hv0 19 S35 26 (.bool (Z0p L s.sb s.sm (Z1H s))) ?_
   refine hv0 20 S35 6 (.bool (Z0p L s.sb s.sm (Z1H s))) ?_
   refine zhf ?_
   apply ztn
   apply ZA
   refine ze1 (.bool (Z0p L s.sb s.sm (Z1H s))) ?_
   exact ⟨by simp [Z12, b17, b18], H33.upd 0 rfl [] (fun _ h => h.elim)⟩
  have g36 := of_decide_eq_false b18
  refine Z0j 19 (.bool false) (congrArg Value.bool b18) ?_
  refine Zx 13 S16 12 19 true ?_
  refine Zx 14 S16 12 19 true ?_
  refine Zx 15 S16 12 19 true ?_
  refine Zx 16 S16 12 19 true ?_
  refine Zx 17 S16 12 19 true ?_
  refine Zx 18 S16 12 19 true ?_
  refine hv0 19 S16 26 (.bool false) ?_
  refine hv0 20 S16 6 (.bool false) ?_
  refine zhf ?_
  apply ztn
  apply ZA
  refine ze1 (.bool false) ?_
  exact ⟨by simp [Z12, b17, b18], H14.upd 0 rfl [] (fun _ h => h.elim)⟩
 refine Z0j 11 (.bool false) (congrArg Value.bool b17) ?_
 refine Zx 5 S16 4 11 true ?_
 refine Zx 6 S16 4 11 true ?_
 refine Zx 7 S16 4 11 true ?_
 refine Zx 8 S16 4 11 true ?_
 refine Zx 9 S16 4 11 true ?_
 refine Zx 10 S16 4 11 true ?_
 refine hv0 11 S16 18 (.bool false) ?_
 refine hv0 12 S16 19 (.bool false) ?_
 refine Zx 13 S16 12 19 true ?_
 refine Zx 14 S16 12 19 true ?_
 refine Zx 15 S16 12 19 true ?_
 refine Zx 16 S16 12 19 true ?_
 refine Zx 17 S16 12 19 true ?_
 refine Zx 18 S16 12 19 true ?_
 refine hv0 19 S16 26 (.bool false) ?_
 refine hv0 20 S16 6 (.bool false) ?_
 refine zhf ?_
 apply ztn
 apply ZA
 refine ze1 (.bool false) ?_
 exact ⟨by simp [Z12, b17], H14.upd 0 rfl [] (fun _ h => h.elim)⟩
theorem Z48 (w : World) (f cn : Int) (hf : -1099511627776 ≤ f ∧ f ≤ 1099511627776) (r : Nat) (ra : Option Addr) (rc : Nat) (L : List Signed) (hb : (Z0 r 98 [.slice ra L.length rc]).ok w) (hr : (ZH 114 2 (.slice ra L.length rc) L.length (L.flatMap Z43)).ok w) (hn : L.Nodup) (hL : L.length ≤ 1000000) (s : Z5) (hs : Z8E s) :
  Calls Tryz.prog 18 #[(.agg ⟨([(.int .i64 (f)), (.int .i64 (cn))] : List Value)⟩), (.pointer (some ⟨r, 0, none⟩)), (.agg ⟨(([(.int .i64 (s.r)), (.int .i64 (s.cl)), (.int .i64 (s.seq))] : List Value) ++ hc s.h ++ ([(.int .u64 (s.t)), (.int .i64 (s.sb)), (.int .i64 (s.sm))] : List Value))⟩)] w fun e w' => e = .returned (.bool (Z12 f L s)) ∧ Upd [] w w' := by
 have H := Sat.start0 w
 have hs2 := hs
 unfold Z8E at hs2
 refine Zp Tryz.func18 rfl 33 rfl (Nat.le_of_ble_eq_true rfl) ?_
 apply zsl
 refine zwd fun Kq kq => ?_
 refine zdb (Z3j f cn) H ?_
 intro b2 w3 H4
 refine kq _ _ ?_
 clear kq Kq
 refine zwd fun Kq kq => ?_
 refine zdb (Z54 s) H4 ?_
 intro b6 w7 H8
 refine kq _ _ ?_
 clear kq Kq
 refine wv 6 (.bool false) ?_
 apply znt
 apply Zt
 refine Z00 H8 [Z6 w (fun _ => False), Z0 b2 36 (Z3j f cn), Z0 b6 31 (Z54 s)] 27 rfl (by kernel_rfl) (fun Hx => (Hx.pk [0, 1, 2])) ?_
 intro w9 H10 S11
 refine hv0 0 S11 7 (pt b6 0) ?_
 refine hv0 1 S11 8 (.int .i64 (s.r)) ?_ (he := fun _ H' => (Z2 rfl (by kernel_rfl) (H'.cell 2 rfl (by kernel_rfl))))
 refine hv0 2 S11 9 (.bool (decide (s.r ≥ 0))) ?_
 refine hv0 3 S11 10 (.bool (decide (s.r ≥ 0))) ?_
 refine (Zl (decide (s.r ≥ 0))).elim (fun b12 => ?_) (fun b12 => ?_)
 ·have g13 := of_decide_eq_true b12
  refine Z0j 10 (.bool true) (congrArg Value.bool b12) ?_
  refine Z0N 4 S11 3 10 true 11 (pt b6 0) ?_
  refine Z0N 5 S11 3 10 true 12 (.int .i64 (s.r)) ?_ (he := fun _ H' => (Z2 rfl (by kernel_rfl) (H'.cell 2 rfl (by kernel_rfl))))
  refine Z0N 6 S11 3 10 true 13 (.agg ⟨(Z3j f cn)⟩) ?_ (he := fun _ H' => (Zc (vs := (Z3j f cn)) rfl (by kernel_rfl) (by kernel_rfl) (by exact Nat.le_of_ble_eq_true (by kernel_rfl)) (H'.at 1 rfl) (by kernel_rfl)))
  refine Z5v 7 rfl (by kernel_rfl) (Z01 3 10 true rfl (by kernel_rfl) rfl (by kernel_rfl)) (fun Kq kq => ?_)
  refine zdq 14 (Z8Y w9 f cn (by omega)) H10 ?_
  intro w16 H17
  have S19 := H17.pk [0, 1, 2]
  refine kq _ _ S19 ?_
  clear kq Kq
  refine Z0N 8 S19 3 10 true 15 (.bool (decide (s.r < (3 * f + 1)))) ?_
  refine hv0 9 S19 16 (.bool (decide (s.r < (3 * f + 1)))) ?_
  refine hv0 10 S19 17 (.bool (decide (s.r < (3 * f + 1)))) ?_
  refine (Zl (decide (s.r < (3 * f + 1)))).elim (fun b20 => ?_) (fun b20 => ?_)
  ·have g21 := of_decide_eq_true b20
   refine Z0j 17 (.bool true) (congrArg Value.bool b20) ?_
   refine Z0N 11 S19 10 17 true 18 (pt b6 36) ?_
   refine Z0N 12 S19 10 17 true 19 (pt b6 36) ?_
   refine Z0N 13 S19 10 17 true 20 (.int .i64 (s.sb)) ?_ (he := fun _ H' => (Z2 rfl (by kernel_rfl) (H'.cell 2 rfl (by kernel_rfl))))
   refine Z0N 14 S19 10 17 true 21 (pt b6 0) ?_
   refine Z0N 15 S19 10 17 true 22 (.int .i64 (s.r)) ?_ (he := fun _ H' => (Z2 rfl (by kernel_rfl) (H'.cell 2 rfl (by kernel_rfl))))
   refine Z0N 16 S19 10 17 true 23 (.bool (decide (s.sb = s.r))) ?_
   refine hv0 17 S19 24 (.bool (decide (s.sb = s.r))) ?_
   refine hv0 18 S19 25 (.bool (decide (s.sb = s.r))) ?_
   refine (Zl (decide (s.sb = s.r))).elim (fun b23 => ?_) (fun b23 => ?_)
   ·have g24 := of_decide_eq_true b23
    refine Z0j 25 (.bool true) (congrArg Value.bool b23) ?_
    refine Z0N 19 S19 18 25 true 26 (pt r 0) ?_
    refine Z0N 20 S19 18 25 true 27 (pt b6 36) ?_
    refine Z0N 21 S19 18 25 true 28 (.agg ⟨(Z3j s.sb s.sm)⟩) ?_ (he := fun _ H' => (Zc (vs := (Z3j s.sb s.sm)) rfl (by kernel_rfl) (by kernel_rfl) (by exact Nat.le_of_ble_eq_true (by kernel_rfl)) (H'.at 2 rfl) (by kernel_rfl)))
    refine Z0N 22 S19 18 25 true 29 (.agg ⟨(Z54 s)⟩) ?_ (he := fun _ H' => (Zc (vs := (Z54 s)) rfl (by kernel_rfl) (by kernel_rfl) (by exact Nat.le_of_ble_eq_true (by kernel_rfl)) (H'.at 2 rfl) (by kernel_rfl)))
    refine Z5v 23 rfl (by kernel_rfl) (Z01 18 25 true rfl (by kernel_rfl) rfl (by kernel_rfl)) (fun Kq kq => ?_)
    refine zdc 30 (Z2G w16 s hs) ?_
    rintro _ w27 ⟨u28, rfl, k29, p30, q31⟩
    have H32 := H17.addU p30 k29 q31
    obtain ⟨a33, c34, rfl⟩ := Z1 (H32.at 3 rfl)
    refine ⟨_, rfl, ?_⟩
    have S35 := H32.pk [0, 1, 2]
    refine kq _ _ S35 ?_
    clear kq Kq
    refine Z5v 24 rfl (by kernel_rfl) (Z01 18 25 true rfl (by kernel_rfl) rfl (by kernel_rfl)) (fun Kq kq => ?_)
    refine zdq 31 (Z3e w27 r ra rc L (H32.roCk 0 rfl hb (fun _ _ h => h)) (H32.roCk 0 rfl hr (fun _ _ h => h)) hn hL a33 c34 (Z1H s) (ListAt.row (enc := ZN) (sz := 1) ZE (by decide) (H32.at 3 rfl)) s.sb s.sm) H32 ?_
    intro w37 H38
    have S40 := H38.pk [0, 1, 2]
    refine kq _ _ S40 ?_
    clear kq Kq
    refine hv0 25 S40 32 (.bool (Z0p L s.sb s.sm (Z1H s))) ?_
    refine hv0 26 S40 6 (.bool (Z0p L s.sb s.sm (Z1H s))) ?_
    refine zhf ?_
    apply ztn
    apply ZA
    refine ze1 (.bool (Z0p L s.sb s.sm (Z1H s))) ?_
    exact ⟨by simp [Z12, inB, b12, b20, b23], H38.upd 0 rfl [] (fun _ h => h.elim)⟩
   have g41 := of_decide_eq_false b23
   refine Z0j 25 (.bool false) (congrArg Value.bool b23) ?_
   refine Zx 19 S19 18 25 true ?_
   refine Zx 20 S19 18 25 true ?_
   refine Zx 21 S19 18 25 true ?_
   refine Zx 22 S19 18 25 true ?_
   refine Zx 23 S19 18 25 true ?_
   refine Zx 24 S19 18 25 true ?_
   refine hv0 25 S19 32 (.bool false) ?_
   refine hv0 26 S19 6 (.bool false) ?_
   refine zhf ?_
   apply ztn
   apply ZA
   refine ze1 (.bool false) ?_
   exact ⟨by simp [Z12, inB, b12, b20, b23], H17.upd 0 rfl [] (fun _ h => h.elim)⟩
  have g43 := of_decide_eq_false b20
  refine Z0j 17 (.bool false) (congrArg Value.bool b20) ?_
  refine Zx 11 S19 10 17 true ?_
  refine Zx 12 S19 10 17 true ?_
  refine Zx 13 S19 10 17 true ?_
  refine Zx 14 S19 10 17 true ?_
  refine Zx 15 S19 10 17 true ?_
  refine Zx 16 S19 10 17 true ?_
  refine hv0 17 S19 24 (.bool false) ?_
  refine hv0 18 S19 25 (.bool false) ?_
  refine Zx 19 S19 18 25 true ?_
  refine Zx 20 S19 18 25 true ?_
  refine Zx 21 S19 18 25 true ?_
  refine Zx 22 S19 18 25 true ?_
  refine Zx 23 S19 18 25 true ?_
  refine Zx 24 S19 18 25 true ?_
  refine hv0 25 S19 32 (.bool false) ?_
  refine hv0 26 S19 6 (.bool false) ?_
  refine zhf ?_
  apply ztn
  apply ZA
  refine ze1 (.bool false) ?_
  exact ⟨by simp [Z12, inB, b12, b20], H17.upd 0 rfl [] (fun _ h => h.elim)⟩
 have g45 := of_decide_eq_false b12
 refine Z0j 10 (.bool false) (congrArg Value.bool b12) ?_
 refine Zx 4 S11 3 10 true ?_
 refine Zx 5 S11 3 10 true ?_
 refine Zx 6 S11 3 10 true ?_
 refine Zx 7 S11 3 10 true ?_
 refine Zx 8 S11 3 10 true ?_
 refine hv0 9 S11 16 (.bool false) ?_
 refine hv0 10 S11 17 (.bool false) ?_
 refine Zx 11 S11 10 17 true ?_
 refine Zx 12 S11 10 17 true ?_
 refine Zx 13 S11 10 17 true ?_
 refine Zx 14 S11 10 17 true ?_
 refine Zx 15 S11 10 17 true ?_
 refine Zx 16 S11 10 17 true ?_
 refine hv0 17 S11 24 (.bool false) ?_
 refine hv0 18 S11 25 (.bool false) ?_
 refine Zx 19 S11 18 25 true ?_
 refine Zx 20 S11 18 25 true ?_
 refine Zx 21 S11 18 25 true ?_
 refine Zx 22 S11 18 25 true ?_
 refine Zx 23 S11 18 25 true ?_
 refine Zx 24 S11 18 25 true ?_
 refine hv0 25 S11 32 (.bool false) ?_
 refine hv0 26 S11 6 (.bool false) ?_
 refine zhf ?_
 apply ztn
 apply ZA
 refine ze1 (.bool false) ?_
 exact ⟨by simp [Z12, inB, b12], H10.upd 0 rfl [] (fun _ h => h.elim)⟩
end Go.Proofs.YtoaifondpohniaaGreat
namespace Go.Proofs.YtoaifondpohniaaGreat
open Go.ChangeShapes Go.WideShapes Go.ChangeAt Go.RowKit Go.Deep
structure AcB (W : World) (a : Zc9) : Prop where
 xs : ListAt Z3s 1 W (.slice a.ta a.xs.length a.tc) a.xs
 b : ∀ x ∈ a.xs, 0 ≤ x ∧ x ≤ 18446744073709551615
 X : CeOk W a.X
 S : ∀ s ∈ a.X.S, StB s
 x : CoB a.X.x
 t : 0 ≤ a.t ∧ a.t ≤ 18446744073709551615
 u : 0 ≤ a.u ∧ a.u ≤ 18446744073709551615
section
variable {H : Type} {enc : TypeId × Value → H} {W : World}
theorem Z5a {n : Nat} {cs : List Value} {y : DataW H × List MemPlace} (h : DataW.trod enc Tryz.prog W 0 (fun _ => true) true n 101 cs = some y) : ∃ x : Z5, cs = Z0J x ∧ StB x := by
 obtain ⟨hl, m, hf⟩ := Z22 Tryz.underlying101 h
 obtain ⟨z0, h0⟩ := hf 0 _ rfl
 obtain ⟨z1, h1⟩ := hf 1 _ rfl
 obtain ⟨z2, h2⟩ := hf 2 _ rfl
 obtain ⟨z3, h3⟩ := hf 3 _ rfl
 obtain ⟨z4, h4⟩ := hf 4 _ rfl
 obtain ⟨r, e0, w0⟩ := Z08 (k := .i64) (by kernel_rfl) h0
 obtain ⟨cl, seq, e1, w1, w2⟩ := Z3L h1
 obtain ⟨hh, e2⟩ := Z4K h2
 obtain ⟨t, e3, w3⟩ := Z08 (k := .u64) (by kernel_rfl) h3
 obtain ⟨sb, sm, e4, w4, w5⟩ := Z4B h4
 simp only [List.getElem_toArray, List.getElem_cons_zero, List.getElem_cons_succ] at e0 e1 e2 e3 e4
 simp only [show Tryz.prog.cellsOf 3 = 1 by kernel_rfl, show Tryz.prog.cellsOf 27 = 1 by kernel_rfl, show Tryz.prog.cellsOf 26 = 32 by kernel_rfl, show Tryz.prog.cellsOf 24 = 2 by kernel_rfl, show Tryz.prog.cellsOf 29 = 2 by kernel_rfl] at e0 e1 e2 e3 e4
 have hw0 := Z5X w0
 have hw3 := Z6u w3
 refine ⟨⟨r, cl, seq, hh, t, sb, sm⟩, ?_, ?_⟩
 ·have := ZY e0 (ZY e1 (ZY e2 (ZY e3 (ZY e4 (Z2B (hl.trans (show Tryz.prog.cellsOf 101 = 38 by kernel_rfl)))))))
  simp only [List.drop_zero] at this
  rw [this]; simp [Z0J]
 ·refine ⟨⟨?_, ?_, ?_, ?_, ?_⟩, ?_, ?_⟩ <;> simp only <;> omega
theorem Z4g {n : Nat} {cs : List Value} {y : DataW H × List MemPlace} (h : DataW.trod enc Tryz.prog W 0 (fun _ => true) true n 50 cs = some y) : ∃ x : Zg, cs = Z61 x ∧ CoB x := by
 obtain ⟨hl, m, hf⟩ := Z22 Tryz.underlying50 h
 obtain ⟨z1, h1⟩ := hf 0 _ rfl
 obtain ⟨z2, h2⟩ := hf 1 _ rfl
 obtain ⟨z3, h3⟩ := hf 2 _ rfl
 obtain ⟨z4, h4⟩ := hf 3 _ rfl
 obtain ⟨cl, seq, e1, w1, w2⟩ := Z3L h1
 obtain ⟨hh, e2⟩ := Z4K h2
 obtain ⟨t, e3, w3⟩ := Z08 (k := .i64) (by kernel_rfl) h3
 obtain ⟨sb, sm, e4, w4, w5⟩ := Z4B h4
 simp only [List.getElem_toArray, List.getElem_cons_zero, List.getElem_cons_succ] at e1 e2 e3 e4
 simp only [show Tryz.prog.cellsOf 3 = 1 by kernel_rfl, show Tryz.prog.cellsOf 26 = 32 by kernel_rfl, show Tryz.prog.cellsOf 24 = 2 by kernel_rfl, show Tryz.prog.cellsOf 29 = 2 by kernel_rfl] at e1 e2 e3 e4
 have hw3 := Z5X w3
 refine ⟨⟨cl, seq, hh, t, sb, sm⟩, ?_, ?_⟩
 ·have := ZY e1 (ZY e2 (ZY e3 (ZY e4 (Z2B (hl.trans (show Tryz.prog.cellsOf 50 = 37 by kernel_rfl))))))
  simp only [List.drop_zero] at this
  rw [this]; simp [Z61]
 ·refine ⟨⟨?_, ?_, ?_⟩, ?_, ?_⟩ <;> simp only <;> omega
theorem Z7y {v : Value} {d : DataW H} {ps : List MemPlace} (hv : ∃ a len cap, v = .slice a len cap) (h : DataW.Trod enc Tryz.prog W 0 (fun _ => true) true 51 v d ps) : ∃ xs, (∀ x ∈ xs, StB x) ∧ ListAt Z0J 38 W v xs := by
 obtain ⟨xs, hx⟩ := Z3v (sz := 38) (R := fun w a (x : Z5) => Z2Q w a (Z0J x) ∧ StB x) Tryz.underlying51 (by kernel_rfl) (by omega) hv h (fun cs n y b off hl hcs hy => by
  obtain ⟨x, rfl, hs⟩ := Z5a hy
  refine ⟨x, fun j v hj => ?_, hs⟩
  obtain ⟨hj', rfl⟩ := List.getElem?_eq_some_iff.1 hj
  rw [Addr.add_lit]; exact hcs j hj')
 refine ⟨xs, fun n hn => ?_, SliceOf.imp hx fun a x h => h.1⟩
 obtain ⟨i, hi, rfl⟩ := List.mem_iff_getElem.1 hn
 obtain ⟨b, off, cap, _, _, hall⟩ := hx.some (by omega)
 exact (hall i hi).2
theorem Z80 {n : Nat} {cs : List Value} {y : DataW H × List MemPlace} (h : DataW.trod enc Tryz.prog W 0 (fun _ => true) true n 53 cs = some y) : ∃ (x : Zg) (S : List Z5) (a : Option Addr) (c : Nat), cs = Z61 x ++ [.slice a S.length c] ∧ CoB x ∧ (∀ s ∈ S, StB s) ∧ ListAt Z0J 38 W (.slice a S.length c) S := by
 obtain ⟨hl, m, hf⟩ := Z22 Tryz.underlying53 h
 obtain ⟨z1, h1⟩ := hf 0 _ rfl
 obtain ⟨z2, h2⟩ := hf 1 _ rfl
 obtain ⟨x, e1, hx⟩ := Z4g h1
 obtain ⟨a, len, cap, e2⟩ := Z1L Tryz.underlying51 h2
 have h2' := h2
 rw [e2] at h2'
 obtain ⟨S, hS, hL⟩ := Z7y (v := .slice a len cap) (d := z2.1) (ps := z2.2) ⟨_, _, _, rfl⟩ ⟨m, h2'⟩
 obtain ⟨a', c', hv⟩ := hL.len
 rw [hv] at hL e2
 simp only [List.getElem_toArray, List.getElem_cons_zero, List.getElem_cons_succ] at e1 e2
 simp only [show Tryz.prog.cellsOf 51 = 1 by kernel_rfl, show Tryz.prog.cellsOf 50 = 37 by kernel_rfl] at e1 e2
 refine ⟨x, S, a', c', ?_, hx, hS, hL⟩
 have := ZY e1 (ZY e2 (Z2B (hl.trans (show Tryz.prog.cellsOf 53 = 38 by kernel_rfl))))
 simp only [List.drop_zero] at this
 rw [this]; simp
theorem Z9H {n : Nat} {cs : List Value} {y : DataW H × List MemPlace} (h : DataW.trod enc Tryz.prog W 0 (fun _ => true) true n 55 cs = some y) : ∃ a : Zc9, cs = Z9Y a ∧ AcB W a := by
 obtain ⟨hl, m, hf⟩ := Z22 Tryz.underlying55 h
 obtain ⟨z0, h0⟩ := hf 0 _ rfl
 obtain ⟨z1, h1⟩ := hf 1 _ rfl
 obtain ⟨z2, h2⟩ := hf 2 _ rfl
 obtain ⟨z3, h3⟩ := hf 3 _ rfl
 obtain ⟨z4, h4⟩ := hf 4 _ rfl
 obtain ⟨z5, h5⟩ := hf 5 _ rfl
 obtain ⟨z6, h6⟩ := hf 6 _ rfl
 obtain ⟨d, e0, _⟩ := Z08 (k := .i64) (by kernel_rfl) h0
 obtain ⟨f, e1, _⟩ := Z08 (k := .i64) (by kernel_rfl) h1
 obtain ⟨t, e2, w2⟩ := Z08 (k := .u64) (by kernel_rfl) h2
 obtain ⟨u, e3, w3⟩ := Z08 (k := .u64) (by kernel_rfl) h3
 obtain ⟨na, nb, e4, _⟩ := Z3L h4
 obtain ⟨a5, l5, c5, e5⟩ := Z1L Tryz.underlying48 h5
 have h5' := h5
 rw [e5] at h5'
 obtain ⟨xs, hb, hL⟩ := ZaC (v := .slice a5 l5 c5) (d := z5.1) (ps := z5.2) Tryz.underlying48 Tryz.underlying27 (by kernel_rfl) ⟨_, _, _, rfl⟩ ⟨m, h5'⟩
 obtain ⟨a', c', hv⟩ := SliceOf.len hL
 rw [hv] at hL e5
 obtain ⟨x, S, sa, sc, e6, hx6, hs, hSl⟩ := Z80 h6
 simp only [List.getElem_toArray, List.getElem_cons_zero, List.getElem_cons_succ] at e0 e1 e2 e3 e4 e5 e6
 simp only [show Tryz.prog.cellsOf 3 = 1 by kernel_rfl, show Tryz.prog.cellsOf 27 = 1 by kernel_rfl, show Tryz.prog.cellsOf 24 = 2 by kernel_rfl, show Tryz.prog.cellsOf 48 = 1 by kernel_rfl, show Tryz.prog.cellsOf 53 = 38 by kernel_rfl] at e0 e1 e2 e3 e4 e5 e6
 refine ⟨⟨d, f, t, u, ⟨na, nb⟩, a', c', xs, ⟨x, sa, sc, S⟩⟩, ?_, hL, hb, hSl, hs, hx6, Z6u w2, Z6u w3⟩
 have := ZY e0 (ZY e1 (ZY e2 (ZY e3 (ZY e4 (ZY e5 (ZY e6 (Z2B (hl.trans (show Tryz.prog.cellsOf 55 = 45 by kernel_rfl)))))))))
 simp only [List.drop_zero] at this
 rw [this]; simp [Z9Y, Z0h]
theorem Z9q {v : Value} {d : DataW H} {ps : List MemPlace} (hv : ∃ a len cap, v = .slice a len cap) (h : DataW.Trod enc Tryz.prog W 0 (fun _ => true) true 22 v d ps) : ∃ xs, (∀ x ∈ xs, AcB W x) ∧ ListAt Z9Y 45 W v xs := by
 obtain ⟨xs, hx⟩ := Z3v (sz := 45) (R := fun w a (x : Zc9) => Z2Q w a (Z9Y x) ∧ AcB W x) Tryz.underlying22 (by kernel_rfl) (by omega) hv h (fun cs n y b off hl hcs hy => by
  obtain ⟨x, rfl, hs⟩ := Z9H hy
  refine ⟨x, fun j v hj => ?_, hs⟩
  obtain ⟨hj', rfl⟩ := List.getElem?_eq_some_iff.1 hj
  rw [Addr.add_lit]; exact hcs j hj')
 refine ⟨xs, fun n hn => ?_, SliceOf.imp hx fun a x h => h.1⟩
 obtain ⟨i, hi, rfl⟩ := List.mem_iff_getElem.1 hn
 obtain ⟨b, off, cap, _, _, hall⟩ := hx.some (by omega)
 exact (hall i hi).2
end
end Go.Proofs.YtoaifondpohniaaGreat
namespace Go.Proofs.YtoaifondpohniaaGreat
open Go.RowKit
structure CeV (B : List Ck) (c : CeR) : Prop where
 x : CoB c.x
 S : ∀ i, i < c.S.length → StB (c.S.getD i Z9)
 len : c.S.length ≤ 12
 at_ : ∀ w, (Z0o B).ok w → ListAt Z0J 38 w (.slice c.sa c.S.length c.sc) c.S
section
variable {B : List Ck} {c : CeR} {w : World}
theorem CeT.v (h : CeT B c) : CeV B c := ⟨h.x, h.S, h.len, fun _ hb => Z3S hb h.bag⟩
theorem CeV.cb (h : CeV B c) (hb : (Z0o B).ok w) : CeB w c := ⟨h.x, h.at_ w hb, h.S, Nat.le_trans h.len (by decide)⟩
theorem CeV.tail (h : CeV B c) (hl : 1 ≤ c.S.length) : CeV B ⟨c.x, (if c.sc = 1 then c.sa else c.sa.map (·.add (1 * 38))), c.sc - 1, c.S.drop 1⟩ :=
 ⟨h.x, fun i hi => by
  have q := h.S (i + 1) (by simp only [List.length_drop] at hi; omega)
  rw [List.getD_eq_getElem?_getD] at q ⊢
  rw [List.getElem?_drop, Nat.add_comm 1 i]
  exact q, by show (c.S.drop 1).length ≤ 12; rw [List.length_drop]; have q := h.len; omega, fun w hb => by
  have q2 := ListAt.dropG (k := 1) (h.at_ w hb) hl
  show ListAt Z0J 38 w (.slice _ (c.S.drop 1).length _) (c.S.drop 1)
  rw [List.length_drop]
  exact q2⟩
theorem Z3z {L : List CeR} {x : CeR} {i : Nat} (h : ∀ c ∈ L, CeV B c) (k : CeV B x) : ∀ c ∈ L.set i x, CeV B c := fun y hy => (List.mem_or_eq_of_mem_set hy).elim (h y) fun e => e ▸ k
theorem Z9O {L : List CeR} {i : Nat} (h : ∀ c ∈ L, CeV B c) : ∀ c ∈ L.drop i, CeV B c := fun y hy => h y (List.mem_of_mem_drop hy)
end
def Z5q (v : Value) (A : List CeR) : Ck where
 fp b := 0 < A.length ∧ v.ownBlock = some b
 ok w := ListAt Z0h 38 w v A
 stay {w w'} h hb := by
  rcases h with h | ⟨h0, b, off, cap, rfl, hn, h⟩
  ·exact .inl h
  ·refine .inr ⟨h0, b, off, cap, rfl, hn, fun i hi j u hj => ?_⟩
   have := h i hi j u hj
   rw [Addr.add_lit] at this ⊢
   unfold World.cell? at this ⊢
   rw [hb b ⟨h0, rfl⟩]; exact this
 lt {w} h b hb := by
  obtain ⟨h0, hb⟩ := hb
  obtain ⟨b', o, c, rfl, hc⟩ := ListAt.cells ZZ (by decide) h h0
  simp only [Value.ownBlock, Option.some.injEq] at hb
  subst hb
  have hl : 0 < (A.flatMap Z0h).length := by rw [Z1u Z0h 38 ZZ]; omega
  have := hc 0 _ (List.getElem?_eq_getElem hl)
  exact World.block_lt_of_cell? w _ this
theorem Zb3 {e n c : Nat} {a : Option Addr} {A : List CeR} {w : World} (h : (ZH e 38 (.slice a n c) n (A.flatMap Z0h)).ok w) : (Z5q (.slice a n c) A).ok w := ListAt.row ZZ (by decide) h
theorem Z7A {a : Option Addr} {n c n' c' b : Nat} (h : (Value.slice a n c).ownBlock = some b) : (Value.slice a n' c').ownBlock = some b := by
 cases a with
 | none => exact absurd h (by simp [Value.ownBlock])
 | some x => simpa only [Value.ownBlock] using h
theorem Z1w {e n c : Nat} {a : Option Addr} {A : List CeR} {w : World} (hn : A.length = n) (h : (ZH e 38 (.slice a n c) n (A.flatMap Z0h)).ok w) : (Z5q (.slice a A.length c) A).ok w := by subst hn; exact Zb3 h
theorem Z1v {e n c b : Nat} {a : Option Addr} {A : List CeR} (h : (Z5q (.slice a A.length c) A).fp b) : (ZH e 38 (.slice a n c) n (A.flatMap Z0h)).fp b := Z7A h.2
theorem Z9e {e n c k : Nat} {a : Option Addr} {A : List CeR} {w : World} (hk : k ≤ n) (hn : A.length = n) (h : (ZH e 38 (.slice a n c) n (A.flatMap Z0h)).ok w) : (Z5q (.slice (if c = k then a else a.map (·.add (k * 38))) (A.drop k).length (c - k)) (A.drop k)).ok w := by
 have q := ListAt.dropG (k := k) (ListAt.row ZZ (by decide) h) hk
 show ListAt Z0h 38 w (.slice _ (A.drop k).length _) (A.drop k)
 rw [List.length_drop, hn]
 exact q
theorem Z9d {e n c k b : Nat} {a : Option Addr} {A : List CeR} (h : (Z5q (.slice (if c = k then a else a.map (·.add (k * 38))) (A.drop k).length (c - k)) (A.drop k)).fp b) : (ZH e 38 (.slice a n c) n (A.flatMap Z0h)).fp b := by
 have h2 := h.2
 show (Value.slice a n c).ownBlock = some b
 split at h2
 ·exact Z7A h2
 ·cases a with
  | none => exact absurd h2 (by simp [Value.ownBlock])
  | some x =>
   obtain ⟨b', o, s⟩ := x
   have h3 : some b' = some b := by
    rw [← h2]
    simp only [Option.map_some, Addr.add, Value.ownBlock]
    split <;> rfl
   simpa only [Value.ownBlock] using h3
end Go.Proofs.YtoaifondpohniaaGreat
