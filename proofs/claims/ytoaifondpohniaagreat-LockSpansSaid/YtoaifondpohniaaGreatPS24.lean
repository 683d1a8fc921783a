/- WHAT IS PROVED: contracts and plain laws of LtG. Conditions: stated with each. -/
import Derived.Test.YtoaifondpohniaaGreatPS03
import Derived.Test.YtoaifondpohniaaGreatPS04
import Derived.Test.YtoaifondpohniaaGreatPS09
import Derived.Test.YtoaifondpohniaaGreatPS17
import Derived.Test.YtoaifondpohniaaGreatPS19
import Derived.Test.YtoaifondpohniaaGreatPS21
import Derived.Test.YtoaifondpohniaaGreatPS22
import Derived.Test.YtoaifondpohniaaGreatPS23
set_option maxHeartbeats 4000000
set_option maxRecDepth 100000
namespace Go.Proofs.YtoaifondpohniaaGreat
open Go.RowKit
abbrev Z1y (p0 : Int) (p1 : Int) : List Value := ([(.int .i64 p0), (.int .i64 p1)] : List Value)
abbrev Z3D (p0 : Zn) (p1 : Option Addr) (p2 : Nat) (p3 : Nat) : List Value := ([(.int .i64 p0.cl), (.int .i64 p0.seq)] : List Value) ++ hc p0.h ++ ([(.int .i64 p0.len), (.int .i64 p0.sb), (.int .i64 p0.sm), (.slice p1 p2 p3)] : List Value)
abbrev Z5U : List Value := ([(.int .i64 (0)), (.int .i64 (0))] : List Value) ++ hc Zo ++ ([(.int .i64 (0)), (.int .i64 (0)), (.int .i64 (0)), (.slice none 0 0)] : List Value)
abbrev Z3F (p0 : Int) (p1 : Int) (p2 : Int) (p3 : Nat) : List Value := ([(.int .i64 p0), (.int .i64 p1), (.int .i64 p2), (.map (some p3))] : List Value)
abbrev Z4X (p0 : Zn) (p1 : CeR) (p2 : Nat) : List Value := ([(.int .i64 p0.cl), (.int .i64 p0.seq)] : List Value) ++ hc p0.h ++ ([(.int .i64 p0.len), (.int .i64 p0.sb), (.int .i64 p0.sm), (.slice p1.sa p2 p1.sc)] : List Value)
abbrev Z6W (p0 : Nat) : List Value := ([(.map (some p0))] : List Value)
abbrev Z3f (p0 : Nat) (p1 : List Signed) : Ck := ZC p0 Za (Value.int .i64) (Zq p1)
abbrev Z3k (p0 : CeR) : List Value := ([(.int .i64 p0.x.cl), (.int .i64 p0.x.seq)] : List Value) ++ hc p0.x.h ++ ([(.int .i64 p0.x.len), (.int .i64 p0.x.sb), (.int .i64 p0.x.sm), (.slice p0.sa p0.S.length p0.sc)] : List Value)
abbrev Z3m : List Value := ([(.int .i64 (0)), (.int .i64 (0)), (.int .i64 (0))] : List Value) ++ hc Zo ++ ([(.int .u64 (0)), (.int .i64 (0)), (.int .i64 (0))] : List Value)
abbrev Z2s (p0 : Int) (p1 : Zn) (p2 : Int) : List Value := ([(.int .i64 p0), (.int .i64 p1.cl), (.int .i64 p1.seq)] : List Value) ++ hc p1.h ++ ([(.int .u64 p2), (.int .i64 (0)), (.int .i64 (0))] : List Value)
abbrev Z6N (p0 : Option Addr) (p1 : List UInt8) (p2 : Nat) : Ck := Zb 5 1 (.slice p0 p1.length p2) p1.length (p1.flatMap Zr)
abbrev Z2g (p0 : Int) (p1 : Zn) (p2 : Int) (p3 : Int) : List Value := ([(.int .i64 p0), (.int .i64 p1.cl), (.int .i64 p1.seq)] : List Value) ++ hc p1.h ++ ([(.int .u64 p2), (.int .i64 p0), (.int .i64 p3)] : List Value)
def Z1P (f c : Int) : Bool := decide (1 ≤ f) && decide (f ≤ 21) && decide (1 ≤ c) && decide (c ≤ 100)
def ceV (c : CeR) : Value := .agg ⟨ZK c⟩
theorem Z76 (w : World) : (zeroValue 53).run Tryz.prog w = .ok (ceV ce0) w := by kernel_rfl
theorem Z6P {M : List (NmD × CeR)} {a : NmD} (P : CeR → Prop) (h0 : P ce0) (h : ∀ q ∈ M, P q.2) : P ((Z7 M a).getD ce0) := by
 cases e : Z7 M a with
 | none => exact h0
 | some v => exact h _ (Z3M e)
theorem Z8z {w : World} : (stC ce0).ok w := ⟨rfl, .inl ⟨rfl, rfl⟩⟩
theorem Z6Z {M : List (NmD × CeR)} {a : NmD} {w : World} (h : ∀ q ∈ M, (stC q.2).ok w ∧ q.2.S.length ≤ 12) : (stC ((Z7 M a).getD ce0)).ok w := Z6P (fun c => (stC c).ok w) Z8z fun q hq => (h q hq).1
theorem Z64 {M : List (NmD × CeR)} {a : NmD} {w : World} (h : ∀ q ∈ M, (stC q.2).ok w ∧ q.2.S.length ≤ 12) : ((Z7 M a).getD ce0).S.length ≤ 1000 := Z6P (fun c => c.S.length ≤ 1000) (by decide) fun q hq => Nat.le_trans (h q hq).2 (by decide)
theorem Z6k (w : World) (f c : Int) :
  Calls Tryz.prog 56 #[(.agg ⟨([(.int .i64 (f)), (.int .i64 (c))] : List Value)⟩)] w fun e w' => e = .returned (.bool (Z1P f c)) ∧ Upd [] w w' := by
 have H := Sat.start0 w
 refine ZE Tryz.func56 rfl 21 rfl (Nat.le_of_ble_eq_true rfl) ?_
 apply zsl
 refine zwd fun Kq kq => ?_
 refine zdb (Z1y f c) H ?_
 intro b2 w3 H4
 refine kq _ _ ?_
 clear kq Kq
 refine wv 2 (.bool false) ?_
 apply znt
 refine Z3t (List.range' 2 19) (fun G_ W_ => G_ 2 = (.bool (Z1P f c)) ∧ Sat w [Z6 w (fun _ => False), Z3 b2 36 (Z1y f c)] W_) ?_ ?_
 ·apply Zp
  refine wv 3 (pt b2 0) ?_
  refine zw1 4 (.int .i64 (f)) (H4.cell 1 rfl rfl) ?_
  refine wv 5 (.bool (decide (f ≥ 1))) ?_
  refine wv 6 (.bool (decide (f ≥ 1))) ?_
  refine (ZS (decide (f ≥ 1))).elim (fun b6 => ?_) (fun b6 => ?_)
  ·have g7 := of_decide_eq_true b6
   refine Z02 6 (.bool true) (congrArg Value.bool b6) ?_
   refine wy 3 6 true 7 (pt b2 0) ?_
   refine wy 3 6 true 8 (.int .i64 (f)) ?_ (hr := Zi rfl (by kernel_rfl) (H4.cell 1 rfl rfl))
   refine wy 3 6 true 9 (.bool (decide (f ≤ 21))) ?_
   refine wv 10 (.bool (decide (f ≤ 21))) ?_
   refine wv 11 (.bool (decide (f ≤ 21))) ?_
   refine (ZS (decide (f ≤ 21))).elim (fun b8 => ?_) (fun b8 => ?_)
   ·have g9 := of_decide_eq_true b8
    refine Z02 11 (.bool true) (congrArg Value.bool b8) ?_
    refine wy 8 11 true 12 (pt b2 1) ?_
    refine wy 8 11 true 13 (.int .i64 (c)) ?_ (hr := Zi rfl (by kernel_rfl) (H4.cell 1 rfl rfl))
    refine wy 8 11 true 14 (.bool (decide (c ≥ 1))) ?_
    refine wv 15 (.bool (decide (c ≥ 1))) ?_
    refine wv 16 (.bool (decide (c ≥ 1))) ?_
    refine (ZS (decide (c ≥ 1))).elim (fun b10 => ?_) (fun b10 => ?_)
    ·have g11 := of_decide_eq_true b10
     refine Z02 16 (.bool true) (congrArg Value.bool b10) ?_
     refine wy 13 16 true 17 (pt b2 1) ?_
     refine wy 13 16 true 18 (.int .i64 (c)) ?_ (hr := Zi rfl (by kernel_rfl) (H4.cell 1 rfl rfl))
     refine wy 13 16 true 19 (.bool (decide (c ≤ 100))) ?_
     refine wv 20 (.bool (decide (c ≤ 100))) ?_
     refine wv 2 (.bool (decide (c ≤ 100))) ?_
     apply Zm
     refine Z0T ?_ ⟨(congrArg Value.bool (show (decide (c ≤ 100)) = (Z1P f c) by simp [Z1P, b6, b8, b10])), H4⟩
     exact zs
    have g12 := of_decide_eq_false b10
    refine Z02 16 (.bool false) (congrArg Value.bool b10) ?_
    iterate 3 refine wn 13 16 true ?_
    refine wv 20 (.bool false) ?_
    refine wv 2 (.bool false) ?_
    apply Zm
    refine Z0T ?_ ⟨(congrArg Value.bool (show false = (Z1P f c) by simp [Z1P, b6, b8, b10])), H4⟩
    exact zs
   have g13 := of_decide_eq_false b8
   refine Z02 11 (.bool false) (congrArg Value.bool b8) ?_
   iterate 3 refine wn 8 11 true ?_
   refine wv 15 (.bool false) ?_
   refine wv 16 (.bool false) ?_
   iterate 3 refine wn 13 16 true ?_
   refine wv 20 (.bool false) ?_
   refine wv 2 (.bool false) ?_
   apply Zm
   refine Z0T ?_ ⟨(congrArg Value.bool (show false = (Z1P f c) by simp [Z1P, b6, b8])), H4⟩
   exact zs
  have g14 := of_decide_eq_false b6
  refine Z02 6 (.bool false) (congrArg Value.bool b6) ?_
  iterate 3 refine wn 3 6 true ?_
  refine wv 10 (.bool false) ?_
  refine wv 11 (.bool false) ?_
  iterate 3 refine wn 8 11 true ?_
  refine wv 15 (.bool false) ?_
  refine wv 16 (.bool false) ?_
  iterate 3 refine wn 13 16 true ?_
  refine wv 20 (.bool false) ?_
  refine wv 2 (.bool false) ?_
  apply Zm
  refine Z0T ?_ ⟨(congrArg Value.bool (show false = (Z1P f c) by simp [Z1P, b6])), H4⟩
  exact zs
 rintro f15 w16 ⟨v18, H17⟩
 refine Zs 2 _ v18 ?_
 apply ZY
 refine ze1 (.bool (Z1P f c)) ?_
 exact ⟨rfl, H17.upd 0 rfl [] (fun _ h => h.elim)⟩
theorem Z2a (w : World) (x : Zn) (sa : Option Addr) (sc : Nat) (S : List Zd) (hrow : (Zb 101 38 (.slice sa S.length sc) S.length (S.flatMap Z0l)).ok w) (hlS : S.length ≤ 1000) :
  Calls Tryz.prog 58 #[(.agg ⟨(([(.int .i64 (x.cl)), (.int .i64 (x.seq))] : List Value) ++ hc x.h ++ ([(.int .i64 (x.len)), (.int .i64 (x.sb)), (.int .i64 (x.sm)), ((.slice sa S.length sc))] : List Value))⟩)] w fun e w' => ∃ u, e = .returned (.agg ⟨Z2q x ++ [u]⟩) ∧ (Zb 101 38 u S.length (S.flatMap Z0l)).ok w' ∧ Upd [] w w' ∧ ∀ q_, (Zb 101 38 u S.length (S.flatMap Z0l)).fp q_ → w.heap.size ≤ q_ := by
 have H := Sat.start0 w
 refine ZE Tryz.func58 rfl 8 rfl (Nat.le_of_ble_eq_true rfl) ?_
 apply zsl
 refine zwd fun Kq kq => ?_
 refine zdb (Z3D x sa S.length sc) H ?_
 intro b2 w3 H4
 refine kq _ _ ?_
 clear kq Kq
 refine zwd fun Kq kq => ?_
 refine zda (Z5U) H4 ?_
 intro b6 w7 H8
 refine kq _ _ ?_
 clear kq Kq
 apply Z8K
 refine wv 3 (pt b2 37) ?_
 refine zw1 4 ((.slice sa S.length sc)) (H8.cell 1 rfl (by kernel_rfl)) ?_
 refine zwd fun Kq kq => ?_
 refine zdc 5 (Z6r w7 ((.slice sa S.length sc)) S (H8.roCk 0 rfl hrow (fun _ _ h => h)) hlS) ?_
 rintro _ w10 ⟨u11, rfl, k12, p13, q14⟩
 have H15 := H8.addU p13 k12 q14
 obtain ⟨a16, c17, rfl⟩ := Zl (H15.at 3 rfl)
 refine ⟨_, rfl, ?_⟩
 refine kq _ _ ?_
 clear kq Kq
 refine wv 6 (pt b2 37) ?_
 refine zwd fun Kq kq => ?_
 refine zds ([(.slice a16 S.length c17)] : List Value) (Z3D x a16 S.length c17) H15 1 ?_
 intro w19 H20
 refine kq _ _ ?_
 clear kq Kq
 apply Z8K
 refine zwN 7 (Z3D x a16 S.length c17) (H20.at 1 rfl) ?_
 refine zwd fun Kq kq => ?_
 refine Z6T (Z3D x a16 S.length c17) H20 2 ?_
 intro w23 H24
 refine kq _ _ ?_
 clear kq Kq
 apply znt
 apply ZY
 refine Z0O rfl (Z0i (vs := (Z3D x a16 S.length c17)) rfl (by kernel_rfl) (by kernel_rfl) (by exact Nat.le_of_ble_eq_true (by kernel_rfl)) (H24.at 2 rfl) (by kernel_rfl)) ?_
 exact ⟨_, rfl, H24.at 3 rfl, H24.upd 0 rfl [] (fun _ h => h.elim), H24.fresh 0 rfl (fun _ h => h) 3 rfl rfl⟩
theorem Z7k (w : World) (F Cn rp : Int) (hF : -1099511627776 ≤ F ∧ F ≤ 1099511627776) :
  Calls Tryz.prog 22 #[(.agg ⟨([(.int .i64 (F)), (.int .i64 (Cn))] : List Value)⟩), (.int .i64 (rp))] w fun e w' => (e = .returned (.tuple #[.pointer none, .int .i64 1]) ∧ (Z1P F Cn && inB F rp) = false ∧ Upd [] w w') ∨ ∃ t tm, e = .returned (.tuple #[.pointer (some ⟨t, 0, none⟩), .int .i64 0]) ∧ (Z1P F Cn && inB F rp) = true ∧ Sat w [Z3 t 121 [.int .i64 F, .int .i64 Cn, .int .i64 rp, .map (some tm)], ZC tm nmV ceV [], Z6 w (fun _ => False)] w' := by
 have H := Sat.start0 w
 refine ZE Tryz.func22 rfl 20 rfl (Nat.le_of_ble_eq_true rfl) ?_
 apply zsl
 refine zwd fun Kq kq => ?_
 refine zdb (Z1y F Cn) H ?_
 intro b2 w3 H4
 refine kq _ _ ?_
 clear kq Kq
 refine wv 4 (.pointer none) ?_
 refine wv 5 (.int .i64 (0)) ?_
 apply znt
 apply Zc
 apply zsl
 refine zwN 6 (Z1y F Cn) (H4.at 1 rfl) ?_
 refine zwd fun Kq kq => ?_
 refine zdq 7 (Z6k w3 F Cn) H4 ?_
 intro w6 H7
 refine kq _ _ ?_
 clear kq Kq
 refine wv 8 (.bool (!(Z1P F Cn))) ?_
 refine wv 9 (.bool (!(Z1P F Cn))) ?_
 refine (ZS (!(Z1P F Cn))).elim (fun b9 => ?_) (fun b9 => ?_)
 ·have g10 := ZW b9
  refine Z02 9 (.bool true) (congrArg Value.bool b9) ?_
  iterate 4 refine wn 3 9 false ?_
  refine wv 14 (.bool true) ?_
  apply znt
  refine Z0h rfl ?_
  apply zsl
  refine wv 4 (.pointer none) ?_
  refine wv 5 (.int .i64 (1)) ?_
  apply znt
  apply ZY
  apply Z0d
  refine ze2 (.pointer none) (.int .i64 (1)) ?_
  exact .inl ⟨rfl, (by have q0_ := b9; revert q0_; generalize Z1P F Cn = p_; generalize inB F rp = q_; cases p_ <;> cases q_ <;> decide), H7.upd 0 rfl [] (fun _ h => h.elim)⟩
 have g12 := ZG b9
 refine Z02 9 (.bool false) (congrArg Value.bool b9) ?_
 refine wy 3 9 false 10 (.agg ⟨(Z1y F Cn)⟩) ?_ (hr := ZB (vs := (Z1y F Cn)) rfl (by kernel_rfl) (by kernel_rfl) (by exact Nat.le_of_ble_eq_true (by kernel_rfl)) (H7.at 1 rfl) (by kernel_rfl))
 refine wy 3 9 false 11 (.int .i64 (rp)) ?_
 refine ZA (Zj 3 9 false rfl (by kernel_rfl) rfl (by kernel_rfl)) (fun Kq kq => ?_)
 refine zdq 12 (Z6X w6 F Cn rp (by omega)) H7 ?_
 intro w15 H16
 refine kq _ _ ?_
 clear kq Kq
 refine wy 3 9 false 13 (.bool (!(inB F rp))) ?_
 refine wv 14 (.bool (!(inB F rp))) ?_
 apply znt
 refine (ZS (!(inB F rp))).elim (fun b18 => ?_) (fun b18 => ?_)
 ·have g19 := ZW b18
  refine zwkt _ b18 ?_
  apply zsl
  refine wv 4 (.pointer none) ?_
  refine wv 5 (.int .i64 (1)) ?_
  apply znt
  apply ZY
  apply Z0d
  refine ze2 (.pointer none) (.int .i64 (1)) ?_
  exact .inl ⟨rfl, (by have q0_ := b9; have q1_ := b18; revert q0_ q1_; generalize Z1P F Cn = p_; generalize inB F rp = q_; cases p_ <;> cases q_ <;> decide), H16.upd 0 rfl [] (fun _ h => h.elim)⟩
 have g21 := ZG b18
 refine zwkf _ b18 ?_
 apply Z0b
 apply ztn
 apply zsl
 refine zwN 15 (Z1y F Cn) (H16.at 1 rfl) ?_
 refine wv 16 (.int .i64 (rp)) ?_
 refine zwd fun Kq kq => ?_
 refine Z4O nmV ceV rfl H16 ?_
 intro b24 w25 H26
 refine kq _ _ ?_
 clear kq Kq
 refine wv 18 (.agg ⟨(Z3F F Cn rp b24)⟩) ?_
 refine zwd fun Kq kq => ?_
 refine zdb (Z3F F Cn rp b24) H26 ?_
 intro b28 w29 H30
 refine kq _ _ ?_
 clear kq Kq
 refine wv 4 (pt b28 0) ?_
 refine wv 5 (.int .i64 (0)) ?_
 apply znt
 apply ZY
 refine ze2 (pt b28 0) (.int .i64 (0)) ?_
 exact .inr ⟨b28, b24, rfl, (by have q0_ := b9; have q1_ := b18; revert q0_ q1_; generalize Z1P F Cn = p_; generalize inB F rp = q_; cases p_ <;> cases q_ <;> decide), H30.pk [3, 2, 0]⟩
theorem Z79 (w : World) (t tm : Nat) (F Cn rp : Int) (M : List (NmD × CeR)) (ht : (Z3 t 121 [.int .i64 F, .int .i64 Cn, .int .i64 rp, .map (some tm)]).ok w) (htm : MapAt w tm nmV ceV M) :
  Calls Tryz.prog 30 #[(.pointer (some ⟨t, 0, none⟩))] w fun e w' => e = .returned (.int .i64 (M.length : Int)) ∧ Upd [] w w' := by
 have H := Sat.start0 w
 refine ZE Tryz.func30 rfl 8 rfl (Nat.le_of_ble_eq_true rfl) ?_
 apply zsl
 refine wv 2 (.int .i64 (0)) ?_
 apply Z8K
 refine wv 3 (pt t 0) ?_
 refine wv 4 (pt t 0) ?_
 refine wv 5 (pt t 3) ?_
 refine zw1 6 (.map (some tm)) (H.roCell 0 rfl ht (fun h => h) rfl) ?_
 refine wv 7 (.int .i64 (((M).length : Int))) ?_ (hr := Z8x (kt := 24) (et := 53) (by kernel_rfl) (H.roMap 0 rfl htm (fun h => h)) rfl)
 refine wv 2 (.int .i64 (((M).length : Int))) ?_
 apply znt
 apply ZY
 refine ze1 (.int .i64 (((M).length : Int))) ?_
 exact ⟨rfl, H.upd 0 rfl [] (fun _ h => h.elim)⟩
theorem Z7f (w : World) (t tm : Nat) (F Cn rp : Int) (M : List (NmD × CeR)) (ht : (Z3 t 121 [.int .i64 F, .int .i64 Cn, .int .i64 rp, .map (some tm)]).ok w) (htm : MapAt w tm nmV ceV M) (hst : ∀ q ∈ M, (stC q.2).ok w ∧ q.2.S.length ≤ 12) (a b : Int) :
  Calls Tryz.prog 26 #[(.pointer (some ⟨t, 0, none⟩)), (.agg ⟨([(.int .i64 (a)), (.int .i64 (b))] : List Value)⟩)] w fun e w' => ∃ u, e = .returned (.tuple #[.agg ⟨Z2q ((Z7 M (⟨a, b⟩ : NmD)).getD ce0).x ++ [u]⟩, .bool (Z7 M (⟨a, b⟩ : NmD)).isSome]) ∧ (Zb 101 38 u ((Z7 M (⟨a, b⟩ : NmD)).getD ce0).S.length (((Z7 M (⟨a, b⟩ : NmD)).getD ce0).S.flatMap Z0l)).ok w' ∧ Upd [] w w' ∧ ∀ q_, (Zb 101 38 u ((Z7 M (⟨a, b⟩ : NmD)).getD ce0).S.length (((Z7 M (⟨a, b⟩ : NmD)).getD ce0).S.flatMap Z0l)).fp q_ → w.heap.size ≤ q_ := by
 have H := Sat.start0 w
 refine ZE Tryz.func26 rfl 20 rfl (Nat.le_of_ble_eq_true rfl) ?_
 apply zsl
 refine zwd fun Kq kq => ?_
 refine zdb (Z1y a b) H ?_
 intro b2 w3 H4
 refine kq _ _ ?_
 clear kq Kq
 refine zwd fun Kq kq => ?_
 refine zda (Z5U) H4 ?_
 intro b6 w7 H8
 refine kq _ _ ?_
 clear kq Kq
 refine wv 5 (.bool false) ?_
 apply znt
 apply Zc
 refine Z0k H8 [Z6 w (fun _ => False), Z3 b2 24 (Z1y a b), Z3 b6 53 (Z5U)] 12 rfl (by kernel_rfl) (fun Hx => (Hx.pk [0, 1, 2])) ?_
 intro w9 H10 S11
 refine hv0 0 S11 9 (pt t 0) ?_
 refine hv0 1 S11 10 (pt t 0) ?_
 refine hv0 2 S11 11 (pt t 3) ?_
 refine hv0 3 S11 12 (.map (some tm)) ?_ (he := fun _ H' => (Zi rfl (by kernel_rfl) (H'.roCell 0 rfl ht (fun h => h) rfl)))
 refine hv0 4 S11 13 (.agg ⟨(Z1y a b)⟩) ?_ (he := fun _ H' => (ZB (vs := (Z1y a b)) rfl (by kernel_rfl) (by kernel_rfl) (by exact Nat.le_of_ble_eq_true (by kernel_rfl)) (H'.at 1 rfl) (by kernel_rfl)))
 refine hv0 5 S11 14 (.tuple #[(.agg ⟨(Z4X (((Z7 M (⟨a, b⟩ : NmD)).getD ce0).x) ((Z7 M (⟨a, b⟩ : NmD)).getD ce0) (((Z7 M (⟨a, b⟩ : NmD)).getD ce0).S.length))⟩), (.bool ((Z7 M (⟨a, b⟩ : NmD)).isSome))]) ?_ (he := fun _ H' => (Z56 (kt := 24) (et := 53) nmK (by kernel_rfl) Z76 rfl (⟨a, b⟩ : NmD) rfl (H'.roMap 0 rfl htm (fun h => h)) (Z8t ceV _ _) rfl))
 refine hv0 6 S11 8 (.tuple #[(.agg ⟨(Z4X (((Z7 M (⟨a, b⟩ : NmD)).getD ce0).x) ((Z7 M (⟨a, b⟩ : NmD)).getD ce0) (((Z7 M (⟨a, b⟩ : NmD)).getD ce0).S.length))⟩), (.bool ((Z7 M (⟨a, b⟩ : NmD)).isSome))]) ?_
 refine hv0 7 S11 15 (.agg ⟨(Z4X (((Z7 M (⟨a, b⟩ : NmD)).getD ce0).x) ((Z7 M (⟨a, b⟩ : NmD)).getD ce0) (((Z7 M (⟨a, b⟩ : NmD)).getD ce0).S.length))⟩) ?_
 refine hv0 8 S11 16 (.bool ((Z7 M (⟨a, b⟩ : NmD)).isSome)) ?_
 refine Z8L 9 fun Kq kq => ?_
 refine zda (Z5U) H10 ?_
 intro b13 w14 H15
 have S16 := H15.pk [0, 1, 2]
 refine kq _ _ S16 ?_
 clear kq Kq
 refine Z8L 10 fun Kq kq => ?_
 refine Z6T (Z4X (((Z7 M (⟨a, b⟩ : NmD)).getD ce0).x) ((Z7 M (⟨a, b⟩ : NmD)).getD ce0) (((Z7 M (⟨a, b⟩ : NmD)).getD ce0).S.length)) H15 3 ?_
 intro w18 H19
 have S21 := H19.pk [0, 1, 2]
 refine kq _ _ S21 ?_
 clear kq Kq
 refine hv0 11 S21 7 (.bool ((Z7 M (⟨a, b⟩ : NmD)).isSome)) ?_
 refine zhf ?_
 apply ztn
 apply zsl
 refine zwN 17 (Z4X (((Z7 M (⟨a, b⟩ : NmD)).getD ce0).x) ((Z7 M (⟨a, b⟩ : NmD)).getD ce0) (((Z7 M (⟨a, b⟩ : NmD)).getD ce0).S.length)) (H19.at 3 rfl) ?_
 refine zwd fun Kq kq => ?_
 refine zdc 18 (Z2a w18 ((Z7 M (⟨a, b⟩ : NmD)).getD ce0).x ((Z7 M (⟨a, b⟩ : NmD)).getD ce0).sa ((Z7 M (⟨a, b⟩ : NmD)).getD ce0).sc ((Z7 M (⟨a, b⟩ : NmD)).getD ce0).S (H19.roCk 0 rfl (Z6Z hst) (fun _ _ h => h)) (Z64 hst)) ?_
 rintro _ w23 ⟨u24, rfl, k25, p26, q27⟩
 have H28 := H19.addU p26 k25 q27
 obtain ⟨a29, c30, rfl⟩ := Zl (H28.at 4 rfl)
 refine ⟨_, rfl, ?_⟩
 refine kq _ _ ?_
 clear kq Kq
 refine wv 19 (.bool ((Z7 M (⟨a, b⟩ : NmD)).isSome)) ?_
 refine zwd fun Kq kq => ?_
 refine Z6T (Z3D (((Z7 M (⟨a, b⟩ : NmD)).getD ce0).x) a29 ((((Z7 M (⟨a, b⟩ : NmD)).getD ce0).S).length) c30) H28 2 ?_
 intro w32 H33
 refine kq _ _ ?_
 clear kq Kq
 refine wv 5 (.bool ((Z7 M (⟨a, b⟩ : NmD)).isSome)) ?_
 apply znt
 apply ZY
 refine Z6p rfl (Z0i (vs := (Z3D (((Z7 M (⟨a, b⟩ : NmD)).getD ce0).x) a29 ((((Z7 M (⟨a, b⟩ : NmD)).getD ce0).S).length) c30)) rfl (by kernel_rfl) (by kernel_rfl) (by exact Nat.le_of_ble_eq_true (by kernel_rfl)) (H33.at 2 rfl) (by kernel_rfl)) (ZF (v := (.bool ((Z7 M (⟨a, b⟩ : NmD)).isSome))) rfl) ?_
 exact ⟨_, rfl, H33.at 4 rfl, H33.upd 0 rfl [] (fun _ h => h.elim), H33.fresh 0 rfl (fun _ h => h) 4 rfl rfl⟩
theorem Z4M (w : World) (t : Nat) (F Cn rp : Int) (tm : Nat) (B : List Ck) (b mb : Nat) (Lb : List Signed) (hA : (ZH [Z3 t 121 [.int .i64 F, .int .i64 Cn, .int .i64 rp, .map (some tm)], ZI B, Z3 b 110 [.map (some mb)], ZC mb Za (Value.int .i64) (Zq Lb)]).ok w) (hrp : 0 ≤ rp ∧ rp ≤ 1000000) (hlb : Lb.length ≤ 100000) (x : CeR) (hxT : CeT B x) :
  Calls Tryz.prog 57 #[(.pointer (some ⟨t, 0, none⟩)), (.pointer (some ⟨b, 0, none⟩)), (.agg ⟨(([(.int .i64 (x.x.cl)), (.int .i64 (x.x.seq))] : List Value) ++ hc x.x.h ++ ([(.int .i64 (x.x.len)), (.int .i64 (x.x.sb)), (.int .i64 (x.x.sm)), (.slice x.sa x.S.length x.sc)] : List Value))⟩)] w fun e w' => e = .returned (.agg ⟨Z0l (Z19 rp Lb x)⟩) ∧ Sat w [Z3 t 121 [.int .i64 F, .int .i64 Cn, .int .i64 rp, .map (some tm)], ZI B, Z3 b 110 [.map (some mb)], ZC mb Za (Value.int .i64) (Zq (Zg Lb (Z6E rp x))), Z6 w (ZH [Z3 t 121 [.int .i64 F, .int .i64 Cn, .int .i64 rp, .map (some tm)], ZI B, Z3 b 110 [.map (some mb)], ZC mb Za (Value.int .i64) (Zq Lb)]).fp] w' := by
 have H := Sat.start0 w
 have hxx := hxT.x
 unfold CoB at hxx
 have htl := Z6b hxT
 have H := Sat.start _ hA
 refine ZE Tryz.func57 rfl 31 rfl (Nat.le_of_ble_eq_true rfl) ?_
 apply zsl
 refine zwd fun Kq kq => ?_
 refine zdb (Z3k x) H ?_
 intro b2 w3 H4
 refine kq _ _ ?_
 clear kq Kq
 refine zwd fun Kq kq => ?_
 refine zda (Z3m) H4 ?_
 intro b6 w7 H8
 refine kq _ _ ?_
 clear kq Kq
 apply znt
 apply Zc
 refine Z0k H8 [Z3 t 121 (Z3F F Cn rp tm), ZI B, Z3 b 110 (Z6W mb), (Z3f mb Lb), Z6 w (ZH [Z3 t 121 [.int .i64 F, .int .i64 Cn, .int .i64 rp, .map (some tm)], ZI B, Z3 b 110 [.map (some mb)], (Z3f mb Lb)]).fp, Z3 b2 53 (Z3k x), Z3 b6 31 (Z3m)] 15 rfl (by kernel_rfl) (fun Hx => (Hx.pk [0, 1, 2, 3, 4, 5, 6])) ?_
 intro w9 H10 S11
 refine hv0 0 S11 8 (pt t 0) ?_
 refine hv0 1 S11 9 (pt t 0) ?_
 refine hv0 2 S11 10 (pt t 2) ?_
 refine hv0 3 S11 11 (.int .i64 (rp)) ?_ (he := fun _ H' => (Zi rfl (by kernel_rfl) (H'.cell 0 rfl rfl)))
 refine hv0 4 S11 12 (pt b2 0) ?_
 refine hv0 5 S11 13 (pt b2 0) ?_
 refine hv0 6 S11 14 (.agg ⟨(Z1y x.x.cl x.x.seq)⟩) ?_ (he := fun _ H' => (ZB (vs := (Z1y x.x.cl x.x.seq)) rfl (by kernel_rfl) (by kernel_rfl) (by exact Nat.le_of_ble_eq_true (by kernel_rfl)) (H'.at 5 rfl) (by kernel_rfl)))
 refine hv0 7 S11 15 (pt b2 0) ?_
 refine hv0 8 S11 16 (pt b2 2) ?_
 refine hv0 9 S11 17 (.agg ⟨(hc x.x.h)⟩) ?_ (he := fun _ H' => (ZB (vs := (hc x.x.h)) rfl (by kernel_rfl) (by kernel_rfl) (by exact Nat.le_of_ble_eq_true (by kernel_rfl)) (H'.at 5 rfl) (by kernel_rfl)))
 refine hv0 10 S11 18 (.agg ⟨(Z3k x)⟩) ?_ (he := fun _ H' => (ZB (vs := (Z3k x)) rfl (by kernel_rfl) (by kernel_rfl) (by exact Nat.le_of_ble_eq_true (by kernel_rfl)) (H'.at 5 rfl) (by kernel_rfl)))
 refine Z6z 11 13 rfl rfl (by kernel_rfl) (Z1 rfl) (Z1 rfl) (fun Kq kq => ?_) (fun Kq kq => ?_)
 ·refine zdq 19 (Z1k w9 x.x x.sa x.sc x.S (Z2h (c := x) (H10.at 1 rfl) hxT.bag) hxT.len) H10 ?_
  intro w13 H14
  have S16 := H14.pk [0, 1, 2, 3, 4, 5, 6]
  refine kq _ _ S16 ?_
  clear kq Kq
  refine Ze 12 rfl (by kernel_rfl) (by kernel_rfl) (by kernel_rfl) (fun _ _ _ h => h) S16 (Z1 rfl) (d := 20) (v := (.agg ⟨(Z2s rp x.x (ZO x.S))⟩)) rfl (fun _ H' => (by kernel_rfl)) ?_
  refine Z8L 13 fun Kq kq => ?_
  refine zda (Z3m) H14 ?_
  intro b18 w19 H20
  have S21 := H20.pk [0, 1, 2, 3, 4, 5, 6]
  refine kq _ _ S21 ?_
  clear kq Kq
  refine Z8L 14 fun Kq kq => ?_
  refine Z6T (Z2s rp x.x (ZO x.S)) H20 7 ?_
  intro w23 H24
  have S26 := H24.pk [0, 1, 2, 3, 4, 5, 6]
  refine kq _ _ S26 ?_
  clear kq Kq
  refine zhf ?_
  apply ztn
  apply Zc
  refine Z1f H24 [Z3 t 121 (Z3F F Cn rp tm), ZI B, Z6 w (ZH [Z3 t 121 [.int .i64 F, .int .i64 Cn, .int .i64 rp, .map (some tm)], ZI B, Z3 b 110 [.map (some mb)], (Z3f mb Lb)]).fp, Z3 b2 53 (Z3k x), Z3 b6 31 (Z3m), Z3 b18 31 (Z2s rp x.x (ZO x.S))] [9] 10 rfl (by kernel_rfl) (fun Hx => (Hx.pk [0, 1, 4, 5, 6, 7])) ?_
  intro w27 H28 S29
  refine zkp 0 S29 21 (pt b 0) ?_
  refine zkp 1 S29 22 (pt t 0) ?_
  refine zkp 2 S29 23 (pt t 0) ?_
  refine zkp 3 S29 24 (pt t 2) ?_
  refine zkv 4 S29 25 (.int .i64 (rp)) ?_ (he := fun _ H' => (Zi rfl (by kernel_rfl) (H'.cell 0 rfl rfl)))
  refine zkv 5 S29 26 (.agg ⟨(Z2s rp x.x (ZO x.S))⟩) ?_ (he := fun _ H' => (ZB (vs := (Z2s rp x.x (ZO x.S))) rfl (by kernel_rfl) (by kernel_rfl) (by exact Nat.le_of_ble_eq_true (by kernel_rfl)) (H'.at 5 rfl) (by kernel_rfl)))
  refine Z8m 6 fun Kq kq => ?_
  refine zdc 27 (Z3i w27 (⟨rp, x.x.cl, x.x.seq, x.x.h, ZO x.S, 0, 0⟩ : Zd) ⟨by show rp ≤ _; omega, hxx.1.1, hxx.1.2.1, htl.1, htl.2⟩) ?_
  rintro _ w31 ⟨u32, rfl, k33, p34, q35⟩
  have H36 := H28.addU p34 k33 q35
  obtain ⟨a37, c38, rfl⟩ := Zl (H36.at 8 rfl)
  refine ⟨_, rfl, ?_⟩
  have hal := Z65 (⟨rp, x.x.cl, x.x.seq, x.x.h, ZO x.S, 0, 0⟩ : Zd)
  have S39 := H36.pk [0, 1, 4, 5, 6, 7]
  refine kq _ _ S39 ?_
  clear kq Kq
  refine Z8m 7 fun Kq kq => ?_
  refine zdc 28 (Z1N w31 b mb Lb (.slice a37 ((Z26 (⟨rp, x.x.cl, x.x.seq, x.x.h, ZO x.S, 0, 0⟩ : Zd)).length) c38) (Z26 (⟨rp, x.x.cl, x.x.seq, x.x.h, ZO x.S, 0, 0⟩ : Zd)) (H36.fn [2, 3, 8]) (by omega) rp) ?_
  rintro _ w41 ⟨rfl, T42⟩
  have H43 := H36.tl [Z3 b 110 (Z6W mb), (Z3f mb (Zg Lb (⟨rp, (Z26 (⟨rp, x.x.cl, x.x.seq, x.x.h, ZO x.S, 0, 0⟩ : Zd))⟩ : Signed))), (Z6N a37 (Z26 (⟨rp, x.x.cl, x.x.seq, x.x.h, ZO x.S, 0, 0⟩ : Zd)) c38)] [2, 3, 8] [0, 1, 4, 5, 6, 7] T42 [3, 4, 0, 1, 5, 6, 7, 8, 2]
  refine ⟨_, rfl, ?_⟩
  have S44 := H43.pk [0, 1, 4, 5, 6, 7]
  refine kq _ _ S44 ?_
  clear kq Kq
  refine zkp 8 S44 29 (pt b18 36) ?_
  refine Z3b 9 (Sat w [Z3 t 121 (Z3F F Cn rp tm), ZI B, Z6 w (ZH [Z3 t 121 [.int .i64 F, .int .i64 Cn, .int .i64 rp, .map (some tm)], ZI B, Z3 b 110 [.map (some mb)], (Z3f mb Lb)]).fp, Z3 b2 53 (Z3k x), Z3 b6 31 (Z3m)]) rfl (by kernel_rfl) (Z1 rfl) rfl (fun Kq kq => ?_)
  refine zds (Z1y rp (Zt (Zg Lb (⟨rp, (Z26 (⟨rp, x.x.cl, x.x.seq, x.x.h, ZO x.S, 0, 0⟩ : Zd))⟩ : Signed)) (⟨rp, (Z26 (⟨rp, x.x.cl, x.x.seq, x.x.h, ZO x.S, 0, 0⟩ : Zd))⟩ : Signed))) (Z2g rp x.x (ZO x.S) (Zt (Zg Lb (⟨rp, (Z26 (⟨rp, x.x.cl, x.x.seq, x.x.h, ZO x.S, 0, 0⟩ : Zd))⟩ : Signed)) (⟨rp, (Z26 (⟨rp, x.x.cl, x.x.seq, x.x.h, ZO x.S, 0, 0⟩ : Zd))⟩ : Signed))) H43 7 ?_
  intro w46 H47
  have S49 := H47.pk [0, 1, 4, 5, 6]
  refine kq _ _ S49 ?_
  clear kq Kq
  refine zhf ?_
  apply ztn
  apply zsl
  refine zwN 30 (Z2g rp x.x (ZO x.S) (Zt (Zg Lb (⟨rp, (Z26 (⟨rp, x.x.cl, x.x.seq, x.x.h, ZO x.S, 0, 0⟩ : Zd))⟩ : Signed)) (⟨rp, (Z26 (⟨rp, x.x.cl, x.x.seq, x.x.h, ZO x.S, 0, 0⟩ : Zd))⟩ : Signed))) (H47.at 7 rfl) ?_
  refine zwd fun Kq kq => ?_
  refine Z6T (Z2g rp x.x (ZO x.S) (Zt (Zg Lb (⟨rp, (Z26 (⟨rp, x.x.cl, x.x.seq, x.x.h, ZO x.S, 0, 0⟩ : Zd))⟩ : Signed)) (⟨rp, (Z26 (⟨rp, x.x.cl, x.x.seq, x.x.h, ZO x.S, 0, 0⟩ : Zd))⟩ : Signed))) H47 6 ?_
  intro w51 H52
  refine kq _ _ ?_
  clear kq Kq
  apply znt
  apply ZY
  refine Z0O rfl (Z0i (vs := (Z2g rp x.x (ZO x.S) (Zt (Zg Lb (⟨rp, (Z26 (⟨rp, x.x.cl, x.x.seq, x.x.h, ZO x.S, 0, 0⟩ : Zd))⟩ : Signed)) (⟨rp, (Z26 (⟨rp, x.x.cl, x.x.seq, x.x.h, ZO x.S, 0, 0⟩ : Zd))⟩ : Signed)))) rfl (by kernel_rfl) (by kernel_rfl) (by exact Nat.le_of_ble_eq_true (by kernel_rfl)) (H52.at 6 rfl) (by kernel_rfl)) ?_
  exact ⟨rfl, H52.pk [0, 1, 2, 3, 4]⟩
 refine zda (Z3m) H10 ?_
 intro b54 w55 H56
 have S57 := H56.pk [0, 1, 2, 3, 4, 5, 6]
 refine kq _ _ S57 ?_
 clear kq Kq
 refine Z8L 11 fun Kq kq => ?_
 refine zdq 19 (Z1k w55 x.x x.sa x.sc x.S (Z2h (c := x) (H56.at 1 rfl) hxT.bag) hxT.len) H56 ?_
 intro w59 H60
 have S62 := H60.pk [0, 1, 2, 3, 4, 5, 6]
 refine kq _ _ S62 ?_
 clear kq Kq
 refine Ze 12 rfl (by kernel_rfl) (by kernel_rfl) (by kernel_rfl) (fun _ _ _ h => h) S62 (Z1 rfl) (d := 20) (v := (.agg ⟨(Z2s rp x.x (ZO x.S))⟩)) rfl (fun _ H' => (by kernel_rfl)) ?_
 refine Z8L 14 fun Kq kq => ?_
 refine Z6T (Z2s rp x.x (ZO x.S)) H60 7 ?_
 intro w64 H65
 have S67 := H65.pk [0, 1, 2, 3, 4, 5, 6]
 refine kq _ _ S67 ?_
 clear kq Kq
 refine zhf ?_
 apply ztn
 apply Zc
 refine Z1f H65 [Z3 t 121 (Z3F F Cn rp tm), ZI B, Z6 w (ZH [Z3 t 121 [.int .i64 F, .int .i64 Cn, .int .i64 rp, .map (some tm)], ZI B, Z3 b 110 [.map (some mb)], (Z3f mb Lb)]).fp, Z3 b2 53 (Z3k x), Z3 b6 31 (Z3m), Z3 b54 31 (Z2s rp x.x (ZO x.S))] [9] 10 rfl (by kernel_rfl) (fun Hx => (Hx.pk [0, 1, 4, 5, 6, 7])) ?_
 intro w68 H69 S70
 refine zkp 0 S70 21 (pt b 0) ?_
 refine zkp 1 S70 22 (pt t 0) ?_
 refine zkp 2 S70 23 (pt t 0) ?_
 refine zkp 3 S70 24 (pt t 2) ?_
 refine zkv 4 S70 25 (.int .i64 (rp)) ?_ (he := fun _ H' => (Zi rfl (by kernel_rfl) (H'.cell 0 rfl rfl)))
 refine zkv 5 S70 26 (.agg ⟨(Z2s rp x.x (ZO x.S))⟩) ?_ (he := fun _ H' => (ZB (vs := (Z2s rp x.x (ZO x.S))) rfl (by kernel_rfl) (by kernel_rfl) (by exact Nat.le_of_ble_eq_true (by kernel_rfl)) (H'.at 5 rfl) (by kernel_rfl)))
 refine Z8m 6 fun Kq kq => ?_
 refine zdc 27 (Z3i w68 (⟨rp, x.x.cl, x.x.seq, x.x.h, ZO x.S, 0, 0⟩ : Zd) ⟨by show rp ≤ _; omega, hxx.1.1, hxx.1.2.1, htl.1, htl.2⟩) ?_
 rintro _ w72 ⟨u73, rfl, k74, p75, q76⟩
 have H77 := H69.addU p75 k74 q76
 obtain ⟨a78, c79, rfl⟩ := Zl (H77.at 8 rfl)
 refine ⟨_, rfl, ?_⟩
 have hal := Z65 (⟨rp, x.x.cl, x.x.seq, x.x.h, ZO x.S, 0, 0⟩ : Zd)
 have S80 := H77.pk [0, 1, 4, 5, 6, 7]
 refine kq _ _ S80 ?_
 clear kq Kq
 refine Z8m 7 fun Kq kq => ?_
 refine zdc 28 (Z1N w72 b mb Lb (.slice a78 ((Z26 (⟨rp, x.x.cl, x.x.seq, x.x.h, ZO x.S, 0, 0⟩ : Zd)).length) c79) (Z26 (⟨rp, x.x.cl, x.x.seq, x.x.h, ZO x.S, 0, 0⟩ : Zd)) (H77.fn [2, 3, 8]) (by omega) rp) ?_
 rintro _ w82 ⟨rfl, T83⟩
 have H84 := H77.tl [Z3 b 110 (Z6W mb), (Z3f mb (Zg Lb (⟨rp, (Z26 (⟨rp, x.x.cl, x.x.seq, x.x.h, ZO x.S, 0, 0⟩ : Zd))⟩ : Signed))), (Z6N a78 (Z26 (⟨rp, x.x.cl, x.x.seq, x.x.h, ZO x.S, 0, 0⟩ : Zd)) c79)] [2, 3, 8] [0, 1, 4, 5, 6, 7] T83 [3, 4, 0, 1, 5, 6, 7, 8, 2]
 refine ⟨_, rfl, ?_⟩
 have S85 := H84.pk [0, 1, 4, 5, 6, 7]
 refine kq _ _ S85 ?_
 clear kq Kq
 refine zkp 8 S85 29 (pt b54 36) ?_
 refine Z3b 9 (Sat w [Z3 t 121 (Z3F F Cn rp tm), ZI B, Z6 w (ZH [Z3 t 121 [.int .i64 F, .int .i64 Cn, .int .i64 rp, .map (some tm)], ZI B, Z3 b 110 [.map (some mb)], (Z3f mb Lb)]).fp, Z3 b2 53 (Z3k x), Z3 b6 31 (Z3m)]) rfl (by kernel_rfl) (Z1 rfl) rfl (fun Kq kq => ?_)
 refine zds (Z1y rp (Zt (Zg Lb (⟨rp, (Z26 (⟨rp, x.x.cl, x.x.seq, x.x.h, ZO x.S, 0, 0⟩ : Zd))⟩ : Signed)) (⟨rp, (Z26 (⟨rp, x.x.cl, x.x.seq, x.x.h, ZO x.S, 0, 0⟩ : Zd))⟩ : Signed))) (Z2g rp x.x (ZO x.S) (Zt (Zg Lb (⟨rp, (Z26 (⟨rp, x.x.cl, x.x.seq, x.x.h, ZO x.S, 0, 0⟩ : Zd))⟩ : Signed)) (⟨rp, (Z26 (⟨rp, x.x.cl, x.x.seq, x.x.h, ZO x.S, 0, 0⟩ : Zd))⟩ : Signed))) H84 7 ?_
 intro w87 H88
 have S90 := H88.pk [0, 1, 4, 5, 6]
 refine kq _ _ S90 ?_
 clear kq Kq
 refine zhf ?_
 apply ztn
 apply zsl
 refine zwN 30 (Z2g rp x.x (ZO x.S) (Zt (Zg Lb (⟨rp, (Z26 (⟨rp, x.x.cl, x.x.seq, x.x.h, ZO x.S, 0, 0⟩ : Zd))⟩ : Signed)) (⟨rp, (Z26 (⟨rp, x.x.cl, x.x.seq, x.x.h, ZO x.S, 0, 0⟩ : Zd))⟩ : Signed))) (H88.at 7 rfl) ?_
 refine zwd fun Kq kq => ?_
 refine Z6T (Z2g rp x.x (ZO x.S) (Zt (Zg Lb (⟨rp, (Z26 (⟨rp, x.x.cl, x.x.seq, x.x.h, ZO x.S, 0, 0⟩ : Zd))⟩ : Signed)) (⟨rp, (Z26 (⟨rp, x.x.cl, x.x.seq, x.x.h, ZO x.S, 0, 0⟩ : Zd))⟩ : Signed))) H88 6 ?_
 intro w92 H93
 refine kq _ _ ?_
 clear kq Kq
 apply znt
 apply ZY
 refine Z0O rfl (Z0i (vs := (Z2g rp x.x (ZO x.S) (Zt (Zg Lb (⟨rp, (Z26 (⟨rp, x.x.cl, x.x.seq, x.x.h, ZO x.S, 0, 0⟩ : Zd))⟩ : Signed)) (⟨rp, (Z26 (⟨rp, x.x.cl, x.x.seq, x.x.h, ZO x.S, 0, 0⟩ : Zd))⟩ : Signed)))) rfl (by kernel_rfl) (by kernel_rfl) (by exact Nat.le_of_ble_eq_true (by kernel_rfl)) (H93.at 6 rfl) (by kernel_rfl)) ?_
 exact ⟨rfl, H93.pk [0, 1, 2, 3, 4]⟩
end Go.Proofs.YtoaifondpohniaaGreat
