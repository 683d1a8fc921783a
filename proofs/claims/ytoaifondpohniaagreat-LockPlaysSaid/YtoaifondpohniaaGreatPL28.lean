/- WHAT IS PROVED: contracts and plain laws of LtG. Conditions: stated with each. -/
import Derived.Test.YtoaifondpohniaaGreatPL03
import Derived.Test.YtoaifondpohniaaGreatPL04
import Derived.Test.YtoaifondpohniaaGreatPL10
import Derived.Test.YtoaifondpohniaaGreatPL19
import Derived.Test.YtoaifondpohniaaGreatPL22
import Derived.Test.YtoaifondpohniaaGreatPL24
import Derived.Test.YtoaifondpohniaaGreatPL26
import Derived.Test.YtoaifondpohniaaGreatPL27
set_option maxHeartbeats 4000000
set_option maxRecDepth 100000
namespace Go.Proofs.YtoaifondpohniaaGreat
open Go.RowKit
abbrev Z2n (p0 : Int) (p1 : Int) : List Value := ([(.int .i64 p0), (.int .i64 p1)] : List Value)
abbrev Z5E (p0 : Zg) (p1 : Option Addr) (p2 : Nat) (p3 : Nat) : List Value := ([(.int .i64 p0.cl), (.int .i64 p0.seq)] : List Value) ++ hc p0.h ++ ([(.int .i64 p0.len), (.int .i64 p0.sb), (.int .i64 p0.sm), (.slice p1 p2 p3)] : List Value)
abbrev Z8U : List Value := ([(.int .i64 (0)), (.int .i64 (0))] : List Value) ++ hc Z04 ++ ([(.int .i64 (0)), (.int .i64 (0)), (.int .i64 (0)), (.slice none 0 0)] : List Value)
abbrev Z5F (p0 : Int) (p1 : Int) (p2 : Int) (p3 : Nat) : List Value := ([(.int .i64 p0), (.int .i64 p1), (.int .i64 p2), (.map (some p3))] : List Value)
abbrev Z7z (p0 : Zg) (p1 : CeR) (p2 : Nat) : List Value := ([(.int .i64 p0.cl), (.int .i64 p0.seq)] : List Value) ++ hc p0.h ++ ([(.int .i64 p0.len), (.int .i64 p0.sb), (.int .i64 p0.sm), (.slice p1.sa p2 p1.sc)] : List Value)
abbrev Zas (p0 : Nat) : List Value := ([(.map (some p0))] : List Value)
abbrev Z52 (p0 : Nat) (p1 : List Signed) : Ck := ZQ p0 Zz (Value.int .i64) (ZS p1)
abbrev Z53 (p0 : CeR) : List Value := ([(.int .i64 p0.x.cl), (.int .i64 p0.x.seq)] : List Value) ++ hc p0.x.h ++ ([(.int .i64 p0.x.len), (.int .i64 p0.x.sb), (.int .i64 p0.x.sm), (.slice p0.sa p0.S.length p0.sc)] : List Value)
abbrev Z54 : List Value := ([(.int .i64 (0)), (.int .i64 (0)), (.int .i64 (0))] : List Value) ++ hc Z04 ++ ([(.int .u64 (0)), (.int .i64 (0)), (.int .i64 (0))] : List Value)
abbrev Z46 (p0 : Int) (p1 : Zg) (p2 : Int) : List Value := ([(.int .i64 p0), (.int .i64 p1.cl), (.int .i64 p1.seq)] : List Value) ++ hc p1.h ++ ([(.int .u64 p2), (.int .i64 (0)), (.int .i64 (0))] : List Value)
abbrev Zar (p0 : Option Addr) (p1 : List UInt8) (p2 : Nat) : Ck := Zk 5 1 (.slice p0 p1.length p2) p1.length (p1.flatMap ZE)
abbrev Z3G (p0 : Int) (p1 : Zg) (p2 : Int) (p3 : Int) : List Value := ([(.int .i64 p0), (.int .i64 p1.cl), (.int .i64 p1.seq)] : List Value) ++ hc p1.h ++ ([(.int .u64 p2), (.int .i64 p0), (.int .i64 p3)] : List Value)
def Z1r (f c : Int) : Bool := decide (1 ≤ f) && decide (f ≤ 21) && decide (1 ≤ c) && decide (c ≤ 100)
def ceV (c : CeR) : Value := .agg ⟨Z03 c⟩
theorem Zbg (w : World) : (zeroValue 53).run Tryz.prog w = .ok (ceV ce0) w := by kernel_rfl
theorem ZaG {M : List (NmD × CeR)} {a : NmD} (P : CeR → Prop) (h0 : P ce0) (h : ∀ q ∈ M, P q.2) : P ((Zm M a).getD ce0) := by
 cases e : Zm M a with
 | none => exact h0
 | some v => exact h _ (Z5L e)
theorem ZcN {w : World} : (stC ce0).ok w := ⟨rfl, .inl ⟨rfl, rfl⟩⟩
theorem ZaH {M : List (NmD × CeR)} {a : NmD} {w : World} (h : ∀ q ∈ M, (stC q.2).ok w ∧ q.2.S.length ≤ 12) : (stC ((Zm M a).getD ce0)).ok w := ZaG (fun c => (stC c).ok w) ZcN fun q hq => (h q hq).1
theorem Z93 {M : List (NmD × CeR)} {a : NmD} {w : World} (h : ∀ q ∈ M, (stC q.2).ok w ∧ q.2.S.length ≤ 12) : ((Zm M a).getD ce0).S.length ≤ 1000 := ZaG (fun c => c.S.length ≤ 1000) (by decide) fun q hq => Nat.le_trans (h q hq).2 (by decide)
theorem Z9Q (w : World) (f c : Int) :
  Calls Tryz.prog 56 #[(.agg ⟨([(.int .i64 (f)), (.int .i64 (c))] : List Value)⟩)] w fun e w' => e = .returned (.bool (Z1r f c)) ∧ Upd [] w w' := by
 have H := Sat.start0 w
 refine Zh Tryz.func56 rfl 21 rfl (Nat.le_of_ble_eq_true rfl) ?_
 apply zsl
 refine zwd fun Kq kq => ?_
 refine zdb (Z2n f c) H ?_
 intro b2 w3 H4
 refine kq _ _ ?_
 clear kq Kq
 refine wv 2 (.bool false) ?_
 apply znt
 refine Z0A (List.range' 2 19) (fun G_ W_ => G_ 2 = (.bool (Z1r f c)) ∧ Sat w [Z7 w (fun _ => False), Z0 b2 36 (Z2n f c)] W_) ?_ ?_
 ·apply Zq
  refine wv 3 (pt b2 0) ?_
  refine zw1 4 (.int .i64 (f)) (H4.cell 1 rfl rfl) ?_
  refine wv 5 (.bool (decide (f ≥ 1))) ?_
  refine wv 6 (.bool (decide (f ≥ 1))) ?_
  refine (Zr (decide (f ≥ 1))).elim (fun b6 => ?_) (fun b6 => ?_)
  ·have g7 := of_decide_eq_true b6
   refine ZJ 6 (.bool true) (congrArg Value.bool b6) ?_
   refine wy 3 6 true 7 (pt b2 0) ?_
   refine wy 3 6 true 8 (.int .i64 (f)) ?_ (hr := Z8 rfl (by kernel_rfl) (H4.cell 1 rfl rfl))
   refine wy 3 6 true 9 (.bool (decide (f ≤ 21))) ?_
   refine wv 10 (.bool (decide (f ≤ 21))) ?_
   refine wv 11 (.bool (decide (f ≤ 21))) ?_
   refine (Zr (decide (f ≤ 21))).elim (fun b8 => ?_) (fun b8 => ?_)
   ·have g9 := of_decide_eq_true b8
    refine ZJ 11 (.bool true) (congrArg Value.bool b8) ?_
    refine wy 8 11 true 12 (pt b2 1) ?_
    refine wy 8 11 true 13 (.int .i64 (c)) ?_ (hr := Z8 rfl (by kernel_rfl) (H4.cell 1 rfl rfl))
    refine wy 8 11 true 14 (.bool (decide (c ≥ 1))) ?_
    refine wv 15 (.bool (decide (c ≥ 1))) ?_
    refine wv 16 (.bool (decide (c ≥ 1))) ?_
    refine (Zr (decide (c ≥ 1))).elim (fun b10 => ?_) (fun b10 => ?_)
    ·have g11 := of_decide_eq_true b10
     refine ZJ 16 (.bool true) (congrArg Value.bool b10) ?_
     refine wy 13 16 true 17 (pt b2 1) ?_
     refine wy 13 16 true 18 (.int .i64 (c)) ?_ (hr := Z8 rfl (by kernel_rfl) (H4.cell 1 rfl rfl))
     refine wy 13 16 true 19 (.bool (decide (c ≤ 100))) ?_
     refine wv 20 (.bool (decide (c ≤ 100))) ?_
     refine wv 2 (.bool (decide (c ≤ 100))) ?_
     apply Zn
     refine ZX ?_ ⟨(congrArg Value.bool (show (decide (c ≤ 100)) = (Z1r f c) by simp [Z1r, b6, b8, b10])), H4⟩
     exact zs
    have g12 := of_decide_eq_false b10
    refine ZJ 16 (.bool false) (congrArg Value.bool b10) ?_
    iterate 3 refine wn 13 16 true ?_
    refine wv 20 (.bool false) ?_
    refine wv 2 (.bool false) ?_
    apply Zn
    refine ZX ?_ ⟨(congrArg Value.bool (show false = (Z1r f c) by simp [Z1r, b6, b8, b10])), H4⟩
    exact zs
   have g13 := of_decide_eq_false b8
   refine ZJ 11 (.bool false) (congrArg Value.bool b8) ?_
   iterate 3 refine wn 8 11 true ?_
   refine wv 15 (.bool false) ?_
   refine wv 16 (.bool false) ?_
   iterate 3 refine wn 13 16 true ?_
   refine wv 20 (.bool false) ?_
   refine wv 2 (.bool false) ?_
   apply Zn
   refine ZX ?_ ⟨(congrArg Value.bool (show false = (Z1r f c) by simp [Z1r, b6, b8])), H4⟩
   exact zs
  have g14 := of_decide_eq_false b6
  refine ZJ 6 (.bool false) (congrArg Value.bool b6) ?_
  iterate 3 refine wn 3 6 true ?_
  refine wv 10 (.bool false) ?_
  refine wv 11 (.bool false) ?_
  iterate 3 refine wn 8 11 true ?_
  refine wv 15 (.bool false) ?_
  refine wv 16 (.bool false) ?_
  iterate 3 refine wn 13 16 true ?_
  refine wv 20 (.bool false) ?_
  refine wv 2 (.bool false) ?_
  apply Zn
  refine ZX ?_ ⟨(congrArg Value.bool (show false = (Z1r f c) by simp [Z1r, b6])), H4⟩
  exact zs
 rintro f15 w16 ⟨v18, H17⟩
 refine Zl 2 _ v18 ?_
 apply ZI
 refine ze1 (.bool (Z1r f c)) ?_
 exact ⟨rfl, H17.upd 0 rfl [] (fun _ h => h.elim)⟩
theorem Z9H (w : World) (f c : Int) :
  Calls Tryz.prog 64 #[(.agg ⟨([(.int .i64 (f)), (.int .i64 (c))] : List Value)⟩)] w fun e w' => e = .returned (.bool (Z1r f c)) ∧ Upd [] w w' := by
 have H := Sat.start0 w
 refine Zh Tryz.func64 rfl 21 rfl (Nat.le_of_ble_eq_true rfl) ?_
 apply zsl
 refine zwd fun Kq kq => ?_
 refine zdb (Z2n f c) H ?_
 intro b2 w3 H4
 refine kq _ _ ?_
 clear kq Kq
 refine wv 2 (.bool false) ?_
 apply znt
 refine Z0A (List.range' 2 19) (fun G_ W_ => G_ 2 = (.bool (Z1r f c)) ∧ Sat w [Z7 w (fun _ => False), Z0 b2 36 (Z2n f c)] W_) ?_ ?_
 ·apply Zq
  refine wv 3 (pt b2 0) ?_
  refine zw1 4 (.int .i64 (f)) (H4.cell 1 rfl rfl) ?_
  refine wv 5 (.bool (decide (f ≥ 1))) ?_
  refine wv 6 (.bool (decide (f ≥ 1))) ?_
  refine (Zr (decide (f ≥ 1))).elim (fun b6 => ?_) (fun b6 => ?_)
  ·have g7 := of_decide_eq_true b6
   refine ZJ 6 (.bool true) (congrArg Value.bool b6) ?_
   refine wy 3 6 true 7 (pt b2 0) ?_
   refine wy 3 6 true 8 (.int .i64 (f)) ?_ (hr := Z8 rfl (by kernel_rfl) (H4.cell 1 rfl rfl))
   refine wy 3 6 true 9 (.bool (decide (f ≤ 21))) ?_
   refine wv 10 (.bool (decide (f ≤ 21))) ?_
   refine wv 11 (.bool (decide (f ≤ 21))) ?_
   refine (Zr (decide (f ≤ 21))).elim (fun b8 => ?_) (fun b8 => ?_)
   ·have g9 := of_decide_eq_true b8
    refine ZJ 11 (.bool true) (congrArg Value.bool b8) ?_
    refine wy 8 11 true 12 (pt b2 1) ?_
    refine wy 8 11 true 13 (.int .i64 (c)) ?_ (hr := Z8 rfl (by kernel_rfl) (H4.cell 1 rfl rfl))
    refine wy 8 11 true 14 (.bool (decide (c ≥ 1))) ?_
    refine wv 15 (.bool (decide (c ≥ 1))) ?_
    refine wv 16 (.bool (decide (c ≥ 1))) ?_
    refine (Zr (decide (c ≥ 1))).elim (fun b10 => ?_) (fun b10 => ?_)
    ·have g11 := of_decide_eq_true b10
     refine ZJ 16 (.bool true) (congrArg Value.bool b10) ?_
     refine wy 13 16 true 17 (pt b2 1) ?_
     refine wy 13 16 true 18 (.int .i64 (c)) ?_ (hr := Z8 rfl (by kernel_rfl) (H4.cell 1 rfl rfl))
     refine wy 13 16 true 19 (.bool (decide (c ≤ 100))) ?_
     refine wv 20 (.bool (decide (c ≤ 100))) ?_
     refine wv 2 (.bool (decide (c ≤ 100))) ?_
     apply Zn
     refine ZX ?_ ⟨(congrArg Value.bool (show (decide (c ≤ 100)) = (Z1r f c) by simp [Z1r, b6, b8, b10])), H4⟩
     exact zs
    have g12 := of_decide_eq_false b10
    refine ZJ 16 (.bool false) (congrArg Value.bool b10) ?_
    iterate 3 refine wn 13 16 true ?_
    refine wv 20 (.bool false) ?_
    refine wv 2 (.bool false) ?_
    apply Zn
    refine ZX ?_ ⟨(congrArg Value.bool (show false = (Z1r f c) by simp [Z1r, b6, b8, b10])), H4⟩
    exact zs
   have g13 := of_decide_eq_false b8
   refine ZJ 11 (.bool false) (congrArg Value.bool b8) ?_
   iterate 3 refine wn 8 11 true ?_
   refine wv 15 (.bool false) ?_
   refine wv 16 (.bool false) ?_
   iterate 3 refine wn 13 16 true ?_
   refine wv 20 (.bool false) ?_
   refine wv 2 (.bool false) ?_
   apply Zn
   refine ZX ?_ ⟨(congrArg Value.bool (show false = (Z1r f c) by simp [Z1r, b6, b8])), H4⟩
   exact zs
  have g14 := of_decide_eq_false b6
  refine ZJ 6 (.bool false) (congrArg Value.bool b6) ?_
  iterate 3 refine wn 3 6 true ?_
  refine wv 10 (.bool false) ?_
  refine wv 11 (.bool false) ?_
  iterate 3 refine wn 8 11 true ?_
  refine wv 15 (.bool false) ?_
  refine wv 16 (.bool false) ?_
  iterate 3 refine wn 13 16 true ?_
  refine wv 20 (.bool false) ?_
  refine wv 2 (.bool false) ?_
  apply Zn
  refine ZX ?_ ⟨(congrArg Value.bool (show false = (Z1r f c) by simp [Z1r, b6])), H4⟩
  exact zs
 rintro f15 w16 ⟨v18, H17⟩
 refine Zl 2 _ v18 ?_
 apply ZI
 refine ze1 (.bool (Z1r f c)) ?_
 exact ⟨rfl, H17.upd 0 rfl [] (fun _ h => h.elim)⟩
theorem Z3w (w : World) (x : Zg) (sa : Option Addr) (sc : Nat) (S : List Za) (hrow : (Zk 101 38 (.slice sa S.length sc) S.length (S.flatMap Z0q)).ok w) (hlS : S.length ≤ 1000) :
  Calls Tryz.prog 58 #[(.agg ⟨(([(.int .i64 (x.cl)), (.int .i64 (x.seq))] : List Value) ++ hc x.h ++ ([(.int .i64 (x.len)), (.int .i64 (x.sb)), (.int .i64 (x.sm)), ((.slice sa S.length sc))] : List Value))⟩)] w fun e w' => ∃ u, e = .returned (.agg ⟨Z43 x ++ [u]⟩) ∧ (Zk 101 38 u S.length (S.flatMap Z0q)).ok w' ∧ Upd [] w w' ∧ ∀ q_, (Zk 101 38 u S.length (S.flatMap Z0q)).fp q_ → w.heap.size ≤ q_ := by
 have H := Sat.start0 w
 refine Zh Tryz.func58 rfl 8 rfl (Nat.le_of_ble_eq_true rfl) ?_
 apply zsl
 refine zwd fun Kq kq => ?_
 refine zdb (Z5E x sa S.length sc) H ?_
 intro b2 w3 H4
 refine kq _ _ ?_
 clear kq Kq
 refine zwd fun Kq kq => ?_
 refine zda (Z8U) H4 ?_
 intro b6 w7 H8
 refine kq _ _ ?_
 clear kq Kq
 apply Z2Q
 refine wv 3 (pt b2 37) ?_
 refine zw1 4 ((.slice sa S.length sc)) (H8.cell 1 rfl (by kernel_rfl)) ?_
 refine zwd fun Kq kq => ?_
 refine zdc 5 (Z9r w7 ((.slice sa S.length sc)) S (H8.roCk 0 rfl hrow (fun _ _ h => h)) hlS) ?_
 rintro _ w10 ⟨u11, rfl, k12, p13, q14⟩
 have H15 := H8.addU p13 k12 q14
 obtain ⟨a16, c17, rfl⟩ := Z6 (H15.at 3 rfl)
 refine ⟨_, rfl, ?_⟩
 refine kq _ _ ?_
 clear kq Kq
 refine wv 6 (pt b2 37) ?_
 refine zwd fun Kq kq => ?_
 refine zds ([(.slice a16 S.length c17)] : List Value) (Z5E x a16 S.length c17) H15 1 ?_
 intro w19 H20
 refine kq _ _ ?_
 clear kq Kq
 apply Z2Q
 refine zwN 7 (Z5E x a16 S.length c17) (H20.at 1 rfl) ?_
 refine zwd fun Kq kq => ?_
 refine Z1F (Z5E x a16 S.length c17) H20 2 ?_
 intro w23 H24
 refine kq _ _ ?_
 clear kq Kq
 apply znt
 apply ZI
 refine Z2e rfl (ZZ (vs := (Z5E x a16 S.length c17)) rfl (by kernel_rfl) (by kernel_rfl) (by exact Nat.le_of_ble_eq_true (by kernel_rfl)) (H24.at 2 rfl) (by kernel_rfl)) ?_
 exact ⟨_, rfl, H24.at 3 rfl, H24.upd 0 rfl [] (fun _ h => h.elim), H24.fresh 0 rfl (fun _ h => h) 3 rfl rfl⟩
theorem Z7H (w : World) (F Cn rp : Int) (hF : -1099511627776 ≤ F ∧ F ≤ 1099511627776) :
  Calls Tryz.prog 22 #[(.agg ⟨([(.int .i64 (F)), (.int .i64 (Cn))] : List Value)⟩), (.int .i64 (rp))] w fun e w' => (e = .returned (.tuple #[.pointer none, .int .i64 1]) ∧ (Z1r F Cn && inB F rp) = false ∧ Upd [] w w') ∨ ∃ t tm, e = .returned (.tuple #[.pointer (some ⟨t, 0, none⟩), .int .i64 0]) ∧ (Z1r F Cn && inB F rp) = true ∧ Sat w [Z0 t 121 [.int .i64 F, .int .i64 Cn, .int .i64 rp, .map (some tm)], ZQ tm nmV ceV [], Z7 w (fun _ => False)] w' := by
 have H := Sat.start0 w
 refine Zh Tryz.func22 rfl 20 rfl (Nat.le_of_ble_eq_true rfl) ?_
 apply zsl
 refine zwd fun Kq kq => ?_
 refine zdb (Z2n F Cn) H ?_
 intro b2 w3 H4
 refine kq _ _ ?_
 clear kq Kq
 refine wv 4 (.pointer none) ?_
 refine wv 5 (.int .i64 (0)) ?_
 apply znt
 apply Zd
 apply zsl
 refine zwN 6 (Z2n F Cn) (H4.at 1 rfl) ?_
 refine zwd fun Kq kq => ?_
 refine zdq 7 (Z9Q w3 F Cn) H4 ?_
 intro w6 H7
 refine kq _ _ ?_
 clear kq Kq
 refine wv 8 (.bool (!(Z1r F Cn))) ?_
 refine wv 9 (.bool (!(Z1r F Cn))) ?_
 refine (Zr (!(Z1r F Cn))).elim (fun b9 => ?_) (fun b9 => ?_)
 ·have g10 := ZU b9
  refine ZJ 9 (.bool true) (congrArg Value.bool b9) ?_
  iterate 4 refine wn 3 9 false ?_
  refine wv 14 (.bool true) ?_
  apply znt
  refine Z0S rfl ?_
  apply zsl
  refine wv 4 (.pointer none) ?_
  refine wv 5 (.int .i64 (1)) ?_
  apply znt
  apply ZI
  apply ZG
  refine ze2 (.pointer none) (.int .i64 (1)) ?_
  exact .inl ⟨rfl, (by have q0_ := b9; revert q0_; generalize Z1r F Cn = p_; generalize inB F rp = q_; cases p_ <;> cases q_ <;> decide), H7.upd 0 rfl [] (fun _ h => h.elim)⟩
 have g12 := Zj b9
 refine ZJ 9 (.bool false) (congrArg Value.bool b9) ?_
 refine wy 3 9 false 10 (.agg ⟨(Z2n F Cn)⟩) ?_ (hr := Zi (vs := (Z2n F Cn)) rfl (by kernel_rfl) (by kernel_rfl) (by exact Nat.le_of_ble_eq_true (by kernel_rfl)) (H7.at 1 rfl) (by kernel_rfl))
 refine wy 3 9 false 11 (.int .i64 (rp)) ?_
 refine Z07 (ZD 3 9 false rfl (by kernel_rfl) rfl (by kernel_rfl)) (fun Kq kq => ?_)
 refine zdq 12 (Zbe w6 F Cn rp (by omega)) H7 ?_
 intro w15 H16
 refine kq _ _ ?_
 clear kq Kq
 refine wy 3 9 false 13 (.bool (!(inB F rp))) ?_
 refine wv 14 (.bool (!(inB F rp))) ?_
 apply znt
 refine (Zr (!(inB F rp))).elim (fun b18 => ?_) (fun b18 => ?_)
 ·have g19 := ZU b18
  refine Z1V _ b18 ?_
  apply zsl
  refine wv 4 (.pointer none) ?_
  refine wv 5 (.int .i64 (1)) ?_
  apply znt
  apply ZI
  apply ZG
  refine ze2 (.pointer none) (.int .i64 (1)) ?_
  exact .inl ⟨rfl, (by have q0_ := b9; have q1_ := b18; revert q0_ q1_; generalize Z1r F Cn = p_; generalize inB F rp = q_; cases p_ <;> cases q_ <;> decide), H16.upd 0 rfl [] (fun _ h => h.elim)⟩
 have g21 := Zj b18
 refine Z1w _ b18 ?_
 apply ZW
 apply ztn
 apply zsl
 refine zwN 15 (Z2n F Cn) (H16.at 1 rfl) ?_
 refine wv 16 (.int .i64 (rp)) ?_
 refine zwd fun Kq kq => ?_
 refine Z7n nmV ceV rfl H16 ?_
 intro b24 w25 H26
 refine kq _ _ ?_
 clear kq Kq
 refine wv 18 (.agg ⟨(Z5F F Cn rp b24)⟩) ?_
 refine zwd fun Kq kq => ?_
 refine zdb (Z5F F Cn rp b24) H26 ?_
 intro b28 w29 H30
 refine kq _ _ ?_
 clear kq Kq
 refine wv 4 (pt b28 0) ?_
 refine wv 5 (.int .i64 (0)) ?_
 apply znt
 apply ZI
 refine ze2 (pt b28 0) (.int .i64 (0)) ?_
 exact .inr ⟨b28, b24, rfl, (by have q0_ := b9; have q1_ := b18; revert q0_ q1_; generalize Z1r F Cn = p_; generalize inB F rp = q_; cases p_ <;> cases q_ <;> decide), H30.pk [3, 2, 0]⟩
theorem ZaJ (w : World) (t tm : Nat) (F Cn rp : Int) (M : List (NmD × CeR)) (ht : (Z0 t 121 [.int .i64 F, .int .i64 Cn, .int .i64 rp, .map (some tm)]).ok w) (htm : MapAt w tm nmV ceV M) :
  Calls Tryz.prog 30 #[(.pointer (some ⟨t, 0, none⟩))] w fun e w' => e = .returned (.int .i64 (M.length : Int)) ∧ Upd [] w w' := by
 have H := Sat.start0 w
 refine Zh Tryz.func30 rfl 8 rfl (Nat.le_of_ble_eq_true rfl) ?_
 apply zsl
 refine wv 2 (.int .i64 (0)) ?_
 apply Z2Q
 refine wv 3 (pt t 0) ?_
 refine wv 4 (pt t 0) ?_
 refine wv 5 (pt t 3) ?_
 refine zw1 6 (.map (some tm)) (H.roCell 0 rfl ht (fun h => h) rfl) ?_
 refine wv 7 (.int .i64 (((M).length : Int))) ?_ (hr := Z9t (kt := 24) (et := 53) (by kernel_rfl) (H.roMap 0 rfl htm (fun h => h)) rfl)
 refine wv 2 (.int .i64 (((M).length : Int))) ?_
 apply znt
 apply ZI
 refine ze1 (.int .i64 (((M).length : Int))) ?_
 exact ⟨rfl, H.upd 0 rfl [] (fun _ h => h.elim)⟩
theorem ZaI (w : World) (t tm : Nat) (F Cn rp : Int) (M : List (NmD × CeR)) (ht : (Z0 t 121 [.int .i64 F, .int .i64 Cn, .int .i64 rp, .map (some tm)]).ok w) (htm : MapAt w tm nmV ceV M) (hst : ∀ q ∈ M, (stC q.2).ok w ∧ q.2.S.length ≤ 12) (a b : Int) :
  Calls Tryz.prog 26 #[(.pointer (some ⟨t, 0, none⟩)), (.agg ⟨([(.int .i64 (a)), (.int .i64 (b))] : List Value)⟩)] w fun e w' => ∃ u, e = .returned (.tuple #[.agg ⟨Z43 ((Zm M (⟨a, b⟩ : NmD)).getD ce0).x ++ [u]⟩, .bool (Zm M (⟨a, b⟩ : NmD)).isSome]) ∧ (Zk 101 38 u ((Zm M (⟨a, b⟩ : NmD)).getD ce0).S.length (((Zm M (⟨a, b⟩ : NmD)).getD ce0).S.flatMap Z0q)).ok w' ∧ Upd [] w w' ∧ ∀ q_, (Zk 101 38 u ((Zm M (⟨a, b⟩ : NmD)).getD ce0).S.length (((Zm M (⟨a, b⟩ : NmD)).getD ce0).S.flatMap Z0q)).fp q_ → w.heap.size ≤ q_ := by
 have H := Sat.start0 w
 refine Zh Tryz.func26 rfl 20 rfl (Nat.le_of_ble_eq_true rfl) ?_
 apply zsl
 refine zwd fun Kq kq => ?_
 refine zdb (Z2n a b) H ?_
 intro b2 w3 H4
 refine kq _ _ ?_
 clear kq Kq
 refine zwd fun Kq kq => ?_
 refine zda (Z8U) H4 ?_
 intro b6 w7 H8
 refine kq _ _ ?_
 clear kq Kq
 refine wv 5 (.bool false) ?_
 apply znt
 apply Zd
 refine Z08 H8 [Z7 w (fun _ => False), Z0 b2 24 (Z2n a b), Z0 b6 53 (Z8U)] 12 rfl (by kernel_rfl) (fun Hx => (Hx.pk [0, 1, 2])) ?_
 intro w9 H10 S11
 refine hv0 0 S11 9 (pt t 0) ?_
 refine hv0 1 S11 10 (pt t 0) ?_
 refine hv0 2 S11 11 (pt t 3) ?_
 refine hv0 3 S11 12 (.map (some tm)) ?_ (he := fun _ H' => (Z8 rfl (by kernel_rfl) (H'.roCell 0 rfl ht (fun h => h) rfl)))
 refine hv0 4 S11 13 (.agg ⟨(Z2n a b)⟩) ?_ (he := fun _ H' => (Zi (vs := (Z2n a b)) rfl (by kernel_rfl) (by kernel_rfl) (by exact Nat.le_of_ble_eq_true (by kernel_rfl)) (H'.at 1 rfl) (by kernel_rfl)))
 refine hv0 5 S11 14 (.tuple #[(.agg ⟨(Z7z (((Zm M (⟨a, b⟩ : NmD)).getD ce0).x) ((Zm M (⟨a, b⟩ : NmD)).getD ce0) (((Zm M (⟨a, b⟩ : NmD)).getD ce0).S.length))⟩), (.bool ((Zm M (⟨a, b⟩ : NmD)).isSome))]) ?_ (he := fun _ H' => (Z7p (kt := 24) (et := 53) nmK (by kernel_rfl) Zbg rfl (⟨a, b⟩ : NmD) rfl (H'.roMap 0 rfl htm (fun h => h)) (ZcH ceV _ _) rfl))
 refine hv0 6 S11 8 (.tuple #[(.agg ⟨(Z7z (((Zm M (⟨a, b⟩ : NmD)).getD ce0).x) ((Zm M (⟨a, b⟩ : NmD)).getD ce0) (((Zm M (⟨a, b⟩ : NmD)).getD ce0).S.length))⟩), (.bool ((Zm M (⟨a, b⟩ : NmD)).isSome))]) ?_
 refine hv0 7 S11 15 (.agg ⟨(Z7z (((Zm M (⟨a, b⟩ : NmD)).getD ce0).x) ((Zm M (⟨a, b⟩ : NmD)).getD ce0) (((Zm M (⟨a, b⟩ : NmD)).getD ce0).S.length))⟩) ?_
 refine hv0 8 S11 16 (.bool ((Zm M (⟨a, b⟩ : NmD)).isSome)) ?_
 refine Z0j 9 fun Kq kq => ?_
 refine zda (Z8U) H10 ?_
 intro b13 w14 H15
 have S16 := H15.pk [0, 1, 2]
 refine kq _ _ S16 ?_
 clear kq Kq
 refine Z0j 10 fun Kq kq => ?_
 refine Z1F (Z7z (((Zm M (⟨a, b⟩ : NmD)).getD ce0).x) ((Zm M (⟨a, b⟩ : NmD)).getD ce0) (((Zm M (⟨a, b⟩ : NmD)).getD ce0).S.length)) H15 3 ?_
 intro w18 H19
 have S21 := H19.pk [0, 1, 2]
 refine kq _ _ S21 ?_
 clear kq Kq
 refine hv0 11 S21 7 (.bool ((Zm M (⟨a, b⟩ : NmD)).isSome)) ?_
 refine zhf ?_
 apply ztn
 apply zsl
 refine zwN 17 (Z7z (((Zm M (⟨a, b⟩ : NmD)).getD ce0).x) ((Zm M (⟨a, b⟩ : NmD)).getD ce0) (((Zm M (⟨a, b⟩ : NmD)).getD ce0).S.length)) (H19.at 3 rfl) ?_
 refine zwd fun Kq kq => ?_
 refine zdc 18 (Z3w w18 ((Zm M (⟨a, b⟩ : NmD)).getD ce0).x ((Zm M (⟨a, b⟩ : NmD)).getD ce0).sa ((Zm M (⟨a, b⟩ : NmD)).getD ce0).sc ((Zm M (⟨a, b⟩ : NmD)).getD ce0).S (H19.roCk 0 rfl (ZaH hst) (fun _ _ h => h)) (Z93 hst)) ?_
 rintro _ w23 ⟨u24, rfl, k25, p26, q27⟩
 have H28 := H19.addU p26 k25 q27
 obtain ⟨a29, c30, rfl⟩ := Z6 (H28.at 4 rfl)
 refine ⟨_, rfl, ?_⟩
 refine kq _ _ ?_
 clear kq Kq
 refine wv 19 (.bool ((Zm M (⟨a, b⟩ : NmD)).isSome)) ?_
 refine zwd fun Kq kq => ?_
 refine Z1F (Z5E (((Zm M (⟨a, b⟩ : NmD)).getD ce0).x) a29 ((((Zm M (⟨a, b⟩ : NmD)).getD ce0).S).length) c30) H28 2 ?_
 intro w32 H33
 refine kq _ _ ?_
 clear kq Kq
 refine wv 5 (.bool ((Zm M (⟨a, b⟩ : NmD)).isSome)) ?_
 apply znt
 apply ZI
 refine Z4r rfl (ZZ (vs := (Z5E (((Zm M (⟨a, b⟩ : NmD)).getD ce0).x) a29 ((((Zm M (⟨a, b⟩ : NmD)).getD ce0).S).length) c30)) rfl (by kernel_rfl) (by kernel_rfl) (by exact Nat.le_of_ble_eq_true (by kernel_rfl)) (H33.at 2 rfl) (by kernel_rfl)) (ZT (v := (.bool ((Zm M (⟨a, b⟩ : NmD)).isSome))) rfl) ?_
 exact ⟨_, rfl, H33.at 4 rfl, H33.upd 0 rfl [] (fun _ h => h.elim), H33.fresh 0 rfl (fun _ h => h) 4 rfl rfl⟩
theorem Z7F (w : World) (t : Nat) (F Cn rp : Int) (tm : Nat) (B : List Ck) (b mb : Nat) (Lb : List Signed) (hA : (ZL [Z0 t 121 [.int .i64 F, .int .i64 Cn, .int .i64 rp, .map (some tm)], ZY B, Z0 b 110 [.map (some mb)], ZQ mb Zz (Value.int .i64) (ZS Lb)]).ok w) (hrp : 0 ≤ rp ∧ rp ≤ 1000000) (hlb : Lb.length ≤ 100000) (x : CeR) (hxT : CeT B x) :
  Calls Tryz.prog 57 #[(.pointer (some ⟨t, 0, none⟩)), (.pointer (some ⟨b, 0, none⟩)), (.agg ⟨(([(.int .i64 (x.x.cl)), (.int .i64 (x.x.seq))] : List Value) ++ hc x.x.h ++ ([(.int .i64 (x.x.len)), (.int .i64 (x.x.sb)), (.int .i64 (x.x.sm)), (.slice x.sa x.S.length x.sc)] : List Value))⟩)] w fun e w' => e = .returned (.agg ⟨Z0q (Z9n rp Lb x)⟩) ∧ Sat w [Z0 t 121 [.int .i64 F, .int .i64 Cn, .int .i64 rp, .map (some tm)], ZY B, Z0 b 110 [.map (some mb)], ZQ mb Zz (Value.int .i64) (ZS (Zp Lb (Z9o rp x))), Z7 w (ZL [Z0 t 121 [.int .i64 F, .int .i64 Cn, .int .i64 rp, .map (some tm)], ZY B, Z0 b 110 [.map (some mb)], ZQ mb Zz (Value.int .i64) (ZS Lb)]).fp] w' := by
 have H := Sat.start0 w
 have hxx := hxT.x
 unfold CoB at hxx
 have htl := Z7d hxT
 have H := Sat.start _ hA
 refine Zh Tryz.func57 rfl 31 rfl (Nat.le_of_ble_eq_true rfl) ?_
 apply zsl
 refine zwd fun Kq kq => ?_
 refine zdb (Z53 x) H ?_
 intro b2 w3 H4
 refine kq _ _ ?_
 clear kq Kq
 refine zwd fun Kq kq => ?_
 refine zda (Z54) H4 ?_
 intro b6 w7 H8
 refine kq _ _ ?_
 clear kq Kq
 apply znt
 apply Zd
 refine Z08 H8 [Z0 t 121 (Z5F F Cn rp tm), ZY B, Z0 b 110 (Zas mb), (Z52 mb Lb), Z7 w (ZL [Z0 t 121 [.int .i64 F, .int .i64 Cn, .int .i64 rp, .map (some tm)], ZY B, Z0 b 110 [.map (some mb)], (Z52 mb Lb)]).fp, Z0 b2 53 (Z53 x), Z0 b6 31 (Z54)] 15 rfl (by kernel_rfl) (fun Hx => (Hx.pk [0, 1, 2, 3, 4, 5, 6])) ?_
 intro w9 H10 S11
 refine hv0 0 S11 8 (pt t 0) ?_
 refine hv0 1 S11 9 (pt t 0) ?_
 refine hv0 2 S11 10 (pt t 2) ?_
 refine hv0 3 S11 11 (.int .i64 (rp)) ?_ (he := fun _ H' => (Z8 rfl (by kernel_rfl) (H'.cell 0 rfl rfl)))
 refine hv0 4 S11 12 (pt b2 0) ?_
 refine hv0 5 S11 13 (pt b2 0) ?_
 refine hv0 6 S11 14 (.agg ⟨(Z2n x.x.cl x.x.seq)⟩) ?_ (he := fun _ H' => (Zi (vs := (Z2n x.x.cl x.x.seq)) rfl (by kernel_rfl) (by kernel_rfl) (by exact Nat.le_of_ble_eq_true (by kernel_rfl)) (H'.at 5 rfl) (by kernel_rfl)))
 refine hv0 7 S11 15 (pt b2 0) ?_
 refine hv0 8 S11 16 (pt b2 2) ?_
 refine hv0 9 S11 17 (.agg ⟨(hc x.x.h)⟩) ?_ (he := fun _ H' => (Zi (vs := (hc x.x.h)) rfl (by kernel_rfl) (by kernel_rfl) (by exact Nat.le_of_ble_eq_true (by kernel_rfl)) (H'.at 5 rfl) (by kernel_rfl)))
 refine hv0 10 S11 18 (.agg ⟨(Z53 x)⟩) ?_ (he := fun _ H' => (Zi (vs := (Z53 x)) rfl (by kernel_rfl) (by kernel_rfl) (by exact Nat.le_of_ble_eq_true (by kernel_rfl)) (H'.at 5 rfl) (by kernel_rfl)))
 refine Z69 11 13 rfl rfl (by kernel_rfl) (Z1 rfl) (Z1 rfl) (fun Kq kq => ?_) (fun Kq kq => ?_)
 ·refine zdq 19 (Z3c w9 x.x x.sa x.sc x.S (Z21 (c := x) (H10.at 1 rfl) hxT.bag) hxT.len) H10 ?_
  intro w13 H14
  have S16 := H14.pk [0, 1, 2, 3, 4, 5, 6]
  refine kq _ _ S16 ?_
  clear kq Kq
  refine Z09 12 rfl (by kernel_rfl) (by kernel_rfl) (by kernel_rfl) (fun _ _ _ h => h) S16 (Z1 rfl) (d := 20) (v := (.agg ⟨(Z46 rp x.x (ZA x.S))⟩)) rfl (fun _ H' => (by kernel_rfl)) ?_
  refine Z0j 13 fun Kq kq => ?_
  refine zda (Z54) H14 ?_
  intro b18 w19 H20
  have S21 := H20.pk [0, 1, 2, 3, 4, 5, 6]
  refine kq _ _ S21 ?_
  clear kq Kq
  refine Z0j 14 fun Kq kq => ?_
  refine Z1F (Z46 rp x.x (ZA x.S)) H20 7 ?_
  intro w23 H24
  have S26 := H24.pk [0, 1, 2, 3, 4, 5, 6]
  refine kq _ _ S26 ?_
  clear kq Kq
  refine zhf ?_
  apply ztn
  apply Zd
  refine Z1o H24 [Z0 t 121 (Z5F F Cn rp tm), ZY B, Z7 w (ZL [Z0 t 121 [.int .i64 F, .int .i64 Cn, .int .i64 rp, .map (some tm)], ZY B, Z0 b 110 [.map (some mb)], (Z52 mb Lb)]).fp, Z0 b2 53 (Z53 x), Z0 b6 31 (Z54), Z0 b18 31 (Z46 rp x.x (ZA x.S))] [9] 10 rfl (by kernel_rfl) (fun Hx => (Hx.pk [0, 1, 4, 5, 6, 7])) ?_
  intro w27 H28 S29
  refine zkp 0 S29 21 (pt b 0) ?_
  refine zkp 1 S29 22 (pt t 0) ?_
  refine zkp 2 S29 23 (pt t 0) ?_
  refine zkp 3 S29 24 (pt t 2) ?_
  refine zkv 4 S29 25 (.int .i64 (rp)) ?_ (he := fun _ H' => (Z8 rfl (by kernel_rfl) (H'.cell 0 rfl rfl)))
  refine zkv 5 S29 26 (.agg ⟨(Z46 rp x.x (ZA x.S))⟩) ?_ (he := fun _ H' => (Zi (vs := (Z46 rp x.x (ZA x.S))) rfl (by kernel_rfl) (by kernel_rfl) (by exact Nat.le_of_ble_eq_true (by kernel_rfl)) (H'.at 5 rfl) (by kernel_rfl)))
  refine Z3M 6 fun Kq kq => ?_
  refine zdc 27 (Z5b w27 (⟨rp, x.x.cl, x.x.seq, x.x.h, ZA x.S, 0, 0⟩ : Za) ⟨by show rp ≤ _; omega, hxx.1.1, hxx.1.2.1, htl.1, htl.2⟩) ?_
  rintro _ w31 ⟨u32, rfl, k33, p34, q35⟩
  have H36 := H28.addU p34 k33 q35
  obtain ⟨a37, c38, rfl⟩ := Z6 (H36.at 8 rfl)
  refine ⟨_, rfl, ?_⟩
  have hal := Z5j (⟨rp, x.x.cl, x.x.seq, x.x.h, ZA x.S, 0, 0⟩ : Za)
  have S39 := H36.pk [0, 1, 4, 5, 6, 7]
  refine kq _ _ S39 ?_
  clear kq Kq
  refine Z3M 7 fun Kq kq => ?_
  refine zdc 28 (Z3L w31 b mb Lb (.slice a37 ((Z1q (⟨rp, x.x.cl, x.x.seq, x.x.h, ZA x.S, 0, 0⟩ : Za)).length) c38) (Z1q (⟨rp, x.x.cl, x.x.seq, x.x.h, ZA x.S, 0, 0⟩ : Za)) (H36.fn [2, 3, 8]) (by omega) rp) ?_
  rintro _ w41 ⟨rfl, T42⟩
  have H43 := H36.tl [Z0 b 110 (Zas mb), (Z52 mb (Zp Lb (⟨rp, (Z1q (⟨rp, x.x.cl, x.x.seq, x.x.h, ZA x.S, 0, 0⟩ : Za))⟩ : Signed))), (Zar a37 (Z1q (⟨rp, x.x.cl, x.x.seq, x.x.h, ZA x.S, 0, 0⟩ : Za)) c38)] [2, 3, 8] [0, 1, 4, 5, 6, 7] T42 [3, 4, 0, 1, 5, 6, 7, 8, 2]
  refine ⟨_, rfl, ?_⟩
  have S44 := H43.pk [0, 1, 4, 5, 6, 7]
  refine kq _ _ S44 ?_
  clear kq Kq
  refine zkp 8 S44 29 (pt b18 36) ?_
  refine Z3j 9 (Sat w [Z0 t 121 (Z5F F Cn rp tm), ZY B, Z7 w (ZL [Z0 t 121 [.int .i64 F, .int .i64 Cn, .int .i64 rp, .map (some tm)], ZY B, Z0 b 110 [.map (some mb)], (Z52 mb Lb)]).fp, Z0 b2 53 (Z53 x), Z0 b6 31 (Z54)]) rfl (by kernel_rfl) (Z1 rfl) rfl (fun Kq kq => ?_)
  refine zds (Z2n rp (ZB (Zp Lb (⟨rp, (Z1q (⟨rp, x.x.cl, x.x.seq, x.x.h, ZA x.S, 0, 0⟩ : Za))⟩ : Signed)) (⟨rp, (Z1q (⟨rp, x.x.cl, x.x.seq, x.x.h, ZA x.S, 0, 0⟩ : Za))⟩ : Signed))) (Z3G rp x.x (ZA x.S) (ZB (Zp Lb (⟨rp, (Z1q (⟨rp, x.x.cl, x.x.seq, x.x.h, ZA x.S, 0, 0⟩ : Za))⟩ : Signed)) (⟨rp, (Z1q (⟨rp, x.x.cl, x.x.seq, x.x.h, ZA x.S, 0, 0⟩ : Za))⟩ : Signed))) H43 7 ?_
  intro w46 H47
  have S49 := H47.pk [0, 1, 4, 5, 6]
  refine kq _ _ S49 ?_
  clear kq Kq
  refine zhf ?_
  apply ztn
  apply zsl
  refine zwN 30 (Z3G rp x.x (ZA x.S) (ZB (Zp Lb (⟨rp, (Z1q (⟨rp, x.x.cl, x.x.seq, x.x.h, ZA x.S, 0, 0⟩ : Za))⟩ : Signed)) (⟨rp, (Z1q (⟨rp, x.x.cl, x.x.seq, x.x.h, ZA x.S, 0, 0⟩ : Za))⟩ : Signed))) (H47.at 7 rfl) ?_
  refine zwd fun Kq kq => ?_
  refine Z1F (Z3G rp x.x (ZA x.S) (ZB (Zp Lb (⟨rp, (Z1q (⟨rp, x.x.cl, x.x.seq, x.x.h, ZA x.S, 0, 0⟩ : Za))⟩ : Signed)) (⟨rp, (Z1q (⟨rp, x.x.cl, x.x.seq, x.x.h, ZA x.S, 0, 0⟩ : Za))⟩ : Signed))) H47 6 ?_
  intro w51 H52
  refine kq _ _ ?_
  clear kq Kq
  apply znt
  apply ZI
  refine Z2e rfl (ZZ (vs := (Z3G rp x.x (ZA x.S) (ZB (Zp Lb (⟨rp, (Z1q (⟨rp, x.x.cl, x.x.seq, x.x.h, ZA x.S, 0, 0⟩ : Za))⟩ : Signed)) (⟨rp, (Z1q (⟨rp, x.x.cl, x.x.seq, x.x.h, ZA x.S, 0, 0⟩ : Za))⟩ : Signed)))) rfl (by kernel_rfl) (by kernel_rfl) (by exact Nat.le_of_ble_eq_true (by kernel_rfl)) (H52.at 6 rfl) (by kernel_rfl)) ?_
  exact ⟨rfl, H52.pk [0, 1, 2, 3, 4]⟩
 refine zda (Z54) H10 ?_
 intro b54 w55 H56
 have S57 := H56.pk [0, 1, 2, 3, 4, 5, 6]
 refine kq _ _ S57 ?_
 clear kq Kq
 refine Z0j 11 fun Kq kq => ?_
 refine zdq 19 (Z3c w55 x.x x.sa x.sc x.S (Z21 (c := x) (H56.at 1 rfl) hxT.bag) hxT.len) H56 ?_
 intro w59 H60
 have S62 := H60.pk [0, 1, 2, 3, 4, 5, 6]
 refine kq _ _ S62 ?_
 clear kq Kq
 refine Z09 12 rfl (by kernel_rfl) (by kernel_rfl) (by kernel_rfl) (fun _ _ _ h => h) S62 (Z1 rfl) (d := 20) (v := (.agg ⟨(Z46 rp x.x (ZA x.S))⟩)) rfl (fun _ H' => (by kernel_rfl)) ?_
 refine Z0j 14 fun Kq kq => ?_
 refine Z1F (Z46 rp x.x (ZA x.S)) H60 7 ?_
 intro w64 H65
 have S67 := H65.pk [0, 1, 2, 3, 4, 5, 6]
 refine kq _ _ S67 ?_
 clear kq Kq
 refine zhf ?_
 apply ztn
 apply Zd
 refine Z1o H65 [Z0 t 121 (Z5F F Cn rp tm), ZY B, Z7 w (ZL [Z0 t 121 [.int .i64 F, .int .i64 Cn, .int .i64 rp, .map (some tm)], ZY B, Z0 b 110 [.map (some mb)], (Z52 mb Lb)]).fp, Z0 b2 53 (Z53 x), Z0 b6 31 (Z54), Z0 b54 31 (Z46 rp x.x (ZA x.S))] [9] 10 rfl (by kernel_rfl) (fun Hx => (Hx.pk [0, 1, 4, 5, 6, 7])) ?_
 intro w68 H69 S70
 refine zkp 0 S70 21 (pt b 0) ?_
 refine zkp 1 S70 22 (pt t 0) ?_
 refine zkp 2 S70 23 (pt t 0) ?_
 refine zkp 3 S70 24 (pt t 2) ?_
 refine zkv 4 S70 25 (.int .i64 (rp)) ?_ (he := fun _ H' => (Z8 rfl (by kernel_rfl) (H'.cell 0 rfl rfl)))
 refine zkv 5 S70 26 (.agg ⟨(Z46 rp x.x (ZA x.S))⟩) ?_ (he := fun _ H' => (Zi (vs := (Z46 rp x.x (ZA x.S))) rfl (by kernel_rfl) (by kernel_rfl) (by exact Nat.le_of_ble_eq_true (by kernel_rfl)) (H'.at 5 rfl) (by kernel_rfl)))
 refine Z3M 6 fun Kq kq => ?_
 refine zdc 27 (Z5b w68 (⟨rp, x.x.cl, x.x.seq, x.x.h, ZA x.S, 0, 0⟩ : Za) ⟨by show rp ≤ _; omega, hxx.1.1, hxx.1.2.1, htl.1, htl.2⟩) ?_
 rintro _ w72 ⟨u73, rfl, k74, p75, q76⟩
 have H77 := H69.addU p75 k74 q76
 obtain ⟨a78, c79, rfl⟩ := Z6 (H77.at 8 rfl)
 refine ⟨_, rfl, ?_⟩
 have hal := Z5j (⟨rp, x.x.cl, x.x.seq, x.x.h, ZA x.S, 0, 0⟩ : Za)
 have S80 := H77.pk [0, 1, 4, 5, 6, 7]
 refine kq _ _ S80 ?_
 clear kq Kq
 refine Z3M 7 fun Kq kq => ?_
 refine zdc 28 (Z3L w72 b mb Lb (.slice a78 ((Z1q (⟨rp, x.x.cl, x.x.seq, x.x.h, ZA x.S, 0, 0⟩ : Za)).length) c79) (Z1q (⟨rp, x.x.cl, x.x.seq, x.x.h, ZA x.S, 0, 0⟩ : Za)) (H77.fn [2, 3, 8]) (by omega) rp) ?_
 rintro _ w82 ⟨rfl, T83⟩
 have H84 := H77.tl [Z0 b 110 (Zas mb), (Z52 mb (Zp Lb (⟨rp, (Z1q (⟨rp, x.x.cl, x.x.seq, x.x.h, ZA x.S, 0, 0⟩ : Za))⟩ : Signed))), (Zar a78 (Z1q (⟨rp, x.x.cl, x.x.seq, x.x.h, ZA x.S, 0, 0⟩ : Za)) c79)] [2, 3, 8] [0, 1, 4, 5, 6, 7] T83 [3, 4, 0, 1, 5, 6, 7, 8, 2]
 refine ⟨_, rfl, ?_⟩
 have S85 := H84.pk [0, 1, 4, 5, 6, 7]
 refine kq _ _ S85 ?_
 clear kq Kq
 refine zkp 8 S85 29 (pt b54 36) ?_
 refine Z3j 9 (Sat w [Z0 t 121 (Z5F F Cn rp tm), ZY B, Z7 w (ZL [Z0 t 121 [.int .i64 F, .int .i64 Cn, .int .i64 rp, .map (some tm)], ZY B, Z0 b 110 [.map (some mb)], (Z52 mb Lb)]).fp, Z0 b2 53 (Z53 x), Z0 b6 31 (Z54)]) rfl (by kernel_rfl) (Z1 rfl) rfl (fun Kq kq => ?_)
 refine zds (Z2n rp (ZB (Zp Lb (⟨rp, (Z1q (⟨rp, x.x.cl, x.x.seq, x.x.h, ZA x.S, 0, 0⟩ : Za))⟩ : Signed)) (⟨rp, (Z1q (⟨rp, x.x.cl, x.x.seq, x.x.h, ZA x.S, 0, 0⟩ : Za))⟩ : Signed))) (Z3G rp x.x (ZA x.S) (ZB (Zp Lb (⟨rp, (Z1q (⟨rp, x.x.cl, x.x.seq, x.x.h, ZA x.S, 0, 0⟩ : Za))⟩ : Signed)) (⟨rp, (Z1q (⟨rp, x.x.cl, x.x.seq, x.x.h, ZA x.S, 0, 0⟩ : Za))⟩ : Signed))) H84 7 ?_
 intro w87 H88
 have S90 := H88.pk [0, 1, 4, 5, 6]
 refine kq _ _ S90 ?_
 clear kq Kq
 refine zhf ?_
 apply ztn
 apply zsl
 refine zwN 30 (Z3G rp x.x (ZA x.S) (ZB (Zp Lb (⟨rp, (Z1q (⟨rp, x.x.cl, x.x.seq, x.x.h, ZA x.S, 0, 0⟩ : Za))⟩ : Signed)) (⟨rp, (Z1q (⟨rp, x.x.cl, x.x.seq, x.x.h, ZA x.S, 0, 0⟩ : Za))⟩ : Signed))) (H88.at 7 rfl) ?_
 refine zwd fun Kq kq => ?_
 refine Z1F (Z3G rp x.x (ZA x.S) (ZB (Zp Lb (⟨rp, (Z1q (⟨rp, x.x.cl, x.x.seq, x.x.h, ZA x.S, 0, 0⟩ : Za))⟩ : Signed)) (⟨rp, (Z1q (⟨rp, x.x.cl, x.x.seq, x.x.h, ZA x.S, 0, 0⟩ : Za))⟩ : Signed))) H88 6 ?_
 intro w92 H93
 refine kq _ _ ?_
 clear kq Kq
 apply znt
 apply ZI
 refine Z2e rfl (ZZ (vs := (Z3G rp x.x (ZA x.S) (ZB (Zp Lb (⟨rp, (Z1q (⟨rp, x.x.cl, x.x.seq, x.x.h, ZA x.S, 0, 0⟩ : Za))⟩ : Signed)) (⟨rp, (Z1q (⟨rp, x.x.cl, x.x.seq, x.x.h, ZA x.S, 0, 0⟩ : Za))⟩ : Signed)))) rfl (by kernel_rfl) (by kernel_rfl) (by exact Nat.le_of_ble_eq_true (by kernel_rfl)) (H93.at 6 rfl) (by kernel_rfl)) ?_
 exact ⟨rfl, H93.pk [0, 1, 2, 3, 4]⟩
end Go.Proofs.YtoaifondpohniaaGreat
