/- WHAT IS PROVED: contracts and plain laws of Rg2t. Conditions: stated with each. -/
import Derived.Test.YtoaifondpohniaaGreatPL04
import Derived.Test.YtoaifondpohniaaGreatPL13
import Derived.Test.YtoaifondpohniaaGreatPL16
import Derived.Test.YtoaifondpohniaaGreatPL18
import Derived.Test.YtoaifondpohniaaGreatPL19
import Derived.Test.YtoaifondpohniaaGreatPL25
set_option maxHeartbeats 4000000
set_option maxRecDepth 100000
namespace Go.Proofs.YtoaifondpohniaaGreat
open Go.RowKit
abbrev Z0u (p0 : Int) (p1 : Int) : List Value := ([(.int .i64 p0), (.int .i64 p1)] : List Value)
abbrev Z30 (p0 : Zg) : List Value := ([(.int .i64 p0.cl), (.int .i64 p0.seq)] : List Value) ++ hc p0.h ++ ([(.int .i64 p0.len), (.int .i64 p0.sb), (.int .i64 p0.sm)] : List Value)
abbrev Z2K (p0 : Za) : List Value := ([(.int .i64 p0.r), (.int .i64 p0.cl), (.int .i64 p0.seq)] : List Value) ++ hc p0.h ++ ([(.int .u64 p0.t), (.int .i64 p0.sb), (.int .i64 p0.sm)] : List Value)
abbrev Zaz (p0 : Zg) (p1 : Option Addr) (p2 : Nat) (p3 : Nat) : List Value := ([(.int .i64 p0.cl), (.int .i64 p0.seq)] : List Value) ++ hc p0.h ++ ([(.int .i64 p0.len), (.int .i64 p0.sb), (.int .i64 p0.sm), (.slice p1 p2 p3)] : List Value)
abbrev Zcz : List Value := ([(.int .i64 (0)), (.int .i64 (0)), (.int .i64 (0))] : List Value) ++ hc Z04 ++ ([(.int .u64 (0)), (.int .i64 (0)), (.int .i64 (0))] : List Value)
abbrev Z70 (p0 : Za) : List Value := ([(.int .i64 p0.cl), (.int .i64 p0.seq)] : List Value)
theorem Z5R (w : World) (r : Nat) (ra : Option Addr) (rc : Nat) (L : List Signed) (hb : (Z0 r 98 [.slice ra L.length rc]).ok w) (hr : (Zk 114 2 (.slice ra L.length rc) L.length (L.flatMap Z1N)).ok w) (hn : L.Nodup) (hL : L.length ≤ 1000000) (ta : Option Addr) (tc : Nat) (tx : List UInt8) (ht : ListAt ZE 1 w (.slice ta tx.length tc) tx) (p m : Int) :
  Calls Tryz.prog 52 #[(.pointer (some ⟨r, 0, none⟩)), (.agg ⟨([(.int .i64 (p)), (.int .i64 (m))] : List Value)⟩), (.slice ta tx.length tc)] w fun e w' => e = .returned (.bool (Z1k L p m tx)) ∧ Upd [] w w' := by
 have H := Sat.start0 w
 refine Zh Tryz.func52 rfl 50 rfl (Nat.le_of_ble_eq_true rfl) ?_
 apply zsl
 refine zwd fun Kq kq => ?_
 refine zdb (Z0u p m) H ?_
 intro b2 w3 H4
 refine kq _ _ ?_
 clear kq Kq
 refine wv 6 (.bool false) ?_
 apply znt
 apply Zd
 refine zqs H4 ?_
 refine qv 7 (pt b2 1) ?_
 refine qv 8 (.int .i64 (m)) ?_ (hr := fun _ H' => (Z8 rfl (by kernel_rfl) (H'.cell 1 rfl rfl)))
 refine qv 9 (.bool (decide (m ≥ 1))) ?_
 refine qv 10 (.bool (decide (m ≥ 1))) ?_
 refine (Zr (decide (m ≥ 1))).elim (fun b5 => ?_) (fun b5 => ?_)
 ·have g6 := of_decide_eq_true b5
  refine Z0P 10 (.bool true) (congrArg Value.bool b5) ?_
  refine qy 3 10 true 11 (pt b2 1) ?_
  refine qy 3 10 true 12 (.int .i64 (m)) ?_ (hr := fun _ H' => (Z8 rfl (by kernel_rfl) (H'.cell 1 rfl rfl)))
  refine qy 3 10 true 13 (pt r 0) ?_
  refine qy 3 10 true 14 (pt r 0) ?_
  refine qy 3 10 true 15 (pt r 0) ?_
  refine qy 3 10 true 16 (.slice ra L.length rc) ?_ (hr := fun _ H' => (Z8 rfl (by kernel_rfl) (H'.roCell 0 rfl hb (fun h => h) rfl)))
  refine Z0v (ZD 3 10 true rfl (by kernel_rfl) rfl (by kernel_rfl)) (d := 17) (v := (.int .i64 ((L.length : Int)))) rfl (fun _ H' => (by kernel_rfl)) ?_
  refine qy 3 10 true 18 (.bool (decide (m ≤ (L.length : Int)))) ?_
  refine qv 19 (.bool (decide (m ≤ (L.length : Int)))) ?_
  refine qv 20 (.bool (decide (m ≤ (L.length : Int)))) ?_
  refine (Zr (decide (m ≤ (L.length : Int)))).elim (fun b8 => ?_) (fun b8 => ?_)
  ·have g9 := of_decide_eq_true b8
   refine Z0P 20 (.bool true) (congrArg Value.bool b8) ?_
   refine qy 13 20 true 21 (pt r 0) ?_
   refine qy 13 20 true 22 (pt r 0) ?_
   refine qy 13 20 true 23 (pt r 0) ?_
   refine qy 13 20 true 24 (.slice ra L.length rc) ?_ (hr := fun _ H' => (Z8 rfl (by kernel_rfl) (H'.roCell 0 rfl hb (fun h => h) rfl)))
   refine qy 13 20 true 25 (pt b2 1) ?_
   refine qy 13 20 true 26 (.int .i64 (m)) ?_ (hr := fun _ H' => (Z8 rfl (by kernel_rfl) (H'.cell 1 rfl rfl)))
   refine qy 13 20 true 27 (.int .i64 (m - 1)) ?_ (hr := fun _ H' => (Z0n (z := m - 1) (by kernel_rfl) (IntWalk.i64_in _ (by omega))))
   obtain ⟨g11, c12, e13⟩ := Z1D hr (by omega)
   obtain ⟨x14, h15⟩ := Z3E (show (m - 1).toNat < L.length by omega)
   refine qy 13 20 true 28 (.pointer (some ⟨g11, 0 + (m - 1).toNat * 2, none⟩)) ?_ (hr := fun _ H' => (Z0r (E := 114) (by kernel_rfl) (by kernel_rfl) (Nat.le_of_ble_eq_true rfl) rfl e13 rfl (by omega) (by omega)))
   refine qy 13 20 true 29 (.pointer (some ⟨g11, 0 + (m - 1).toNat * 2, none⟩)) ?_
   refine qy 13 20 true 30 (.int .i64 (x14.p)) ?_ (hr := fun _ H' => (Z8 rfl (by kernel_rfl) (Z2N (H'.roCk 0 rfl hr (fun _ _ h => h)) e13 Z5m h15 0 rfl (show 0 + (m - 1).toNat * 2 = (m - 1).toNat * 2 + 0 by omega) (by kernel_rfl))))
   refine qy 13 20 true 31 (pt b2 0) ?_
   refine qy 13 20 true 32 (.int .i64 (p)) ?_ (hr := fun _ H' => (Z8 rfl (by kernel_rfl) (H'.cell 1 rfl rfl)))
   refine qy 13 20 true 33 (.bool (decide (x14.p = p))) ?_
   refine qv 34 (.bool (decide (x14.p = p))) ?_
   refine qv 35 (.bool (decide (x14.p = p))) ?_
   refine (Zr (decide (x14.p = p))).elim (fun b16 => ?_) (fun b16 => ?_)
   ·have g17 := of_decide_eq_true b16
    refine Z0P 35 (.bool true) (congrArg Value.bool b16) ?_
    refine qy 28 35 true 36 (pt r 0) ?_
    refine qy 28 35 true 37 (pt r 0) ?_
    refine qy 28 35 true 38 (pt r 0) ?_
    refine qy 28 35 true 39 (.slice ra L.length rc) ?_ (hr := fun _ H' => (Z8 rfl (by kernel_rfl) (H'.roCell 0 rfl hb (fun h => h) rfl)))
    refine qy 28 35 true 40 (pt b2 1) ?_
    refine qy 28 35 true 41 (.int .i64 (m)) ?_ (hr := fun _ H' => (Z8 rfl (by kernel_rfl) (H'.cell 1 rfl rfl)))
    refine qy 28 35 true 42 (.int .i64 (m - 1)) ?_ (hr := fun _ H' => (Z0n (z := m - 1) (by kernel_rfl) (IntWalk.i64_in _ (by omega))))
    refine qy 28 35 true 43 (.pointer (some ⟨g11, 0 + (m - 1).toNat * 2, none⟩)) ?_ (hr := fun _ H' => (Z0r (E := 114) (by kernel_rfl) (by kernel_rfl) (Nat.le_of_ble_eq_true rfl) rfl e13 rfl (by omega) (by omega)))
    refine qy 28 35 true 44 (.pointer (some ⟨g11, 0 + (m - 1).toNat * 2 + 1, none⟩)) ?_
    refine qy 28 35 true 45 (Z2p x14.s) ?_ (hr := fun _ H' => (Z8 rfl (by kernel_rfl) (Z2N (H'.roCk 0 rfl hr (fun _ _ h => h)) e13 Z5m h15 1 rfl (show 0 + (m - 1).toNat * 2 + 1 = (m - 1).toNat * 2 + 1 by omega) (by kernel_rfl))))
    refine qy 28 35 true 46 (.slice ta tx.length tc) ?_
    refine qy 28 35 true 47 (Z2p tx) ?_ (hr := fun _ H' => (Z2D (e := 5) (s := tx) (by kernel_rfl) (by kernel_rfl) (by kernel_rfl) rfl (Z2y (ListAt.now H' 0 rfl ht))))
    refine qy 28 35 true 48 (.bool (decide (x14.s = tx))) ?_ (hr := fun _ H' => (Zab x14.s tx rfl rfl))
    refine qv 49 (.bool (decide (x14.s = tx))) ?_
    refine qv 6 (.bool (decide (x14.s = tx))) ?_
    refine Z1a ?_
    intro w19 H20
    apply ztn
    apply ZI
    refine ze1 (.bool (decide (x14.s = tx))) ?_
    have hb : Z1k L p m tx = (decide (x14.s = tx)) := by
      rw [Bool.eq_iff_iff, Z4B hn, decide_eq_true_eq]
      have hp := of_decide_eq_true b16
      constructor
      ·rintro ⟨i, h1, h2⟩
       have h3 := h15
       rw [show (m - 1).toNat = i by omega, h1] at h3
       cases h3; rfl
      intro h
      exact ⟨(m - 1).toNat, by rw [h15, ← hp, ← h], by omega⟩
    exact ⟨by rw [hb], H20.upd 0 rfl [] (fun _ h => h.elim)⟩
   have g21 := of_decide_eq_false b16
   refine Z0P 35 (.bool false) (congrArg Value.bool b16) ?_
   iterate 13 refine qn 28 35 true ?_
   refine qv 49 (.bool false) ?_
   refine qv 6 (.bool false) ?_
   refine Z1a ?_
   intro w23 H24
   apply ztn
   apply ZI
   refine ze1 (.bool false) ?_
   have hb : Z1k L p m tx = false := Bool.eq_false_iff.2 fun h => by
     obtain ⟨i, h1, h2⟩ := (Z4B hn).1 h
     have h3 := h15
     rw [show (m - 1).toNat = i by omega, h1] at h3
     cases h3
     exact absurd rfl (of_decide_eq_false b16)
   exact ⟨by rw [hb], H24.upd 0 rfl [] (fun _ h => h.elim)⟩
  have g25 := of_decide_eq_false b8
  refine Z0P 20 (.bool false) (congrArg Value.bool b8) ?_
  iterate 13 refine qn 13 20 true ?_
  refine qv 34 (.bool false) ?_
  refine qv 35 (.bool false) ?_
  iterate 13 refine qn 28 35 true ?_
  refine qv 49 (.bool false) ?_
  refine qv 6 (.bool false) ?_
  refine Z1a ?_
  intro w27 H28
  apply ztn
  apply ZI
  refine ze1 (.bool false) ?_
  have hb : Z1k L p m tx = false := Bool.eq_false_iff.2 fun h => by
    obtain ⟨i, h1, h2⟩ := (Z4B hn).1 h
    have h3 := (List.getElem?_eq_some_iff.1 h1).1
    omega
  exact ⟨by rw [hb], H28.upd 0 rfl [] (fun _ h => h.elim)⟩
 have g29 := of_decide_eq_false b5
 refine Z0P 10 (.bool false) (congrArg Value.bool b5) ?_
 iterate 8 refine qn 3 10 true ?_
 refine qv 19 (.bool false) ?_
 refine qv 20 (.bool false) ?_
 iterate 13 refine qn 13 20 true ?_
 refine qv 34 (.bool false) ?_
 refine qv 35 (.bool false) ?_
 iterate 13 refine qn 28 35 true ?_
 refine qv 49 (.bool false) ?_
 refine qv 6 (.bool false) ?_
 refine Z1a ?_
 intro w31 H32
 apply ztn
 apply ZI
 refine ze1 (.bool false) ?_
 have hb : Z1k L p m tx = false := Bool.eq_false_iff.2 fun h => by
   obtain ⟨i, h1, h2⟩ := (Z4B hn).1 h
   have h3 := (List.getElem?_eq_some_iff.1 h1).1
   omega
 exact ⟨by rw [hb], H32.upd 0 rfl [] (fun _ h => h.elim)⟩
theorem Z9I (w : World) (f cn : Int) (x : Zg) :
  Calls Tryz.prog 104 #[(.agg ⟨([(.int .i64 (f)), (.int .i64 (cn))] : List Value)⟩), (.agg ⟨(([(.int .i64 (x.cl)), (.int .i64 (x.seq))] : List Value) ++ hc x.h ++ ([(.int .i64 (x.len)), (.int .i64 (x.sb)), (.int .i64 (x.sm))] : List Value))⟩)] w fun e w' => e = .returned (.bool (Z0R cn x)) ∧ Upd [] w w' := by
 have H := Sat.start0 w
 refine Zh Tryz.func104 rfl 39 rfl (Nat.le_of_ble_eq_true rfl) ?_
 apply zsl
 refine zwd fun Kq kq => ?_
 refine zdb (Z0u f cn) H ?_
 intro b2 w3 H4
 refine kq _ _ ?_
 clear kq Kq
 refine zwd fun Kq kq => ?_
 refine zdb (Z30 x) H4 ?_
 intro b6 w7 H8
 refine kq _ _ ?_
 clear kq Kq
 refine wv 4 (.bool false) ?_
 apply znt
 refine Z0A (List.range' 4 35) (fun G_ W_ => G_ 4 = (.bool (Z0R cn x)) ∧ Sat w [Z7 w (fun _ => False), Z0 b2 36 (Z0u f cn), Z0 b6 50 (Z30 x)] W_) ?_ ?_
 ·apply Zq
  refine wv 5 (pt b6 0) ?_
  refine wv 6 (pt b6 0) ?_
  refine zw1 7 (.int .i64 (x.cl)) (H8.cell 2 rfl (by kernel_rfl)) ?_
  refine wv 8 (.bool (decide (x.cl ≥ 0))) ?_
  refine wv 9 (.bool (decide (x.cl ≥ 0))) ?_
  refine (Zr (decide (x.cl ≥ 0))).elim (fun b10 => ?_) (fun b10 => ?_)
  ·have g11 := of_decide_eq_true b10
   refine ZJ 9 (.bool true) (congrArg Value.bool b10) ?_
   refine wy 4 9 true 10 (pt b6 0) ?_
   refine wy 4 9 true 11 (pt b6 0) ?_
   refine wy 4 9 true 12 (.int .i64 (x.cl)) ?_ (hr := Z8 rfl (by kernel_rfl) (H8.cell 2 rfl (by kernel_rfl)))
   refine wy 4 9 true 13 (pt b2 1) ?_
   refine wy 4 9 true 14 (.int .i64 (cn)) ?_ (hr := Z8 rfl (by kernel_rfl) (H8.cell 1 rfl rfl))
   refine wy 4 9 true 15 (.bool (decide (x.cl < cn))) ?_
   refine wv 16 (.bool (decide (x.cl < cn))) ?_
   refine wv 17 (.bool (decide (x.cl < cn))) ?_
   refine (Zr (decide (x.cl < cn))).elim (fun b12 => ?_) (fun b12 => ?_)
   ·have g13 := of_decide_eq_true b12
    refine ZJ 17 (.bool true) (congrArg Value.bool b12) ?_
    refine wy 12 17 true 18 (pt b6 0) ?_
    refine wy 12 17 true 19 (pt b6 1) ?_
    refine wy 12 17 true 20 (.int .i64 (x.seq)) ?_ (hr := Z8 rfl (by kernel_rfl) (H8.cell 2 rfl (by kernel_rfl)))
    refine wy 12 17 true 21 (.bool (decide (x.seq ≥ 1))) ?_
    refine wv 22 (.bool (decide (x.seq ≥ 1))) ?_
    refine wv 23 (.bool (decide (x.seq ≥ 1))) ?_
    refine (Zr (decide (x.seq ≥ 1))).elim (fun b14 => ?_) (fun b14 => ?_)
    ·have g15 := of_decide_eq_true b14
     refine ZJ 23 (.bool true) (congrArg Value.bool b14) ?_
     refine wy 18 23 true 24 (pt b6 0) ?_
     refine wy 18 23 true 25 (pt b6 1) ?_
     refine wy 18 23 true 26 (.int .i64 (x.seq)) ?_ (hr := Z8 rfl (by kernel_rfl) (H8.cell 2 rfl (by kernel_rfl)))
     refine wy 18 23 true 27 (.bool (decide (x.seq ≤ 1048576))) ?_
     refine wv 28 (.bool (decide (x.seq ≤ 1048576))) ?_
     refine wv 29 (.bool (decide (x.seq ≤ 1048576))) ?_
     refine (Zr (decide (x.seq ≤ 1048576))).elim (fun b16 => ?_) (fun b16 => ?_)
     ·have g17 := of_decide_eq_true b16
      refine ZJ 29 (.bool true) (congrArg Value.bool b16) ?_
      refine wy 24 29 true 30 (pt b6 34) ?_
      refine wy 24 29 true 31 (.int .i64 (x.len)) ?_ (hr := Z8 rfl (by kernel_rfl) (H8.cell 2 rfl (by kernel_rfl)))
      refine wy 24 29 true 32 (.bool (decide (x.len ≥ 0))) ?_
      refine wv 33 (.bool (decide (x.len ≥ 0))) ?_
      refine wv 34 (.bool (decide (x.len ≥ 0))) ?_
      refine (Zr (decide (x.len ≥ 0))).elim (fun b18 => ?_) (fun b18 => ?_)
      ·have g19 := of_decide_eq_true b18
       refine ZJ 34 (.bool true) (congrArg Value.bool b18) ?_
       refine wy 29 34 true 35 (pt b6 34) ?_
       refine wy 29 34 true 36 (.int .i64 (x.len)) ?_ (hr := Z8 rfl (by kernel_rfl) (H8.cell 2 rfl (by kernel_rfl)))
       refine wy 29 34 true 37 (.bool (decide (x.len ≤ 256))) ?_
       refine wv 38 (.bool (decide (x.len ≤ 256))) ?_
       refine wv 4 (.bool (decide (x.len ≤ 256))) ?_
       apply Zn
       refine ZX ?_ ⟨(congrArg Value.bool (show (decide (x.len ≤ 256)) = (Z0R cn x) by simp [Z0R, b10, b12, b14, b16, b18])), H8⟩
       exact zs
      have g20 := of_decide_eq_false b18
      refine ZJ 34 (.bool false) (congrArg Value.bool b18) ?_
      iterate 3 refine wn 29 34 true ?_
      refine wv 38 (.bool false) ?_
      refine wv 4 (.bool false) ?_
      apply Zn
      refine ZX ?_ ⟨(congrArg Value.bool (show false = (Z0R cn x) by simp [Z0R, b10, b12, b14, b16, b18])), H8⟩
      exact zs
     have g21 := of_decide_eq_false b16
     refine ZJ 29 (.bool false) (congrArg Value.bool b16) ?_
     iterate 3 refine wn 24 29 true ?_
     refine wv 33 (.bool false) ?_
     refine wv 34 (.bool false) ?_
     iterate 3 refine wn 29 34 true ?_
     refine wv 38 (.bool false) ?_
     refine wv 4 (.bool false) ?_
     apply Zn
     refine ZX ?_ ⟨(congrArg Value.bool (show false = (Z0R cn x) by simp [Z0R, b10, b12, b14, b16])), H8⟩
     exact zs
    have g21 := of_decide_eq_false b14
    refine ZJ 23 (.bool false) (congrArg Value.bool b14) ?_
    iterate 4 refine wn 18 23 true ?_
    refine wv 28 (.bool false) ?_
    refine wv 29 (.bool false) ?_
    iterate 3 refine wn 24 29 true ?_
    refine wv 33 (.bool false) ?_
    refine wv 34 (.bool false) ?_
    iterate 3 refine wn 29 34 true ?_
    refine wv 38 (.bool false) ?_
    refine wv 4 (.bool false) ?_
    apply Zn
    refine ZX ?_ ⟨(congrArg Value.bool (show false = (Z0R cn x) by simp [Z0R, b10, b12, b14])), H8⟩
    exact zs
   have g23 := of_decide_eq_false b12
   refine ZJ 17 (.bool false) (congrArg Value.bool b12) ?_
   iterate 4 refine wn 12 17 true ?_
   refine wv 22 (.bool false) ?_
   refine wv 23 (.bool false) ?_
   iterate 4 refine wn 18 23 true ?_
   refine wv 28 (.bool false) ?_
   refine wv 29 (.bool false) ?_
   iterate 3 refine wn 24 29 true ?_
   refine wv 33 (.bool false) ?_
   refine wv 34 (.bool false) ?_
   iterate 3 refine wn 29 34 true ?_
   refine wv 38 (.bool false) ?_
   refine wv 4 (.bool false) ?_
   apply Zn
   refine ZX ?_ ⟨(congrArg Value.bool (show false = (Z0R cn x) by simp [Z0R, b10, b12])), H8⟩
   exact zs
  have g24 := of_decide_eq_false b10
  refine ZJ 9 (.bool false) (congrArg Value.bool b10) ?_
  iterate 6 refine wn 4 9 true ?_
  refine wv 16 (.bool false) ?_
  refine wv 17 (.bool false) ?_
  iterate 4 refine wn 12 17 true ?_
  refine wv 22 (.bool false) ?_
  refine wv 23 (.bool false) ?_
  iterate 4 refine wn 18 23 true ?_
  refine wv 28 (.bool false) ?_
  refine wv 29 (.bool false) ?_
  iterate 3 refine wn 24 29 true ?_
  refine wv 33 (.bool false) ?_
  refine wv 34 (.bool false) ?_
  iterate 3 refine wn 29 34 true ?_
  refine wv 38 (.bool false) ?_
  refine wv 4 (.bool false) ?_
  apply Zn
  refine ZX ?_ ⟨(congrArg Value.bool (show false = (Z0R cn x) by simp [Z0R, b10])), H8⟩
  exact zs
 rintro f25 w26 ⟨v28, H27⟩
 refine Zl 4 _ v28 ?_
 apply ZI
 refine ze1 (.bool (Z0R cn x)) ?_
 exact ⟨rfl, H27.upd 0 rfl [] (fun _ h => h.elim)⟩
theorem Z8v (w : World) (f cn : Int) (hf : -1099511627776 ≤ f ∧ f ≤ 1099511627776) (r : Nat) (ra : Option Addr) (rc : Nat) (L : List Signed) (hb : (Z0 r 98 [.slice ra L.length rc]).ok w) (hr : (Zk 114 2 (.slice ra L.length rc) L.length (L.flatMap Z1N)).ok w) (hn : L.Nodup) (hL : L.length ≤ 1000000) (s : Zg) (hs : ZbX s) :
  Calls Tryz.prog 74 #[(.agg ⟨([(.int .i64 (f)), (.int .i64 (cn))] : List Value)⟩), (.pointer (some ⟨r, 0, none⟩)), (.agg ⟨(([(.int .i64 (s.cl)), (.int .i64 (s.seq))] : List Value) ++ hc s.h ++ ([(.int .i64 (s.len)), (.int .i64 (s.sb)), (.int .i64 (s.sm))] : List Value))⟩)] w fun e w' => e = .returned (.bool (Z2d cn L s)) ∧ Upd [] w w' := by
 have H := Sat.start0 w
 have hs2 := hs
 unfold ZbX at hs2
 refine Zh Tryz.func74 rfl 28 rfl (Nat.le_of_ble_eq_true rfl) ?_
 apply zsl
 refine zwd fun Kq kq => ?_
 refine zdb (Z0u f cn) H ?_
 intro b2 w3 H4
 refine kq _ _ ?_
 clear kq Kq
 refine zwd fun Kq kq => ?_
 refine zdb (Z30 s) H4 ?_
 intro b6 w7 H8
 refine kq _ _ ?_
 clear kq Kq
 refine wv 6 (.bool false) ?_
 apply znt
 apply Zd
 refine Z08 H8 [Z7 w (fun _ => False), Z0 b2 36 (Z0u f cn), Z0 b6 50 (Z30 s)] 22 rfl (by kernel_rfl) (fun Hx => (Hx.pk [0, 1, 2])) ?_
 intro w9 H10 S11
 refine hv0 0 S11 7 (.agg ⟨(Z0u f cn)⟩) ?_ (he := fun _ H' => (Zi (vs := (Z0u f cn)) rfl (by kernel_rfl) (by kernel_rfl) (by exact Nat.le_of_ble_eq_true (by kernel_rfl)) (H'.at 1 rfl) (by kernel_rfl)))
 refine hv0 1 S11 8 (.agg ⟨(Z30 s)⟩) ?_ (he := fun _ H' => (Zi (vs := (Z30 s)) rfl (by kernel_rfl) (by kernel_rfl) (by exact Nat.le_of_ble_eq_true (by kernel_rfl)) (H'.at 2 rfl) (by kernel_rfl)))
 refine Z0j 2 fun Kq kq => ?_
 refine zdq 9 (Z9I w9 f cn s) H10 ?_
 intro w13 H14
 have S16 := H14.pk [0, 1, 2]
 refine kq _ _ S16 ?_
 clear kq Kq
 refine hv0 3 S16 10 (.bool (Z0R cn s)) ?_
 refine (Zr (Z0R cn s)).elim (fun b17 => ?_) (fun b17 => ?_)
 ·refine Z1b 10 (.bool true) (congrArg Value.bool b17) ?_
  refine Z1h 4 S16 3 10 true 11 (pt b6 35) ?_
  refine Z1h 5 S16 3 10 true 12 (pt b6 35) ?_
  refine Z1h 6 S16 3 10 true 13 (.int .i64 (s.sb)) ?_ (he := fun _ H' => (Z8 rfl (by kernel_rfl) (H'.cell 2 rfl (by kernel_rfl))))
  refine Z1h 7 S16 3 10 true 14 (pt b6 0) ?_
  refine Z1h 8 S16 3 10 true 15 (pt b6 0) ?_
  refine Z1h 9 S16 3 10 true 16 (.int .i64 (s.cl)) ?_ (he := fun _ H' => (Z8 rfl (by kernel_rfl) (H'.cell 2 rfl (by kernel_rfl))))
  refine Z1h 10 S16 3 10 true 17 (.int .i64 (IntKind.i64.wrap (1000 + s.cl))) ?_
  refine Z1h 11 S16 3 10 true 18 (.bool (decide (s.sb = (IntKind.i64.wrap (1000 + s.cl))))) ?_
  refine hv0 12 S16 19 (.bool (decide (s.sb = (IntKind.i64.wrap (1000 + s.cl))))) ?_
  refine hv0 13 S16 20 (.bool (decide (s.sb = (IntKind.i64.wrap (1000 + s.cl))))) ?_
  refine (Zr (decide (s.sb = (IntKind.i64.wrap (1000 + s.cl))))).elim (fun b18 => ?_) (fun b18 => ?_)
  ·have g19 := of_decide_eq_true b18
   refine Z1b 20 (.bool true) (congrArg Value.bool b18) ?_
   refine Z1h 14 S16 13 20 true 21 (pt r 0) ?_
   refine Z1h 15 S16 13 20 true 22 (pt b6 35) ?_
   refine Z1h 16 S16 13 20 true 23 (.agg ⟨(Z0u s.sb s.sm)⟩) ?_ (he := fun _ H' => (Zi (vs := (Z0u s.sb s.sm)) rfl (by kernel_rfl) (by kernel_rfl) (by exact Nat.le_of_ble_eq_true (by kernel_rfl)) (H'.at 2 rfl) (by kernel_rfl)))
   refine Z1h 17 S16 13 20 true 24 (.agg ⟨(Z30 s)⟩) ?_ (he := fun _ H' => (Zi (vs := (Z30 s)) rfl (by kernel_rfl) (by kernel_rfl) (by exact Nat.le_of_ble_eq_true (by kernel_rfl)) (H'.at 2 rfl) (by kernel_rfl)))
   refine Z2R 18 rfl (by kernel_rfl) (ZD 13 20 true rfl (by kernel_rfl) rfl (by kernel_rfl)) (fun Kq kq => ?_)
   refine zdc 25 (Z28 w13 s hs) ?_
   rintro _ w22 ⟨u23, rfl, k24, p25, q26⟩
   have H27 := H14.addU p25 k24 q26
   obtain ⟨a28, c29, rfl⟩ := Z6 (H27.at 3 rfl)
   refine ⟨_, rfl, ?_⟩
   have S30 := H27.pk [0, 1, 2]
   refine kq _ _ S30 ?_
   clear kq Kq
   refine Z2R 19 rfl (by kernel_rfl) (ZD 13 20 true rfl (by kernel_rfl) rfl (by kernel_rfl)) (fun Kq kq => ?_)
   refine zdq 26 (Z5R w22 r ra rc L (H27.roCk 0 rfl hb (fun _ _ h => h)) (H27.roCk 0 rfl hr (fun _ _ h => h)) hn hL a28 c29 (Zy s) (ListAt.row (enc := ZE) (sz := 1) ZR (by decide) (H27.at 3 rfl)) s.sb s.sm) H27 ?_
   intro w32 H33
   have S35 := H33.pk [0, 1, 2]
   refine kq _ _ S35 ?_
   clear kq Kq
   refine hv0 20 S35 27 (.bool (Z1k L s.sb s.sm (Zy s))) ?_
   refine hv0 21 S35 6 (.bool (Z1k L s.sb s.sm (Zy s))) ?_
   refine zhf ?_
   apply ztn
   apply ZI
   refine ze1 (.bool (Z1k L s.sb s.sm (Zy s))) ?_
   exact ⟨by simp [Z2d, b17, b18], H33.upd 0 rfl [] (fun _ h => h.elim)⟩
  have g36 := of_decide_eq_false b18
  refine Z1b 20 (.bool false) (congrArg Value.bool b18) ?_
  refine Z0h 14 S16 13 20 true ?_
  refine Z0h 15 S16 13 20 true ?_
  refine Z0h 16 S16 13 20 true ?_
  refine Z0h 17 S16 13 20 true ?_
  refine Z0h 18 S16 13 20 true ?_
  refine Z0h 19 S16 13 20 true ?_
  refine hv0 20 S16 27 (.bool false) ?_
  refine hv0 21 S16 6 (.bool false) ?_
  refine zhf ?_
  apply ztn
  apply ZI
  refine ze1 (.bool false) ?_
  exact ⟨by simp [Z2d, b17, b18], H14.upd 0 rfl [] (fun _ h => h.elim)⟩
 refine Z1b 10 (.bool false) (congrArg Value.bool b17) ?_
 refine Z0h 4 S16 3 10 true ?_
 refine Z0h 5 S16 3 10 true ?_
 refine Z0h 6 S16 3 10 true ?_
 refine Z0h 7 S16 3 10 true ?_
 refine Z0h 8 S16 3 10 true ?_
 refine Z0h 9 S16 3 10 true ?_
 refine Z0h 10 S16 3 10 true ?_
 refine Z0h 11 S16 3 10 true ?_
 refine hv0 12 S16 19 (.bool false) ?_
 refine hv0 13 S16 20 (.bool false) ?_
 refine Z0h 14 S16 13 20 true ?_
 refine Z0h 15 S16 13 20 true ?_
 refine Z0h 16 S16 13 20 true ?_
 refine Z0h 17 S16 13 20 true ?_
 refine Z0h 18 S16 13 20 true ?_
 refine Z0h 19 S16 13 20 true ?_
 refine hv0 20 S16 27 (.bool false) ?_
 refine hv0 21 S16 6 (.bool false) ?_
 refine zhf ?_
 apply ztn
 apply ZI
 refine ze1 (.bool false) ?_
 exact ⟨by simp [Z2d, b17], H14.upd 0 rfl [] (fun _ h => h.elim)⟩
theorem Z5S (w : World) (f cn : Int) (hf : -1099511627776 ≤ f ∧ f ≤ 1099511627776) (r : Nat) (ra : Option Addr) (rc : Nat) (L : List Signed) (hb : (Z0 r 98 [.slice ra L.length rc]).ok w) (hr : (Zk 114 2 (.slice ra L.length rc) L.length (L.flatMap Z1N)).ok w) (hn : L.Nodup) (hL : L.length ≤ 1000000) (s : Za) (hs : StOk s) :
  Calls Tryz.prog 75 #[(.agg ⟨([(.int .i64 (f)), (.int .i64 (cn))] : List Value)⟩), (.pointer (some ⟨r, 0, none⟩)), (.agg ⟨(([(.int .i64 (s.r)), (.int .i64 (s.cl)), (.int .i64 (s.seq))] : List Value) ++ hc s.h ++ ([(.int .u64 (s.t)), (.int .i64 (s.sb)), (.int .i64 (s.sm))] : List Value))⟩)] w fun e w' => e = .returned (.bool (Z0Z f L s)) ∧ Upd [] w w' := by
 have H := Sat.start0 w
 have hs2 := hs
 unfold StOk at hs2
 refine Zh Tryz.func75 rfl 43 rfl (Nat.le_of_ble_eq_true rfl) ?_
 apply zsl
 refine zwd fun Kq kq => ?_
 refine zdb (Z0u f cn) H ?_
 intro b2 w3 H4
 refine kq _ _ ?_
 clear kq Kq
 refine zwd fun Kq kq => ?_
 refine zdb (Z2K s) H4 ?_
 intro b6 w7 H8
 refine kq _ _ ?_
 clear kq Kq
 refine wv 6 (.bool false) ?_
 apply znt
 apply Zd
 refine Z08 H8 [Z7 w (fun _ => False), Z0 b2 36 (Z0u f cn), Z0 b6 101 (Z2K s)] 37 rfl (by kernel_rfl) (fun Hx => (Hx.pk [0, 1, 2])) ?_
 intro w9 H10 S11
 refine hv0 0 S11 7 (pt b6 0) ?_
 refine hv0 1 S11 8 (.int .i64 (s.r)) ?_ (he := fun _ H' => (Z8 rfl (by kernel_rfl) (H'.cell 2 rfl (by kernel_rfl))))
 refine hv0 2 S11 9 (.bool (decide (s.r ≥ 0))) ?_
 refine hv0 3 S11 10 (.bool (decide (s.r ≥ 0))) ?_
 refine (Zr (decide (s.r ≥ 0))).elim (fun b12 => ?_) (fun b12 => ?_)
 ·have g13 := of_decide_eq_true b12
  refine Z1b 10 (.bool true) (congrArg Value.bool b12) ?_
  refine Z1h 4 S11 3 10 true 11 (pt b6 0) ?_
  refine Z1h 5 S11 3 10 true 12 (.int .i64 (s.r)) ?_ (he := fun _ H' => (Z8 rfl (by kernel_rfl) (H'.cell 2 rfl (by kernel_rfl))))
  refine Z1h 6 S11 3 10 true 13 (.agg ⟨(Z0u f cn)⟩) ?_ (he := fun _ H' => (Zi (vs := (Z0u f cn)) rfl (by kernel_rfl) (by kernel_rfl) (by exact Nat.le_of_ble_eq_true (by kernel_rfl)) (H'.at 1 rfl) (by kernel_rfl)))
  refine Z2R 7 rfl (by kernel_rfl) (ZD 3 10 true rfl (by kernel_rfl) rfl (by kernel_rfl)) (fun Kq kq => ?_)
  refine zdq 14 (ZaY w9 f cn (by omega)) H10 ?_
  intro w16 H17
  have S19 := H17.pk [0, 1, 2]
  refine kq _ _ S19 ?_
  clear kq Kq
  refine Z1h 8 S19 3 10 true 15 (.bool (decide (s.r < (3 * f + 1)))) ?_
  refine hv0 9 S19 16 (.bool (decide (s.r < (3 * f + 1)))) ?_
  refine hv0 10 S19 17 (.bool (decide (s.r < (3 * f + 1)))) ?_
  refine (Zr (decide (s.r < (3 * f + 1)))).elim (fun b20 => ?_) (fun b20 => ?_)
  ·have g21 := of_decide_eq_true b20
   refine Z1b 17 (.bool true) (congrArg Value.bool b20) ?_
   refine Z1h 11 S19 10 17 true 18 (pt b6 35) ?_
   refine Z1h 12 S19 10 17 true 19 (.int .u64 (s.t)) ?_ (he := fun _ H' => (Z8 rfl (by kernel_rfl) (H'.cell 2 rfl (by kernel_rfl))))
   refine Z1h 13 S19 10 17 true 20 (.bool (decide (s.t ≥ 1))) ?_
   refine hv0 14 S19 21 (.bool (decide (s.t ≥ 1))) ?_
   refine hv0 15 S19 22 (.bool (decide (s.t ≥ 1))) ?_
   refine (Zr (decide (s.t ≥ 1))).elim (fun b23 => ?_) (fun b23 => ?_)
   ·have g24 := of_decide_eq_true b23
    refine Z1b 22 (.bool true) (congrArg Value.bool b23) ?_
    refine Z1h 16 S19 15 22 true 23 (pt b6 35) ?_
    refine Z1h 17 S19 15 22 true 24 (.int .u64 (s.t)) ?_ (he := fun _ H' => (Z8 rfl (by kernel_rfl) (H'.cell 2 rfl (by kernel_rfl))))
    refine Z1h 18 S19 15 22 true 25 (.bool (decide (s.t < 18446744073709551615))) ?_
    refine hv0 19 S19 26 (.bool (decide (s.t < 18446744073709551615))) ?_
    refine hv0 20 S19 27 (.bool (decide (s.t < 18446744073709551615))) ?_
    refine (Zr (decide (s.t < 18446744073709551615))).elim (fun b26 => ?_) (fun b26 => ?_)
    ·have g27 := of_decide_eq_true b26
     refine Z1b 27 (.bool true) (congrArg Value.bool b26) ?_
     refine Z1h 21 S19 20 27 true 28 (pt b6 36) ?_
     refine Z1h 22 S19 20 27 true 29 (pt b6 36) ?_
     refine Z1h 23 S19 20 27 true 30 (.int .i64 (s.sb)) ?_ (he := fun _ H' => (Z8 rfl (by kernel_rfl) (H'.cell 2 rfl (by kernel_rfl))))
     refine Z1h 24 S19 20 27 true 31 (pt b6 0) ?_
     refine Z1h 25 S19 20 27 true 32 (.int .i64 (s.r)) ?_ (he := fun _ H' => (Z8 rfl (by kernel_rfl) (H'.cell 2 rfl (by kernel_rfl))))
     refine Z1h 26 S19 20 27 true 33 (.bool (decide (s.sb = s.r))) ?_
     refine hv0 27 S19 34 (.bool (decide (s.sb = s.r))) ?_
     refine hv0 28 S19 35 (.bool (decide (s.sb = s.r))) ?_
     refine (Zr (decide (s.sb = s.r))).elim (fun b29 => ?_) (fun b29 => ?_)
     ·have g29 := of_decide_eq_true b29
      refine Z1b 35 (.bool true) (congrArg Value.bool b29) ?_
      refine Z1h 29 S19 28 35 true 36 (pt r 0) ?_
      refine Z1h 30 S19 28 35 true 37 (pt b6 36) ?_
      refine Z1h 31 S19 28 35 true 38 (.agg ⟨(Z0u s.sb s.sm)⟩) ?_ (he := fun _ H' => (Zi (vs := (Z0u s.sb s.sm)) rfl (by kernel_rfl) (by kernel_rfl) (by exact Nat.le_of_ble_eq_true (by kernel_rfl)) (H'.at 2 rfl) (by kernel_rfl)))
      refine Z1h 32 S19 28 35 true 39 (.agg ⟨(Z2K s)⟩) ?_ (he := fun _ H' => (Zi (vs := (Z2K s)) rfl (by kernel_rfl) (by kernel_rfl) (by exact Nat.le_of_ble_eq_true (by kernel_rfl)) (H'.at 2 rfl) (by kernel_rfl)))
      refine Z2R 33 rfl (by kernel_rfl) (ZD 28 35 true rfl (by kernel_rfl) rfl (by kernel_rfl)) (fun Kq kq => ?_)
      refine zdc 40 (Z31 w16 s hs) ?_
      rintro _ w33 ⟨u34, rfl, k35, p36, q37⟩
      have H38 := H17.addU p36 k35 q37
      obtain ⟨a39, c40, rfl⟩ := Z6 (H38.at 3 rfl)
      refine ⟨_, rfl, ?_⟩
      have S41 := H38.pk [0, 1, 2]
      refine kq _ _ S41 ?_
      clear kq Kq
      refine Z2R 34 rfl (by kernel_rfl) (ZD 28 35 true rfl (by kernel_rfl) rfl (by kernel_rfl)) (fun Kq kq => ?_)
      refine zdq 41 (Z5R w33 r ra rc L (H38.roCk 0 rfl hb (fun _ _ h => h)) (H38.roCk 0 rfl hr (fun _ _ h => h)) hn hL a39 c40 (ZH s) (ListAt.row (enc := ZE) (sz := 1) ZR (by decide) (H38.at 3 rfl)) s.sb s.sm) H38 ?_
      intro w43 H44
      have S46 := H44.pk [0, 1, 2]
      refine kq _ _ S46 ?_
      clear kq Kq
      refine hv0 35 S46 42 (.bool (Z1k L s.sb s.sm (ZH s))) ?_
      refine hv0 36 S46 6 (.bool (Z1k L s.sb s.sm (ZH s))) ?_
      refine zhf ?_
      apply ztn
      apply ZI
      refine ze1 (.bool (Z1k L s.sb s.sm (ZH s))) ?_
      exact ⟨by simp [Z0Z, inB, b12, b20, b23, b26, b29], H44.upd 0 rfl [] (fun _ h => h.elim)⟩
     have g47 := of_decide_eq_false b29
     refine Z1b 35 (.bool false) (congrArg Value.bool b29) ?_
     refine Z0h 29 S19 28 35 true ?_
     refine Z0h 30 S19 28 35 true ?_
     refine Z0h 31 S19 28 35 true ?_
     refine Z0h 32 S19 28 35 true ?_
     refine Z0h 33 S19 28 35 true ?_
     refine Z0h 34 S19 28 35 true ?_
     refine hv0 35 S19 42 (.bool false) ?_
     refine hv0 36 S19 6 (.bool false) ?_
     refine zhf ?_
     apply ztn
     apply ZI
     refine ze1 (.bool false) ?_
     exact ⟨by simp [Z0Z, inB, b12, b20, b23, b26, b29], H17.upd 0 rfl [] (fun _ h => h.elim)⟩
    have g49 := of_decide_eq_false b26
    refine Z1b 27 (.bool false) (congrArg Value.bool b26) ?_
    refine Z0h 21 S19 20 27 true ?_
    refine Z0h 22 S19 20 27 true ?_
    refine Z0h 23 S19 20 27 true ?_
    refine Z0h 24 S19 20 27 true ?_
    refine Z0h 25 S19 20 27 true ?_
    refine Z0h 26 S19 20 27 true ?_
    refine hv0 27 S19 34 (.bool false) ?_
    refine hv0 28 S19 35 (.bool false) ?_
    refine Z0h 29 S19 28 35 true ?_
    refine Z0h 30 S19 28 35 true ?_
    refine Z0h 31 S19 28 35 true ?_
    refine Z0h 32 S19 28 35 true ?_
    refine Z0h 33 S19 28 35 true ?_
    refine Z0h 34 S19 28 35 true ?_
    refine hv0 35 S19 42 (.bool false) ?_
    refine hv0 36 S19 6 (.bool false) ?_
    refine zhf ?_
    apply ztn
    apply ZI
    refine ze1 (.bool false) ?_
    exact ⟨by simp [Z0Z, inB, b12, b20, b23, b26], H17.upd 0 rfl [] (fun _ h => h.elim)⟩
   have g51 := of_decide_eq_false b23
   refine Z1b 22 (.bool false) (congrArg Value.bool b23) ?_
   refine Z0h 16 S19 15 22 true ?_
   refine Z0h 17 S19 15 22 true ?_
   refine Z0h 18 S19 15 22 true ?_
   refine hv0 19 S19 26 (.bool false) ?_
   refine hv0 20 S19 27 (.bool false) ?_
   refine Z0h 21 S19 20 27 true ?_
   refine Z0h 22 S19 20 27 true ?_
   refine Z0h 23 S19 20 27 true ?_
   refine Z0h 24 S19 20 27 true ?_
   refine Z0h 25 S19 20 27 true ?_
   refine Z0h 26 S19 20 27 true ?_
   refine hv0 27 S19 34 (.bool false) ?_
   refine hv0 28 S19 35 (.bool false) ?_
   refine Z0h 29 S19 28 35 true ?_
   refine Z0h 30 S19 28 35 true ?_
   refine Z0h 31 S19 28 35 true ?_
   refine Z0h 32 S19 28 35 true ?_
   refine Z0h 33 S19 28 35 true ?_
   refine Z0h 34 S19 28 35 true ?_
   refine hv0 35 S19 42 (.bool false) ?_
   refine hv0 36 S19 6 (.bool false) ?_
   refine zhf ?_
   apply ztn
   apply ZI
   refine ze1 (.bool false) ?_
   exact ⟨by simp [Z0Z, inB, b12, b20, b23], H17.upd 0 rfl [] (fun _ h => h.elim)⟩
  have g53 := of_decide_eq_false b20
  refine Z1b 17 (.bool false) (congrArg Value.bool b20) ?_
  refine Z0h 11 S19 10 17 true ?_
  refine Z0h 12 S19 10 17 true ?_
  refine Z0h 13 S19 10 17 true ?_
  refine hv0 14 S19 21 (.bool false) ?_
  refine hv0 15 S19 22 (.bool false) ?_
  refine Z0h 16 S19 15 22 true ?_
  refine Z0h 17 S19 15 22 true ?_
  refine Z0h 18 S19 15 22 true ?_
  refine hv0 19 S19 26 (.bool false) ?_
  refine hv0 20 S19 27 (.bool false) ?_
  refine Z0h 21 S19 20 27 true ?_
  refine Z0h 22 S19 20 27 true ?_
  refine Z0h 23 S19 20 27 true ?_
  refine Z0h 24 S19 20 27 true ?_
  refine Z0h 25 S19 20 27 true ?_
  refine Z0h 26 S19 20 27 true ?_
  refine hv0 27 S19 34 (.bool false) ?_
  refine hv0 28 S19 35 (.bool false) ?_
  refine Z0h 29 S19 28 35 true ?_
  refine Z0h 30 S19 28 35 true ?_
  refine Z0h 31 S19 28 35 true ?_
  refine Z0h 32 S19 28 35 true ?_
  refine Z0h 33 S19 28 35 true ?_
  refine Z0h 34 S19 28 35 true ?_
  refine hv0 35 S19 42 (.bool false) ?_
  refine hv0 36 S19 6 (.bool false) ?_
  refine zhf ?_
  apply ztn
  apply ZI
  refine ze1 (.bool false) ?_
  exact ⟨by simp [Z0Z, inB, b12, b20], H17.upd 0 rfl [] (fun _ h => h.elim)⟩
 have g55 := of_decide_eq_false b12
 refine Z1b 10 (.bool false) (congrArg Value.bool b12) ?_
 refine Z0h 4 S11 3 10 true ?_
 refine Z0h 5 S11 3 10 true ?_
 refine Z0h 6 S11 3 10 true ?_
 refine Z0h 7 S11 3 10 true ?_
 refine Z0h 8 S11 3 10 true ?_
 refine hv0 9 S11 16 (.bool false) ?_
 refine hv0 10 S11 17 (.bool false) ?_
 refine Z0h 11 S11 10 17 true ?_
 refine Z0h 12 S11 10 17 true ?_
 refine Z0h 13 S11 10 17 true ?_
 refine hv0 14 S11 21 (.bool false) ?_
 refine hv0 15 S11 22 (.bool false) ?_
 refine Z0h 16 S11 15 22 true ?_
 refine Z0h 17 S11 15 22 true ?_
 refine Z0h 18 S11 15 22 true ?_
 refine hv0 19 S11 26 (.bool false) ?_
 refine hv0 20 S11 27 (.bool false) ?_
 refine Z0h 21 S11 20 27 true ?_
 refine Z0h 22 S11 20 27 true ?_
 refine Z0h 23 S11 20 27 true ?_
 refine Z0h 24 S11 20 27 true ?_
 refine Z0h 25 S11 20 27 true ?_
 refine Z0h 26 S11 20 27 true ?_
 refine hv0 27 S11 34 (.bool false) ?_
 refine hv0 28 S11 35 (.bool false) ?_
 refine Z0h 29 S11 28 35 true ?_
 refine Z0h 30 S11 28 35 true ?_
 refine Z0h 31 S11 28 35 true ?_
 refine Z0h 32 S11 28 35 true ?_
 refine Z0h 33 S11 28 35 true ?_
 refine Z0h 34 S11 28 35 true ?_
 refine hv0 35 S11 42 (.bool false) ?_
 refine hv0 36 S11 6 (.bool false) ?_
 refine zhf ?_
 apply ztn
 apply ZI
 refine Z2e rfl (ZT (v := (.bool false)) rfl) ?_
 exact ⟨by simp [Z0Z, inB, b12], H10.upd 0 rfl [] (fun _ h => h.elim)⟩
theorem Z8w (w : World) (f cn : Int) (hf : -1099511627776 ≤ f ∧ f ≤ 1099511627776) (r : Nat) (ra : Option Addr) (rc : Nat) (L : List Signed) (hb : (Z0 r 98 [.slice ra L.length rc]).ok w) (hr : (Zk 114 2 (.slice ra L.length rc) L.length (L.flatMap Z1N)).ok w) (hn : L.Nodup) (hL : L.length ≤ 1000000) (x : Zg) (hx : ZbX x) (sa : Option Addr) (sc : Nat) (S : List Za) (hS : ListAt Z0q 38 w (.slice sa S.length sc) S) (hok : Zbi S) (hlS : S.length ≤ 1000000) :
  Calls Tryz.prog 41 #[(.agg ⟨([(.int .i64 (f)), (.int .i64 (cn))] : List Value)⟩), (.pointer (some ⟨r, 0, none⟩)), (.agg ⟨(([(.int .i64 (x.cl)), (.int .i64 (x.seq))] : List Value) ++ hc x.h ++ ([(.int .i64 (x.len)), (.int .i64 (x.sb)), (.int .i64 (x.sm)), (.slice sa S.length sc)] : List Value))⟩)] w fun e w' => e = .returned (.bool (Z0m f cn L x S)) ∧ Upd [] w w' := by
 have H := Sat.start0 w
 refine Zh Tryz.func41 rfl 72 rfl (Nat.le_of_ble_eq_true rfl) ?_
 apply zsl
 refine zwd fun Kq kq => ?_
 refine zdb (Z0u f cn) H ?_
 intro b2 w3 H4
 refine kq _ _ ?_
 clear kq Kq
 refine zwd fun Kq kq => ?_
 refine zdb (Zaz x sa S.length sc) H4 ?_
 intro b6 w7 H8
 refine kq _ _ ?_
 clear kq Kq
 refine wv 6 (.bool false) ?_
 apply znt
 apply Zd
 apply Zd
 refine zqs H8 ?_
 refine qv 9 (.agg ⟨(Z0u f cn)⟩) ?_ (hr := fun _ H' => (Zi (vs := (Z0u f cn)) rfl (by kernel_rfl) (by kernel_rfl) (by exact Nat.le_of_ble_eq_true (by kernel_rfl)) (H'.at 1 rfl) (by kernel_rfl)))
 refine qv 10 (pt r 0) ?_
 refine qv 11 (pt b6 0) ?_
 refine qv 12 (.agg ⟨(Z30 x)⟩) ?_ (hr := fun _ H' => (Zi (vs := (Z30 x)) rfl (by kernel_rfl) (by kernel_rfl) (by exact Nat.le_of_ble_eq_true (by kernel_rfl)) (H'.at 2 rfl) (by kernel_rfl)))
 refine Z1R (Z1 rfl) (d := 13) (v := (.bool (Z2d cn L x))) rfl (fun _ _ => by kernel_rfl) (fun w' H' => (Z8v w' f cn (by omega) r ra rc L (H'.roCk 0 rfl hb (fun _ _ h => h)) (H'.roCk 0 rfl hr (fun _ _ h => h)) hn hL x hx).mono fun _ _ h => ⟨h.1, H'.keepU h.2⟩) ?_
 refine qv 14 (.bool (!(Z2d cn L x))) ?_
 refine qv 15 (.bool (!(Z2d cn L x))) ?_
 refine (Zr (!(Z2d cn L x))).elim (fun b9 => ?_) (fun b9 => ?_)
 ·have g10 := ZU b9
  refine Z0P 15 (.bool true) (congrArg Value.bool b9) ?_
  iterate 6 refine qn 6 15 false ?_
  refine qv 22 (.bool true) ?_
  refine Z1a ?_
  intro w12 H13
  apply ztn
  refine Z0S rfl ?_
  apply zsl
  refine wv 6 (.bool false) ?_
  apply znt
  apply ZI
  apply ZG
  refine ze1 (.bool false) ?_
  have n14 := ZU b9
  exact ⟨by simp only [Z0m, n14, Bool.not_true, Bool.not_false, Bool.true_or, Bool.false_or, Bool.or_true, Bool.or_false, Bool.and_true, Bool.true_and, Bool.and_false, Bool.false_and], H13.upd 0 rfl [] (fun _ h => h.elim)⟩
 have g15 := Zj b9
 refine Z0P 15 (.bool false) (congrArg Value.bool b9) ?_
 refine qy 6 15 false 16 (pt b6 37) ?_
 refine qy 6 15 false 17 (.slice sa S.length sc) ?_ (hr := fun _ H' => (Z8 rfl (by kernel_rfl) (H'.cell 2 rfl (by kernel_rfl))))
 refine Z0v (ZD 6 15 false rfl (by kernel_rfl) rfl (by kernel_rfl)) (d := 18) (v := (.int .i64 ((S.length : Int)))) rfl (fun _ H' => (by kernel_rfl)) ?_
 refine qy 6 15 false 19 (.agg ⟨(Z0u f cn)⟩) ?_ (hr := fun _ H' => (Zi (vs := (Z0u f cn)) rfl (by kernel_rfl) (by kernel_rfl) (by exact Nat.le_of_ble_eq_true (by kernel_rfl)) (H'.at 1 rfl) (by kernel_rfl)))
 refine Z1R (ZD 6 15 false rfl (by kernel_rfl) rfl (by kernel_rfl)) (d := 20) (v := (.int .i64 (2 * f + 1))) rfl (fun _ _ => by kernel_rfl) (fun w' H' => (Zb1 w' f cn (by omega)).mono fun _ _ h => ⟨h.1, H'.keepU h.2⟩) ?_
 refine qy 6 15 false 21 (.bool (!(decide ((S.length : Int) = (2 * f + 1))))) ?_
 refine qv 22 (.bool (!(decide ((S.length : Int) = (2 * f + 1))))) ?_
 refine Z1a ?_
 intro w17 H18
 refine Z4 ?_
 refine (Zr (!(decide ((S.length : Int) = (2 * f + 1))))).elim (fun b19 => ?_) (fun b19 => ?_)
 ·have g20 := ZU b19
  have g21 := of_decide_eq_false g20
  refine Zl 22 (.bool true) (congrArg Value.bool b19) ?_
  have g22 := ZU b19
  have g23 := of_decide_eq_false g22
  refine Z0S rfl ?_
  apply zsl
  refine wv 6 (.bool false) ?_
  apply znt
  apply ZI
  apply ZG
  refine ze1 (.bool false) ?_
  have n24 := Zj b9
  have n25 := ZU b19
  exact ⟨by simp only [Z0m, n24, n25, Bool.not_true, Bool.not_false, Bool.true_or, Bool.false_or, Bool.or_true, Bool.or_false, Bool.and_true, Bool.true_and, Bool.and_false, Bool.false_and], H18.upd 0 rfl [] (fun _ h => h.elim)⟩
 have g26 := Zj b19
 have g27 := of_decide_eq_true g26
 refine Zl 22 (.bool false) (congrArg Value.bool b19) ?_
 have g28 := Zj b19
 have g29 := of_decide_eq_true g28
 refine Z1g rfl ?_
 apply ZW
 apply ztn
 apply Zd
 apply zsl
 refine wv 23 (pt b6 37) ?_
 refine zw1 24 (.slice sa S.length sc) (H18.cell 2 rfl (by kernel_rfl)) ?_
 refine wv 25 (.int .i64 ((S.length : Int))) ?_
 refine wv 26 (.int .i64 (0)) ?_
 apply znt
 apply ZM
 have n30 := Zj b9
 have n31 := Zj b19
 refine Z0b ([6, 7, 8] ++ List.range' 26 46) (fun F_ W_ m_ => ∃ (i : Nat), F_ 26 = (.int .i64 ((i : Int))) ∧ (i ≤ S.length) ∧ (∀ j, j < i → Z3d f L x S j = true) ∧ Sat w [Z7 w (fun _ => False), Z0 b2 36 (Z0u f cn), Z0 b6 53 (Zaz x sa S.length sc)] W_ ∧ m_ = S.length - i) _ ⟨0, (show ((.int .i64 (0)) : Value) = _ by first | rfl | go_num), (Nat.zero_le _), (fun _ h => absurd h (Nat.not_lt_zero _)), H18, rfl⟩ ?_
 rintro g32 w33 _ ⟨i, v35, hi, hall, H34, rfl⟩
 refine Zl 26 _ v35 ?_
 apply zsl
 refine wv 27 (.bool (decide ((i : Int) < (S.length : Int)))) ?_
 apply znt
 apply Zd
 refine (Zr (decide ((i : Int) < (S.length : Int)))).elim (fun b37 => ?_) (fun b37 => ?_)
 ·have g38 := of_decide_eq_true b37
  refine Z1V _ b37 ?_
  apply ZW
  apply ztn
  apply Zd
  apply ZM
  apply zsl
  refine wv 28 (.int .i64 ((i : Int))) ?_
  refine wv 7 (.int .i64 ((i : Int))) ?_
  apply Z2Q
  refine wv 29 (pt b6 37) ?_
  refine zw1 30 (.slice sa S.length sc) (H34.cell 2 rfl (by kernel_rfl)) ?_
  refine wv 31 (.int .i64 ((i : Int))) ?_
  obtain ⟨g40, o41, c42, e43, R44⟩ := SliceOf.atD hS Ze (show i < S.length by omega)
  refine wv 32 (.pointer (some ⟨g40, o41 + ((i : Int)).toNat * 38, none⟩)) ?_ (hr := ZV (E := 101) (by kernel_rfl) (by kernel_rfl) (Nat.le_of_ble_eq_true rfl) rfl e43 rfl (by omega) (by omega))
  refine wv 33 (.agg ⟨(Z2K (S.getD i Ze))⟩) ?_ (hr := Z0k (vs := (Z2K (S.getD i Ze))) rfl (by kernel_rfl) (by kernel_rfl) (Nat.le_of_ble_eq_true (by kernel_rfl)) (H34.runR 0 rfl (Z16 R44 0 (by kernel_rfl) (show o41 + ((i : Int)).toNat * 38 = o41 + i * 38 + 0 by omega)) (fun h => h)))
  refine zwd fun Kq kq => ?_
  refine zda (Zcz) H34 ?_
  intro b46 w47 H48
  refine kq _ _ ?_
  clear kq Kq
  refine zwd fun Kq kq => ?_
  refine Z1F (Z2K (S.getD i Ze)) H48 3 ?_
  intro w50 H51
  refine kq _ _ ?_
  clear kq Kq
  apply znt
  apply Zd
  refine zqs H51 ?_
  refine qv 34 (.int .i64 ((i : Int))) ?_
  refine qv 35 (.bool (decide ((i : Int) > 0))) ?_
  refine qv 36 (.bool (decide ((i : Int) > 0))) ?_
  refine (Zr (decide ((i : Int) > 0))).elim (fun b53 => ?_) (fun b53 => ?_)
  ·have g54 := of_decide_eq_true b53
   refine Z0P 36 (.bool true) (congrArg Value.bool b53) ?_
   refine qy 2 36 true 37 (pt b46 0) ?_
   refine qy 2 36 true 38 (.int .i64 ((S.getD i Ze).r)) ?_ (hr := fun _ H' => (Z8 rfl (by kernel_rfl) (H'.cell 3 rfl (by kernel_rfl))))
   refine qy 2 36 true 39 (pt b6 37) ?_
   refine qy 2 36 true 40 (.slice sa S.length sc) ?_ (hr := fun _ H' => (Z8 rfl (by kernel_rfl) (H'.cell 2 rfl (by kernel_rfl))))
   refine qy 2 36 true 41 (.int .i64 ((i : Int))) ?_
   refine qy 2 36 true 42 (.int .i64 ((i : Int) - 1)) ?_ (hr := fun _ H' => (Z0n (z := (i : Int) - 1) (by kernel_rfl) (IntWalk.i64_in _ (by omega))))
   obtain ⟨g56, o57, c58, e59, R60⟩ := SliceOf.atD hS Ze (show ((i : Int) - 1).toNat < S.length by omega)
   refine qy 2 36 true 43 (.pointer (some ⟨g56, o57 + ((i : Int) - 1).toNat * 38, none⟩)) ?_ (hr := fun _ H' => (ZV (E := 101) (by kernel_rfl) (by kernel_rfl) (Nat.le_of_ble_eq_true rfl) rfl e59 rfl (by omega) (by omega)))
   refine qy 2 36 true 44 (.pointer (some ⟨g56, o57 + ((i : Int) - 1).toNat * 38, none⟩)) ?_
   refine qy 2 36 true 45 (.int .i64 ((S.getD ((i : Int) - 1).toNat Ze).r)) ?_ (hr := fun _ H' => (Z8 rfl (by kernel_rfl) (H'.cellR 0 rfl (Z1H R60 0 (by kernel_rfl) (show o57 + ((i : Int) - 1).toNat * 38 = o57 + ((i : Int) - 1).toNat * 38 + 0 by omega)) (fun h => h))))
   refine qy 2 36 true 46 (.bool (decide (((S.getD i Ze).r) ≤ ((S.getD ((i : Int) - 1).toNat Ze).r)))) ?_
   refine qv 47 (.bool (decide (((S.getD i Ze).r) ≤ ((S.getD ((i : Int) - 1).toNat Ze).r)))) ?_
   refine qv 48 (.bool (decide (((S.getD i Ze).r) ≤ ((S.getD ((i : Int) - 1).toNat Ze).r)))) ?_
   refine (Zr (decide (((S.getD i Ze).r) ≤ ((S.getD ((i : Int) - 1).toNat Ze).r)))).elim (fun b61 => ?_) (fun b61 => ?_)
   ·have g62 := of_decide_eq_true b61
    refine Z0P 48 (.bool true) (congrArg Value.bool b61) ?_
    iterate 6 refine qn 14 48 false ?_
    refine qv 55 (.bool true) ?_
    refine qv 56 (.bool true) ?_
    iterate 6 refine qn 22 56 false ?_
    refine qv 63 (.bool true) ?_
    refine qv 64 (.bool true) ?_
    iterate 5 refine qn 30 64 false ?_
    refine qv 70 (.bool true) ?_
    refine Z1a ?_
    intro w64 H65
    apply ztn
    refine Z0S rfl ?_
    apply zsl
    refine wv 6 (.bool false) ?_
    apply znt
    apply ZI
    apply Z0e
    apply ZG
    apply Z10
    apply Z0e
    apply ZG
    refine ze1 (.bool false) ?_
    have e1 : ((i : Int) - 1).toNat = i - 1 := by omega
    have ho : Z3d f L x S i = false := by unfold Z3d Z2h; rw [← e1]; simp only [b37, b53, b61, Bool.not_true, Bool.not_false, Bool.true_or, Bool.false_or, Bool.or_true, Bool.or_false, Bool.and_true, Bool.true_and, Bool.and_false, Bool.false_and]
    exact ⟨by simp only [Z0m, Z24 (show i < S.length by omega) ho, Bool.and_false], H65.upd 0 rfl [] (fun _ h => h.elim)⟩
   have g66 := of_decide_eq_false b61
   refine Z0P 48 (.bool false) (congrArg Value.bool b61) ?_
   refine qy 14 48 false 49 (pt b46 1) ?_
   refine qy 14 48 false 50 (.agg ⟨(Z70 (S.getD i Ze))⟩) ?_ (hr := fun _ H' => (Zi (vs := (Z70 (S.getD i Ze))) rfl (by kernel_rfl) (by kernel_rfl) (by exact Nat.le_of_ble_eq_true (by kernel_rfl)) (H'.at 3 rfl) (by kernel_rfl)))
   refine qy 14 48 false 51 (pt b6 0) ?_
   refine qy 14 48 false 52 (pt b6 0) ?_
   refine qy 14 48 false 53 (.agg ⟨(Z0u x.cl x.seq)⟩) ?_ (hr := fun _ H' => (Zi (vs := (Z0u x.cl x.seq)) rfl (by kernel_rfl) (by kernel_rfl) (by exact Nat.le_of_ble_eq_true (by kernel_rfl)) (H'.at 2 rfl) (by kernel_rfl)))
   refine qy 14 48 false 54 (.bool (!(decide (((S.getD i Ze).cl) = x.cl ∧ ((S.getD i Ze).seq) = x.seq)))) ?_ (hr := fun _ H' => (Z4p ((S.getD i Ze).cl) ((S.getD i Ze).seq) x.cl x.seq rfl rfl))
   refine qv 55 (.bool (!(decide (((S.getD i Ze).cl) = x.cl ∧ ((S.getD i Ze).seq) = x.seq)))) ?_
   refine qv 56 (.bool (!(decide (((S.getD i Ze).cl) = x.cl ∧ ((S.getD i Ze).seq) = x.seq)))) ?_
   refine (Zr (!(decide (((S.getD i Ze).cl) = x.cl ∧ ((S.getD i Ze).seq) = x.seq)))).elim (fun b68 => ?_) (fun b68 => ?_)
   ·have g69 := ZU b68
    refine Z0P 56 (.bool true) (congrArg Value.bool b68) ?_
    iterate 6 refine qn 22 56 false ?_
    refine qv 63 (.bool true) ?_
    refine qv 64 (.bool true) ?_
    iterate 5 refine qn 30 64 false ?_
    refine qv 70 (.bool true) ?_
    refine Z1a ?_
    intro w71 H72
    apply ztn
    refine Z0S rfl ?_
    apply zsl
    refine wv 6 (.bool false) ?_
    apply znt
    apply ZI
    apply Z0e
    apply ZG
    apply Z10
    apply Z0e
    apply ZG
    refine ze1 (.bool false) ?_
    have n73 := ZU b68
    have e1 : ((i : Int) - 1).toNat = i - 1 := by omega
    have ho : Z3d f L x S i = false := by unfold Z3d Z2h; rw [← e1]; simp only [b37, b53, b61, n73, Bool.not_true, Bool.not_false, Bool.true_or, Bool.false_or, Bool.or_true, Bool.or_false, Bool.and_true, Bool.true_and, Bool.and_false, Bool.false_and]
    exact ⟨by simp only [Z0m, Z24 (show i < S.length by omega) ho, Bool.and_false], H72.upd 0 rfl [] (fun _ h => h.elim)⟩
   have g74 := Zj b68
   refine Z0P 56 (.bool false) (congrArg Value.bool b68) ?_
   refine qy 22 56 false 57 (pt b46 3) ?_
   refine qy 22 56 false 58 (.agg ⟨(hc (S.getD i Ze).h)⟩) ?_ (hr := fun _ H' => (Zi (vs := (hc (S.getD i Ze).h)) rfl (by kernel_rfl) (by kernel_rfl) (by exact Nat.le_of_ble_eq_true (by kernel_rfl)) (H'.at 3 rfl) (by kernel_rfl)))
   refine qy 22 56 false 59 (pt b6 0) ?_
   refine qy 22 56 false 60 (pt b6 2) ?_
   refine qy 22 56 false 61 (.agg ⟨(hc x.h)⟩) ?_ (hr := fun _ H' => (Zi (vs := (hc x.h)) rfl (by kernel_rfl) (by kernel_rfl) (by exact Nat.le_of_ble_eq_true (by kernel_rfl)) (H'.at 2 rfl) (by kernel_rfl)))
   refine qy 22 56 false 62 (.bool (!(decide (((S.getD i Ze).h) = x.h)))) ?_ (hr := fun _ H' => (Z3O ((S.getD i Ze).h) x.h rfl rfl))
   refine qv 63 (.bool (!(decide (((S.getD i Ze).h) = x.h)))) ?_
   refine qv 64 (.bool (!(decide (((S.getD i Ze).h) = x.h)))) ?_
   refine (Zr (!(decide (((S.getD i Ze).h) = x.h)))).elim (fun b76 => ?_) (fun b76 => ?_)
   ·have g77 := ZU b76
    have g78 := of_decide_eq_false g77
    refine Z0P 64 (.bool true) (congrArg Value.bool b76) ?_
    iterate 5 refine qn 30 64 false ?_
    refine qv 70 (.bool true) ?_
    refine Z1a ?_
    intro w81 H82
    apply ztn
    refine Z0S rfl ?_
    apply zsl
    refine wv 6 (.bool false) ?_
    apply znt
    apply ZI
    apply Z0e
    apply ZG
    apply Z10
    apply Z0e
    apply ZG
    refine ze1 (.bool false) ?_
    have n83 := Zj b68
    have n84 := ZU b76
    have e1 : ((i : Int) - 1).toNat = i - 1 := by omega
    have ho : Z3d f L x S i = false := by unfold Z3d Z2h; rw [← e1]; simp only [b37, b53, b61, n83, n84, Bool.not_true, Bool.not_false, Bool.true_or, Bool.false_or, Bool.or_true, Bool.or_false, Bool.and_true, Bool.true_and, Bool.and_false, Bool.false_and]
    exact ⟨by simp only [Z0m, Z24 (show i < S.length by omega) ho, Bool.and_false], H82.upd 0 rfl [] (fun _ h => h.elim)⟩
   have g85 := Zj b76
   have g86 := of_decide_eq_true g85
   refine Z0P 64 (.bool false) (congrArg Value.bool b76) ?_
   refine qy 30 64 false 65 (.agg ⟨(Z0u f cn)⟩) ?_ (hr := fun _ H' => (Zi (vs := (Z0u f cn)) rfl (by kernel_rfl) (by kernel_rfl) (by exact Nat.le_of_ble_eq_true (by kernel_rfl)) (H'.at 1 rfl) (by kernel_rfl)))
   refine qy 30 64 false 66 (pt r 0) ?_
   refine qy 30 64 false 67 (.agg ⟨(Z2K (S.getD i Ze))⟩) ?_ (hr := fun _ H' => (Zi (vs := (Z2K (S.getD i Ze))) rfl (by kernel_rfl) (by kernel_rfl) (by exact Nat.le_of_ble_eq_true (by kernel_rfl)) (H'.at 3 rfl) (by kernel_rfl)))
   refine Z1R (ZD 30 64 false rfl (by kernel_rfl) rfl (by kernel_rfl)) (d := 68) (v := (.bool (Z0Z f L (S.getD i Ze)))) rfl (fun _ _ => by kernel_rfl) (fun w' H' => (Z5S w' f cn (by omega) r ra rc L (H'.roCk 0 rfl hb (fun _ _ h => h)) (H'.roCk 0 rfl hr (fun _ _ h => h)) hn hL (S.getD i Ze) (hok _ (by omega))).mono fun _ _ h => ⟨h.1, H'.keepU h.2⟩) ?_
   refine qy 30 64 false 69 (.bool (!(Z0Z f L (S.getD i Ze)))) ?_
   refine qv 70 (.bool (!(Z0Z f L (S.getD i Ze)))) ?_
   refine Z1a ?_
   intro w89 H90
   apply ztn
   refine (Zr (!(Z0Z f L (S.getD i Ze)))).elim (fun b91 => ?_) (fun b91 => ?_)
   ·have g92 := ZU b91
    refine Z1V _ b91 ?_
    apply zsl
    refine wv 6 (.bool false) ?_
    apply znt
    apply ZI
    apply Z0e
    apply ZG
    apply Z10
    apply Z0e
    apply ZG
    refine ze1 (.bool false) ?_
    have n94 := Zj b68
    have n95 := Zj b76
    have n96 := ZU b91
    have e1 : ((i : Int) - 1).toNat = i - 1 := by omega
    have ho : Z3d f L x S i = false := by unfold Z3d Z2h; rw [← e1]; simp only [b37, b53, b61, n94, n95, n96, Bool.not_true, Bool.not_false, Bool.true_or, Bool.false_or, Bool.or_true, Bool.or_false, Bool.and_true, Bool.true_and, Bool.and_false, Bool.false_and]
    exact ⟨by simp only [Z0m, Z24 (show i < S.length by omega) ho, Bool.and_false], H90.upd 0 rfl [] (fun _ h => h.elim)⟩
   have g97 := Zj b91
   refine Z1w _ b91 ?_
   apply ZW
   apply Zw
   apply ztn
   apply Zq
   refine zwi 71 ((i : Int) + 1) ?_
   refine wv 26 (.int .i64 ((i : Int) + 1)) ?_
   apply Zn
   have n99 := Zj b68
   have n100 := Zj b76
   have n101 := Zj b91
   have e1 : ((i : Int) - 1).toNat = i - 1 := by omega
   have ho : Z3d f L x S i = true := by unfold Z3d Z2h; rw [← e1]; simp only [b37, b53, b61, n99, n100, n101, Bool.not_true, Bool.not_false, Bool.true_or, Bool.false_or, Bool.or_true, Bool.or_false, Bool.and_true, Bool.true_and, Bool.and_false, Bool.false_and]
   have H102 := H90.pk [0, 1, 2]
   refine ZF ?_ _ ⟨(i + 1), rfl, (by omega), (fun j hj => by rcases Nat.lt_or_ge j i with h | h; exact hall j h; rw [show j = i by omega]; exact ho), H102, rfl⟩ (by omega)
   exact zs
  have g103 := of_decide_eq_false b53
  refine Z0P 36 (.bool false) (congrArg Value.bool b53) ?_
  iterate 10 refine qn 2 36 true ?_
  refine qv 47 (.bool false) ?_
  refine qv 48 (.bool false) ?_
  refine qy 14 48 false 49 (pt b46 1) ?_
  refine qy 14 48 false 50 (.agg ⟨(Z70 (S.getD i Ze))⟩) ?_ (hr := fun _ H' => (Zi (vs := (Z70 (S.getD i Ze))) rfl (by kernel_rfl) (by kernel_rfl) (by exact Nat.le_of_ble_eq_true (by kernel_rfl)) (H'.at 3 rfl) (by kernel_rfl)))
  refine qy 14 48 false 51 (pt b6 0) ?_
  refine qy 14 48 false 52 (pt b6 0) ?_
  refine qy 14 48 false 53 (.agg ⟨(Z0u x.cl x.seq)⟩) ?_ (hr := fun _ H' => (Zi (vs := (Z0u x.cl x.seq)) rfl (by kernel_rfl) (by kernel_rfl) (by exact Nat.le_of_ble_eq_true (by kernel_rfl)) (H'.at 2 rfl) (by kernel_rfl)))
  refine qy 14 48 false 54 (.bool (!(decide (((S.getD i Ze).cl) = x.cl ∧ ((S.getD i Ze).seq) = x.seq)))) ?_ (hr := fun _ H' => (Z4p ((S.getD i Ze).cl) ((S.getD i Ze).seq) x.cl x.seq rfl rfl))
  refine qv 55 (.bool (!(decide (((S.getD i Ze).cl) = x.cl ∧ ((S.getD i Ze).seq) = x.seq)))) ?_
  refine qv 56 (.bool (!(decide (((S.getD i Ze).cl) = x.cl ∧ ((S.getD i Ze).seq) = x.seq)))) ?_
  refine (Zr (!(decide (((S.getD i Ze).cl) = x.cl ∧ ((S.getD i Ze).seq) = x.seq)))).elim (fun b105 => ?_) (fun b105 => ?_)
  ·have g106 := ZU b105
   refine Z0P 56 (.bool true) (congrArg Value.bool b105) ?_
   iterate 6 refine qn 22 56 false ?_
   refine qv 63 (.bool true) ?_
   refine qv 64 (.bool true) ?_
   iterate 5 refine qn 30 64 false ?_
   refine qv 70 (.bool true) ?_
   refine Z1a ?_
   intro w108 H109
   apply ztn
   refine Z0S rfl ?_
   apply zsl
   refine wv 6 (.bool false) ?_
   apply znt
   apply ZI
   apply Z0e
   apply ZG
   apply Z10
   apply Z0e
   apply ZG
   refine ze1 (.bool false) ?_
   have n110 := ZU b105
   have e1 : ((i : Int) - 1).toNat = i - 1 := by omega
   have ho : Z3d f L x S i = false := by unfold Z3d Z2h; rw [← e1]; simp only [b37, b53, n110, Bool.not_true, Bool.not_false, Bool.true_or, Bool.false_or, Bool.or_true, Bool.or_false, Bool.and_true, Bool.true_and, Bool.and_false, Bool.false_and]
   exact ⟨by simp only [Z0m, Z24 (show i < S.length by omega) ho, Bool.and_false], H109.upd 0 rfl [] (fun _ h => h.elim)⟩
  have g111 := Zj b105
  refine Z0P 56 (.bool false) (congrArg Value.bool b105) ?_
  refine qy 22 56 false 57 (pt b46 3) ?_
  refine qy 22 56 false 58 (.agg ⟨(hc (S.getD i Ze).h)⟩) ?_ (hr := fun _ H' => (Zi (vs := (hc (S.getD i Ze).h)) rfl (by kernel_rfl) (by kernel_rfl) (by exact Nat.le_of_ble_eq_true (by kernel_rfl)) (H'.at 3 rfl) (by kernel_rfl)))
  refine qy 22 56 false 59 (pt b6 0) ?_
  refine qy 22 56 false 60 (pt b6 2) ?_
  refine qy 22 56 false 61 (.agg ⟨(hc x.h)⟩) ?_ (hr := fun _ H' => (Zi (vs := (hc x.h)) rfl (by kernel_rfl) (by kernel_rfl) (by exact Nat.le_of_ble_eq_true (by kernel_rfl)) (H'.at 2 rfl) (by kernel_rfl)))
  refine qy 22 56 false 62 (.bool (!(decide (((S.getD i Ze).h) = x.h)))) ?_ (hr := fun _ H' => (Z3O ((S.getD i Ze).h) x.h rfl rfl))
  refine qv 63 (.bool (!(decide (((S.getD i Ze).h) = x.h)))) ?_
  refine qv 64 (.bool (!(decide (((S.getD i Ze).h) = x.h)))) ?_
  refine (Zr (!(decide (((S.getD i Ze).h) = x.h)))).elim (fun b113 => ?_) (fun b113 => ?_)
  ·have g114 := ZU b113
   have g115 := of_decide_eq_false g114
   refine Z0P 64 (.bool true) (congrArg Value.bool b113) ?_
   iterate 5 refine qn 30 64 false ?_
   refine qv 70 (.bool true) ?_
   refine Z1a ?_
   intro w118 H119
   apply ztn
   refine Z0S rfl ?_
   apply zsl
   refine wv 6 (.bool false) ?_
   apply znt
   apply ZI
   apply Z0e
   apply ZG
   apply Z10
   apply Z0e
   apply ZG
   refine ze1 (.bool false) ?_
   have n120 := Zj b105
   have n121 := ZU b113
   have e1 : ((i : Int) - 1).toNat = i - 1 := by omega
   have ho : Z3d f L x S i = false := by unfold Z3d Z2h; rw [← e1]; simp only [b37, b53, n120, n121, Bool.not_true, Bool.not_false, Bool.true_or, Bool.false_or, Bool.or_true, Bool.or_false, Bool.and_true, Bool.true_and, Bool.and_false, Bool.false_and]
   exact ⟨by simp only [Z0m, Z24 (show i < S.length by omega) ho, Bool.and_false], H119.upd 0 rfl [] (fun _ h => h.elim)⟩
  have g122 := Zj b113
  have g123 := of_decide_eq_true g122
  refine Z0P 64 (.bool false) (congrArg Value.bool b113) ?_
  refine qy 30 64 false 65 (.agg ⟨(Z0u f cn)⟩) ?_ (hr := fun _ H' => (Zi (vs := (Z0u f cn)) rfl (by kernel_rfl) (by kernel_rfl) (by exact Nat.le_of_ble_eq_true (by kernel_rfl)) (H'.at 1 rfl) (by kernel_rfl)))
  refine qy 30 64 false 66 (pt r 0) ?_
  refine qy 30 64 false 67 (.agg ⟨(Z2K (S.getD i Ze))⟩) ?_ (hr := fun _ H' => (Zi (vs := (Z2K (S.getD i Ze))) rfl (by kernel_rfl) (by kernel_rfl) (by exact Nat.le_of_ble_eq_true (by kernel_rfl)) (H'.at 3 rfl) (by kernel_rfl)))
  refine Z1R (ZD 30 64 false rfl (by kernel_rfl) rfl (by kernel_rfl)) (d := 68) (v := (.bool (Z0Z f L (S.getD i Ze)))) rfl (fun _ _ => by kernel_rfl) (fun w' H' => (Z5S w' f cn (by omega) r ra rc L (H'.roCk 0 rfl hb (fun _ _ h => h)) (H'.roCk 0 rfl hr (fun _ _ h => h)) hn hL (S.getD i Ze) (hok _ (by omega))).mono fun _ _ h => ⟨h.1, H'.keepU h.2⟩) ?_
  refine qy 30 64 false 69 (.bool (!(Z0Z f L (S.getD i Ze)))) ?_
  refine qv 70 (.bool (!(Z0Z f L (S.getD i Ze)))) ?_
  refine Z1a ?_
  intro w126 H127
  apply ztn
  refine (Zr (!(Z0Z f L (S.getD i Ze)))).elim (fun b128 => ?_) (fun b128 => ?_)
  ·have g129 := ZU b128
   refine Z1V _ b128 ?_
   apply zsl
   refine wv 6 (.bool false) ?_
   apply znt
   apply ZI
   apply Z0e
   apply ZG
   apply Z10
   apply Z0e
   apply ZG
   refine ze1 (.bool false) ?_
   have n131 := Zj b105
   have n132 := Zj b113
   have n133 := ZU b128
   have e1 : ((i : Int) - 1).toNat = i - 1 := by omega
   have ho : Z3d f L x S i = false := by unfold Z3d Z2h; rw [← e1]; simp only [b37, b53, n131, n132, n133, Bool.not_true, Bool.not_false, Bool.true_or, Bool.false_or, Bool.or_true, Bool.or_false, Bool.and_true, Bool.true_and, Bool.and_false, Bool.false_and]
   exact ⟨by simp only [Z0m, Z24 (show i < S.length by omega) ho, Bool.and_false], H127.upd 0 rfl [] (fun _ h => h.elim)⟩
  have g134 := Zj b128
  refine Z1w _ b128 ?_
  apply ZW
  apply Zw
  apply ztn
  apply Zq
  refine zwi 71 ((i : Int) + 1) ?_
  refine wv 26 (.int .i64 ((i : Int) + 1)) ?_
  apply Zn
  have n136 := Zj b105
  have n137 := Zj b113
  have n138 := Zj b128
  have e1 : ((i : Int) - 1).toNat = i - 1 := by omega
  have ho : Z3d f L x S i = true := by unfold Z3d Z2h; rw [← e1]; simp only [b37, b53, n136, n137, n138, Bool.not_true, Bool.not_false, Bool.true_or, Bool.false_or, Bool.or_true, Bool.or_false, Bool.and_true, Bool.true_and, Bool.and_false, Bool.false_and]
  have H139 := H127.pk [0, 1, 2]
  refine ZF ?_ _ ⟨(i + 1), rfl, (by omega), (fun j hj => by rcases Nat.lt_or_ge j i with h | h; exact hall j h; rw [show j = i by omega]; exact ho), H139, rfl⟩ (by omega)
  exact zs
 have g140 := of_decide_eq_false b37
 refine Z1w _ b37 ?_
 apply zxb
 apply ztn
 apply zsl
 refine wv 6 (.bool true) ?_
 apply znt
 apply ZI
 refine ze1 (.bool true) ?_
 have hn0 : i = S.length := by omega
 subst hn0
 exact ⟨by simp only [Z0m, Z6P hall, n30, n31, Bool.not_true, Bool.not_false, Bool.true_or, Bool.false_or, Bool.or_true, Bool.or_false, Bool.and_true, Bool.true_and, Bool.and_false, Bool.false_and], H34.upd 0 rfl [] (fun _ h => h.elim)⟩
end Go.Proofs.YtoaifondpohniaaGreat
