/- WHAT IS PROVED: contracts and plain laws of Rg2t. Conditions: stated with each. -/
import Derived.Test.YtoaifondpohniaaGreatPR04
import Derived.Test.YtoaifondpohniaaGreatPR11
import Derived.Test.YtoaifondpohniaaGreatPR13
import Derived.Test.YtoaifondpohniaaGreatPR15
import Derived.Test.YtoaifondpohniaaGreatPR16
import Derived.Test.YtoaifondpohniaaGreatPR20
set_option maxHeartbeats 4000000
set_option maxRecDepth 100000
namespace Go.Proofs.YtoaifondpohniaaGreat
open Go.RowKit
abbrev Z0s (p0 : Int) (p1 : Int) : List Value := ([(.int .i64 p0), (.int .i64 p1)] : List Value)
abbrev Z2M (p0 : Zg) : List Value := ([(.int .i64 p0.cl), (.int .i64 p0.seq)] : List Value) ++ hc p0.h ++ ([(.int .i64 p0.len), (.int .i64 p0.sb), (.int .i64 p0.sm)] : List Value)
abbrev Z2t (p0 : Z5) : List Value := ([(.int .i64 p0.r), (.int .i64 p0.cl), (.int .i64 p0.seq)] : List Value) ++ hc p0.h ++ ([(.int .u64 p0.t), (.int .i64 p0.sb), (.int .i64 p0.sm)] : List Value)
abbrev Zae (p0 : Zg) (p1 : Option Addr) (p2 : Nat) (p3 : Nat) : List Value := ([(.int .i64 p0.cl), (.int .i64 p0.seq)] : List Value) ++ hc p0.h ++ ([(.int .i64 p0.len), (.int .i64 p0.sb), (.int .i64 p0.sm), (.slice p1 p2 p3)] : List Value)
abbrev Zcm : List Value := ([(.int .i64 (0)), (.int .i64 (0)), (.int .i64 (0))] : List Value) ++ hc Z0d ++ ([(.int .u64 (0)), (.int .i64 (0)), (.int .i64 (0))] : List Value)
abbrev Z6O (p0 : Z5) : List Value := ([(.int .i64 p0.cl), (.int .i64 p0.seq)] : List Value)
theorem Z3e (w : World) (r : Nat) (ra : Option Addr) (rc : Nat) (L : List Signed) (hb : (Z0 r 98 [.slice ra L.length rc]).ok w) (hr : (ZH 114 2 (.slice ra L.length rc) L.length (L.flatMap Z43)).ok w) (hn : L.Nodup) (hL : L.length ≤ 1000000) (ta : Option Addr) (tc : Nat) (tx : List UInt8) (ht : ListAt ZN 1 w (.slice ta tx.length tc) tx) (p m : Int) :
  Calls Tryz.prog 52 #[(.pointer (some ⟨r, 0, none⟩)), (.agg ⟨([(.int .i64 (p)), (.int .i64 (m))] : List Value)⟩), (.slice ta tx.length tc)] w fun e w' => e = .returned (.bool (Z0p L p m tx)) ∧ Upd [] w w' := by
 have H := Sat.start0 w
 refine Zp Tryz.func52 rfl 50 rfl (Nat.le_of_ble_eq_true rfl) ?_
 apply zsl
 refine zwd fun Kq kq => ?_
 refine zdb (Z0s p m) H ?_
 intro b2 w3 H4
 refine kq _ _ ?_
 clear kq Kq
 refine wv 6 (.bool false) ?_
 apply znt
 apply Zt
 refine zqs H4 ?_
 refine qv 7 (pt b2 1) ?_
 refine qv 8 (.int .i64 (m)) ?_ (hr := fun _ H' => (Z2 rfl (by kernel_rfl) (H'.cell 1 rfl rfl)))
 refine qv 9 (.bool (decide (m ≥ 1))) ?_
 refine qv 10 (.bool (decide (m ≥ 1))) ?_
 refine (Zl (decide (m ≥ 1))).elim (fun b5 => ?_) (fun b5 => ?_)
 ·have g6 := of_decide_eq_true b5
  refine Z0k 10 (.bool true) (congrArg Value.bool b5) ?_
  refine qy 3 10 true 11 (pt b2 1) ?_
  refine qy 3 10 true 12 (.int .i64 (m)) ?_ (hr := fun _ H' => (Z2 rfl (by kernel_rfl) (H'.cell 1 rfl rfl)))
  refine qy 3 10 true 13 (pt r 0) ?_
  refine qy 3 10 true 14 (pt r 0) ?_
  refine qy 3 10 true 15 (pt r 0) ?_
  refine qy 3 10 true 16 (.slice ra L.length rc) ?_ (hr := fun _ H' => (Z2 rfl (by kernel_rfl) (H'.roCell 0 rfl hb (fun h => h) rfl)))
  refine Z8q (Z01 3 10 true rfl (by kernel_rfl) rfl (by kernel_rfl)) (d := 17) (v := (.int .i64 ((L.length : Int)))) rfl (fun _ H' => (by kernel_rfl)) ?_
  refine qy 3 10 true 18 (.bool (decide (m ≤ (L.length : Int)))) ?_
  refine qv 19 (.bool (decide (m ≤ (L.length : Int)))) ?_
  refine qv 20 (.bool (decide (m ≤ (L.length : Int)))) ?_
  refine (Zl (decide (m ≤ (L.length : Int)))).elim (fun b8 => ?_) (fun b8 => ?_)
  ·have g9 := of_decide_eq_true b8
   refine Z0k 20 (.bool true) (congrArg Value.bool b8) ?_
   refine qy 13 20 true 21 (pt r 0) ?_
   refine qy 13 20 true 22 (pt r 0) ?_
   refine qy 13 20 true 23 (pt r 0) ?_
   refine qy 13 20 true 24 (.slice ra L.length rc) ?_ (hr := fun _ H' => (Z2 rfl (by kernel_rfl) (H'.roCell 0 rfl hb (fun h => h) rfl)))
   refine qy 13 20 true 25 (pt b2 1) ?_
   refine qy 13 20 true 26 (.int .i64 (m)) ?_ (hr := fun _ H' => (Z2 rfl (by kernel_rfl) (H'.cell 1 rfl rfl)))
   refine qy 13 20 true 27 (.int .i64 (m - 1)) ?_ (hr := fun _ H' => (Z0I (z := m - 1) (by kernel_rfl) (IntWalk.i64_in _ (by omega))))
   obtain ⟨g11, c12, e13⟩ := Z1n hr (by omega)
   obtain ⟨x14, h15⟩ := Z2j (show (m - 1).toNat < L.length by omega)
   refine qy 13 20 true 28 (.pointer (some ⟨g11, 0 + (m - 1).toNat * 2, none⟩)) ?_ (hr := fun _ H' => (Z0t (E := 114) (by kernel_rfl) (by kernel_rfl) (Nat.le_of_ble_eq_true rfl) rfl e13 rfl (by omega) (by omega)))
   refine qy 13 20 true 29 (.pointer (some ⟨g11, 0 + (m - 1).toNat * 2, none⟩)) ?_
   refine qy 13 20 true 30 (.int .i64 (x14.p)) ?_ (hr := fun _ H' => (Z2 rfl (by kernel_rfl) (Z2f (H'.roCk 0 rfl hr (fun _ _ h => h)) e13 Z5g h15 0 rfl (show 0 + (m - 1).toNat * 2 = (m - 1).toNat * 2 + 0 by omega) (by kernel_rfl))))
   refine qy 13 20 true 31 (pt b2 0) ?_
   refine qy 13 20 true 32 (.int .i64 (p)) ?_ (hr := fun _ H' => (Z2 rfl (by kernel_rfl) (H'.cell 1 rfl rfl)))
   refine qy 13 20 true 33 (.bool (decide (x14.p = p))) ?_
   refine qv 34 (.bool (decide (x14.p = p))) ?_
   refine qv 35 (.bool (decide (x14.p = p))) ?_
   refine (Zl (decide (x14.p = p))).elim (fun b16 => ?_) (fun b16 => ?_)
   ·have g17 := of_decide_eq_true b16
    refine Z0k 35 (.bool true) (congrArg Value.bool b16) ?_
    refine qy 28 35 true 36 (pt r 0) ?_
    refine qy 28 35 true 37 (pt r 0) ?_
    refine qy 28 35 true 38 (pt r 0) ?_
    refine qy 28 35 true 39 (.slice ra L.length rc) ?_ (hr := fun _ H' => (Z2 rfl (by kernel_rfl) (H'.roCell 0 rfl hb (fun h => h) rfl)))
    refine qy 28 35 true 40 (pt b2 1) ?_
    refine qy 28 35 true 41 (.int .i64 (m)) ?_ (hr := fun _ H' => (Z2 rfl (by kernel_rfl) (H'.cell 1 rfl rfl)))
    refine qy 28 35 true 42 (.int .i64 (m - 1)) ?_ (hr := fun _ H' => (Z0I (z := m - 1) (by kernel_rfl) (IntWalk.i64_in _ (by omega))))
    refine qy 28 35 true 43 (.pointer (some ⟨g11, 0 + (m - 1).toNat * 2, none⟩)) ?_ (hr := fun _ H' => (Z0t (E := 114) (by kernel_rfl) (by kernel_rfl) (Nat.le_of_ble_eq_true rfl) rfl e13 rfl (by omega) (by omega)))
    refine qy 28 35 true 44 (.pointer (some ⟨g11, 0 + (m - 1).toNat * 2 + 1, none⟩)) ?_
    refine qy 28 35 true 45 (Z2O x14.s) ?_ (hr := fun _ H' => (Z2 rfl (by kernel_rfl) (Z2f (H'.roCk 0 rfl hr (fun _ _ h => h)) e13 Z5g h15 1 rfl (show 0 + (m - 1).toNat * 2 + 1 = (m - 1).toNat * 2 + 1 by omega) (by kernel_rfl))))
    refine qy 28 35 true 46 (.slice ta tx.length tc) ?_
    refine qy 28 35 true 47 (Z2O tx) ?_ (hr := fun _ H' => (Z21 (e := 5) (s := tx) (by kernel_rfl) (by kernel_rfl) (by kernel_rfl) rfl (Z25 (ListAt.now H' 0 rfl ht))))
    refine qy 28 35 true 48 (.bool (decide (x14.s = tx))) ?_ (hr := fun _ H' => (Z9U x14.s tx rfl rfl))
    refine qv 49 (.bool (decide (x14.s = tx))) ?_
    refine qv 6 (.bool (decide (x14.s = tx))) ?_
    refine Z0S ?_
    intro w19 H20
    apply ztn
    apply ZA
    refine ze1 (.bool (decide (x14.s = tx))) ?_
    have hb : Z0p L p m tx = (decide (x14.s = tx)) := by
      rw [Bool.eq_iff_iff, Z4x hn, decide_eq_true_eq]
      have hp := of_decide_eq_true b16
      constructor
      ·rintro ⟨i, h1, h2⟩
       have h3 := h15
       rw [show (m - 1).toNat = i by omega, h1] at h3
       cases h3; rfl
      intro h
      exact ⟨(m - 1).toNat, by rw [h15, ← hp, ← h], by omega⟩
    exact ⟨by rw [hb], H20.upd 0 rfl [] (fun _ h => h.elim)⟩
   have g21 := of_decide_eq_false b16
   refine Z0k 35 (.bool false) (congrArg Value.bool b16) ?_
   iterate 13 refine qn 28 35 true ?_
   refine qv 49 (.bool false) ?_
   refine qv 6 (.bool false) ?_
   refine Z0S ?_
   intro w23 H24
   apply ztn
   apply ZA
   refine ze1 (.bool false) ?_
   have hb : Z0p L p m tx = false := Bool.eq_false_iff.2 fun h => by
     obtain ⟨i, h1, h2⟩ := (Z4x hn).1 h
     have h3 := h15
     rw [show (m - 1).toNat = i by omega, h1] at h3
     cases h3
     exact absurd rfl (of_decide_eq_false b16)
   exact ⟨by rw [hb], H24.upd 0 rfl [] (fun _ h => h.elim)⟩
  have g25 := of_decide_eq_false b8
  refine Z0k 20 (.bool false) (congrArg Value.bool b8) ?_
  iterate 13 refine qn 13 20 true ?_
  refine qv 34 (.bool false) ?_
  refine qv 35 (.bool false) ?_
  iterate 13 refine qn 28 35 true ?_
  refine qv 49 (.bool false) ?_
  refine qv 6 (.bool false) ?_
  refine Z0S ?_
  intro w27 H28
  apply ztn
  apply ZA
  refine ze1 (.bool false) ?_
  have hb : Z0p L p m tx = false := Bool.eq_false_iff.2 fun h => by
    obtain ⟨i, h1, h2⟩ := (Z4x hn).1 h
    have h3 := (List.getElem?_eq_some_iff.1 h1).1
    omega
  exact ⟨by rw [hb], H28.upd 0 rfl [] (fun _ h => h.elim)⟩
 have g29 := of_decide_eq_false b5
 refine Z0k 10 (.bool false) (congrArg Value.bool b5) ?_
 iterate 8 refine qn 3 10 true ?_
 refine qv 19 (.bool false) ?_
 refine qv 20 (.bool false) ?_
 iterate 13 refine qn 13 20 true ?_
 refine qv 34 (.bool false) ?_
 refine qv 35 (.bool false) ?_
 iterate 13 refine qn 28 35 true ?_
 refine qv 49 (.bool false) ?_
 refine qv 6 (.bool false) ?_
 refine Z0S ?_
 intro w31 H32
 apply ztn
 apply ZA
 refine ze1 (.bool false) ?_
 have hb : Z0p L p m tx = false := Bool.eq_false_iff.2 fun h => by
   obtain ⟨i, h1, h2⟩ := (Z4x hn).1 h
   have h3 := (List.getElem?_eq_some_iff.1 h1).1
   omega
 exact ⟨by rw [hb], H32.upd 0 rfl [] (fun _ h => h.elim)⟩
theorem Z9s (w : World) (f cn : Int) (x : Zg) :
  Calls Tryz.prog 104 #[(.agg ⟨([(.int .i64 (f)), (.int .i64 (cn))] : List Value)⟩), (.agg ⟨(([(.int .i64 (x.cl)), (.int .i64 (x.seq))] : List Value) ++ hc x.h ++ ([(.int .i64 (x.len)), (.int .i64 (x.sb)), (.int .i64 (x.sm))] : List Value))⟩)] w fun e w' => e = .returned (.bool (Z0O cn x)) ∧ Upd [] w w' := by
 have H := Sat.start0 w
 refine Zp Tryz.func104 rfl 39 rfl (Nat.le_of_ble_eq_true rfl) ?_
 apply zsl
 refine zwd fun Kq kq => ?_
 refine zdb (Z0s f cn) H ?_
 intro b2 w3 H4
 refine kq _ _ ?_
 clear kq Kq
 refine zwd fun Kq kq => ?_
 refine zdb (Z2M x) H4 ?_
 intro b6 w7 H8
 refine kq _ _ ?_
 clear kq Kq
 refine wv 4 (.bool false) ?_
 apply znt
 refine Z0X (List.range' 4 35) (fun G_ W_ => G_ 4 = (.bool (Z0O cn x)) ∧ Sat w [Z6 w (fun _ => False), Z0 b2 36 (Z0s f cn), Z0 b6 50 (Z2M x)] W_) ?_ ?_
 ·apply ZU
  refine wv 5 (pt b6 0) ?_
  refine wv 6 (pt b6 0) ?_
  refine zw1 7 (.int .i64 (x.cl)) (H8.cell 2 rfl (by kernel_rfl)) ?_
  refine wv 8 (.bool (decide (x.cl ≥ 0))) ?_
  refine wv 9 (.bool (decide (x.cl ≥ 0))) ?_
  refine (Zl (decide (x.cl ≥ 0))).elim (fun b10 => ?_) (fun b10 => ?_)
  ·have g11 := of_decide_eq_true b10
   refine ZI 9 (.bool true) (congrArg Value.bool b10) ?_
   refine wy 4 9 true 10 (pt b6 0) ?_
   refine wy 4 9 true 11 (pt b6 0) ?_
   refine wy 4 9 true 12 (.int .i64 (x.cl)) ?_ (hr := Z2 rfl (by kernel_rfl) (H8.cell 2 rfl (by kernel_rfl)))
   refine wy 4 9 true 13 (pt b2 1) ?_
   refine wy 4 9 true 14 (.int .i64 (cn)) ?_ (hr := Z2 rfl (by kernel_rfl) (H8.cell 1 rfl rfl))
   refine wy 4 9 true 15 (.bool (decide (x.cl < cn))) ?_
   refine wv 16 (.bool (decide (x.cl < cn))) ?_
   refine wv 17 (.bool (decide (x.cl < cn))) ?_
   refine (Zl (decide (x.cl < cn))).elim (fun b12 => ?_) (fun b12 => ?_)
   ·have g13 := of_decide_eq_true b12
    refine ZI 17 (.bool true) (congrArg Value.bool b12) ?_
    refine wy 12 17 true 18 (pt b6 0) ?_
    refine wy 12 17 true 19 (pt b6 1) ?_
    refine wy 12 17 true 20 (.int .i64 (x.seq)) ?_ (hr := Z2 rfl (by kernel_rfl) (H8.cell 2 rfl (by kernel_rfl)))
    refine wy 12 17 true 21 (.bool (decide (x.seq ≥ 1))) ?_
    refine wv 22 (.bool (decide (x.seq ≥ 1))) ?_
    refine wv 23 (.bool (decide (x.seq ≥ 1))) ?_
    refine (Zl (decide (x.seq ≥ 1))).elim (fun b14 => ?_) (fun b14 => ?_)
    ·have g15 := of_decide_eq_true b14
     refine ZI 23 (.bool true) (congrArg Value.bool b14) ?_
     refine wy 18 23 true 24 (pt b6 0) ?_
     refine wy 18 23 true 25 (pt b6 1) ?_
     refine wy 18 23 true 26 (.int .i64 (x.seq)) ?_ (hr := Z2 rfl (by kernel_rfl) (H8.cell 2 rfl (by kernel_rfl)))
     refine wy 18 23 true 27 (.bool (decide (x.seq ≤ 1048576))) ?_
     refine wv 28 (.bool (decide (x.seq ≤ 1048576))) ?_
     refine wv 29 (.bool (decide (x.seq ≤ 1048576))) ?_
     refine (Zl (decide (x.seq ≤ 1048576))).elim (fun b16 => ?_) (fun b16 => ?_)
     ·have g17 := of_decide_eq_true b16
      refine ZI 29 (.bool true) (congrArg Value.bool b16) ?_
      refine wy 24 29 true 30 (pt b6 34) ?_
      refine wy 24 29 true 31 (.int .i64 (x.len)) ?_ (hr := Z2 rfl (by kernel_rfl) (H8.cell 2 rfl (by kernel_rfl)))
      refine wy 24 29 true 32 (.bool (decide (x.len ≥ 0))) ?_
      refine wv 33 (.bool (decide (x.len ≥ 0))) ?_
      refine wv 34 (.bool (decide (x.len ≥ 0))) ?_
      refine (Zl (decide (x.len ≥ 0))).elim (fun b18 => ?_) (fun b18 => ?_)
      ·have g19 := of_decide_eq_true b18
       refine ZI 34 (.bool true) (congrArg Value.bool b18) ?_
       refine wy 29 34 true 35 (pt b6 34) ?_
       refine wy 29 34 true 36 (.int .i64 (x.len)) ?_ (hr := Z2 rfl (by kernel_rfl) (H8.cell 2 rfl (by kernel_rfl)))
       refine wy 29 34 true 37 (.bool (decide (x.len ≤ 256))) ?_
       refine wv 38 (.bool (decide (x.len ≤ 256))) ?_
       refine wv 4 (.bool (decide (x.len ≤ 256))) ?_
       apply ZQ
       refine ZJ ?_ ⟨(congrArg Value.bool (show (decide (x.len ≤ 256)) = (Z0O cn x) by simp [Z0O, b10, b12, b14, b16, b18])), H8⟩
       exact zs
      have g20 := of_decide_eq_false b18
      refine ZI 34 (.bool false) (congrArg Value.bool b18) ?_
      iterate 3 refine wn 29 34 true ?_
      refine wv 38 (.bool false) ?_
      refine wv 4 (.bool false) ?_
      apply ZQ
      refine ZJ ?_ ⟨(congrArg Value.bool (show false = (Z0O cn x) by simp [Z0O, b10, b12, b14, b16, b18])), H8⟩
      exact zs
     have g21 := of_decide_eq_false b16
     refine ZI 29 (.bool false) (congrArg Value.bool b16) ?_
     iterate 3 refine wn 24 29 true ?_
     refine wv 33 (.bool false) ?_
     refine wv 34 (.bool false) ?_
     iterate 3 refine wn 29 34 true ?_
     refine wv 38 (.bool false) ?_
     refine wv 4 (.bool false) ?_
     apply ZQ
     refine ZJ ?_ ⟨(congrArg Value.bool (show false = (Z0O cn x) by simp [Z0O, b10, b12, b14, b16])), H8⟩
     exact zs
    have g21 := of_decide_eq_false b14
    refine ZI 23 (.bool false) (congrArg Value.bool b14) ?_
    iterate 4 refine wn 18 23 true ?_
    refine wv 28 (.bool false) ?_
    refine wv 29 (.bool false) ?_
    iterate 3 refine wn 24 29 true ?_
    refine wv 33 (.bool false) ?_
    refine wv 34 (.bool false) ?_
    iterate 3 refine wn 29 34 true ?_
    refine wv 38 (.bool false) ?_
    refine wv 4 (.bool false) ?_
    apply ZQ
    refine ZJ ?_ ⟨(congrArg Value.bool (show false = (Z0O cn x) by simp [Z0O, b10, b12, b14])), H8⟩
    exact zs
   have g23 := of_decide_eq_false b12
   refine ZI 17 (.bool false) (congrArg Value.bool b12) ?_
   iterate 4 refine wn 12 17 true ?_
   refine wv 22 (.bool false) ?_
   refine wv 23 (.bool false) ?_
   iterate 4 refine wn 18 23 true ?_
   refine wv 28 (.bool false) ?_
   refine wv 29 (.bool false) ?_
   iterate 3 refine wn 24 29 true ?_
   refine wv 33 (.bool false) ?_
   refine wv 34 (.bool false) ?_
   iterate 3 refine wn 29 34 true ?_
   refine wv 38 (.bool false) ?_
   refine wv 4 (.bool false) ?_
   apply ZQ
   refine ZJ ?_ ⟨(congrArg Value.bool (show false = (Z0O cn x) by simp [Z0O, b10, b12])), H8⟩
   exact zs
  have g24 := of_decide_eq_false b10
  refine ZI 9 (.bool false) (congrArg Value.bool b10) ?_
  iterate 6 refine wn 4 9 true ?_
  refine wv 16 (.bool false) ?_
  refine wv 17 (.bool false) ?_
  iterate 4 refine wn 12 17 true ?_
  refine wv 22 (.bool false) ?_
  refine wv 23 (.bool false) ?_
  iterate 4 refine wn 18 23 true ?_
  refine wv 28 (.bool false) ?_
  refine wv 29 (.bool false) ?_
  iterate 3 refine wn 24 29 true ?_
  refine wv 33 (.bool false) ?_
  refine wv 34 (.bool false) ?_
  iterate 3 refine wn 29 34 true ?_
  refine wv 38 (.bool false) ?_
  refine wv 4 (.bool false) ?_
  apply ZQ
  refine ZJ ?_ ⟨(congrArg Value.bool (show false = (Z0O cn x) by simp [Z0O, b10])), H8⟩
  exact zs
 rintro f25 w26 ⟨v28, H27⟩
 refine ZF 4 _ v28 ?_
 apply ZA
 refine ze1 (.bool (Z0O cn x)) ?_
 exact ⟨rfl, H27.upd 0 rfl [] (fun _ h => h.elim)⟩
theorem Z8r (w : World) (f cn : Int) (hf : -1099511627776 ≤ f ∧ f ≤ 1099511627776) (r : Nat) (ra : Option Addr) (rc : Nat) (L : List Signed) (hb : (Z0 r 98 [.slice ra L.length rc]).ok w) (hr : (ZH 114 2 (.slice ra L.length rc) L.length (L.flatMap Z43)).ok w) (hn : L.Nodup) (hL : L.length ≤ 1000000) (s : Zg) (hs : ZbL s) :
  Calls Tryz.prog 74 #[(.agg ⟨([(.int .i64 (f)), (.int .i64 (cn))] : List Value)⟩), (.pointer (some ⟨r, 0, none⟩)), (.agg ⟨(([(.int .i64 (s.cl)), (.int .i64 (s.seq))] : List Value) ++ hc s.h ++ ([(.int .i64 (s.len)), (.int .i64 (s.sb)), (.int .i64 (s.sm))] : List Value))⟩)] w fun e w' => e = .returned (.bool (Z2e cn L s)) ∧ Upd [] w w' := by
 have H := Sat.start0 w
 have hs2 := hs
 unfold ZbL at hs2
 refine Zp Tryz.func74 rfl 28 rfl (Nat.le_of_ble_eq_true rfl) ?_
 apply zsl
 refine zwd fun Kq kq => ?_
 refine zdb (Z0s f cn) H ?_
 intro b2 w3 H4
 refine kq _ _ ?_
 clear kq Kq
 refine zwd fun Kq kq => ?_
 refine zdb (Z2M s) H4 ?_
 intro b6 w7 H8
 refine kq _ _ ?_
 clear kq Kq
 refine wv 6 (.bool false) ?_
 apply znt
 apply Zt
 refine Z00 H8 [Z6 w (fun _ => False), Z0 b2 36 (Z0s f cn), Z0 b6 50 (Z2M s)] 22 rfl (by kernel_rfl) (fun Hx => (Hx.pk [0, 1, 2])) ?_
 intro w9 H10 S11
 refine hv0 0 S11 7 (.agg ⟨(Z0s f cn)⟩) ?_ (he := fun _ H' => (Zc (vs := (Z0s f cn)) rfl (by kernel_rfl) (by kernel_rfl) (by exact Nat.le_of_ble_eq_true (by kernel_rfl)) (H'.at 1 rfl) (by kernel_rfl)))
 refine hv0 1 S11 8 (.agg ⟨(Z2M s)⟩) ?_ (he := fun _ H' => (Zc (vs := (Z2M s)) rfl (by kernel_rfl) (by kernel_rfl) (by exact Nat.le_of_ble_eq_true (by kernel_rfl)) (H'.at 2 rfl) (by kernel_rfl)))
 refine Z09 2 fun Kq kq => ?_
 refine zdq 9 (Z9s w9 f cn s) H10 ?_
 intro w13 H14
 have S16 := H14.pk [0, 1, 2]
 refine kq _ _ S16 ?_
 clear kq Kq
 refine hv0 3 S16 10 (.bool (Z0O cn s)) ?_
 refine (Zl (Z0O cn s)).elim (fun b17 => ?_) (fun b17 => ?_)
 ·refine Z0j 10 (.bool true) (congrArg Value.bool b17) ?_
  refine Z0N 4 S16 3 10 true 11 (pt b6 35) ?_
  refine Z0N 5 S16 3 10 true 12 (pt b6 35) ?_
  refine Z0N 6 S16 3 10 true 13 (.int .i64 (s.sb)) ?_ (he := fun _ H' => (Z2 rfl (by kernel_rfl) (H'.cell 2 rfl (by kernel_rfl))))
  refine Z0N 7 S16 3 10 true 14 (pt b6 0) ?_
  refine Z0N 8 S16 3 10 true 15 (pt b6 0) ?_
  refine Z0N 9 S16 3 10 true 16 (.int .i64 (s.cl)) ?_ (he := fun _ H' => (Z2 rfl (by kernel_rfl) (H'.cell 2 rfl (by kernel_rfl))))
  refine Z0N 10 S16 3 10 true 17 (.int .i64 (IntKind.i64.wrap (1000 + s.cl))) ?_
  refine Z0N 11 S16 3 10 true 18 (.bool (decide (s.sb = (IntKind.i64.wrap (1000 + s.cl))))) ?_
  refine hv0 12 S16 19 (.bool (decide (s.sb = (IntKind.i64.wrap (1000 + s.cl))))) ?_
  refine hv0 13 S16 20 (.bool (decide (s.sb = (IntKind.i64.wrap (1000 + s.cl))))) ?_
  refine (Zl (decide (s.sb = (IntKind.i64.wrap (1000 + s.cl))))).elim (fun b18 => ?_) (fun b18 => ?_)
  ·have g19 := of_decide_eq_true b18
   refine Z0j 20 (.bool true) (congrArg Value.bool b18) ?_
   refine Z0N 14 S16 13 20 true 21 (pt r 0) ?_
   refine Z0N 15 S16 13 20 true 22 (pt b6 35) ?_
   refine Z0N 16 S16 13 20 true 23 (.agg ⟨(Z0s s.sb s.sm)⟩) ?_ (he := fun _ H' => (Zc (vs := (Z0s s.sb s.sm)) rfl (by kernel_rfl) (by kernel_rfl) (by exact Nat.le_of_ble_eq_true (by kernel_rfl)) (H'.at 2 rfl) (by kernel_rfl)))
   refine Z0N 17 S16 13 20 true 24 (.agg ⟨(Z2M s)⟩) ?_ (he := fun _ H' => (Zc (vs := (Z2M s)) rfl (by kernel_rfl) (by kernel_rfl) (by exact Nat.le_of_ble_eq_true (by kernel_rfl)) (H'.at 2 rfl) (by kernel_rfl)))
   refine Z5v 18 rfl (by kernel_rfl) (Z01 13 20 true rfl (by kernel_rfl) rfl (by kernel_rfl)) (fun Kq kq => ?_)
   refine zdc 25 (Z1Y w13 s hs) ?_
   rintro _ w22 ⟨u23, rfl, k24, p25, q26⟩
   have H27 := H14.addU p25 k24 q26
   obtain ⟨a28, c29, rfl⟩ := Z1 (H27.at 3 rfl)
   refine ⟨_, rfl, ?_⟩
   have S30 := H27.pk [0, 1, 2]
   refine kq _ _ S30 ?_
   clear kq Kq
   refine Z5v 19 rfl (by kernel_rfl) (Z01 13 20 true rfl (by kernel_rfl) rfl (by kernel_rfl)) (fun Kq kq => ?_)
   refine zdq 26 (Z3e w22 r ra rc L (H27.roCk 0 rfl hb (fun _ _ h => h)) (H27.roCk 0 rfl hr (fun _ _ h => h)) hn hL a28 c29 (Zv s) (ListAt.row (enc := ZN) (sz := 1) ZE (by decide) (H27.at 3 rfl)) s.sb s.sm) H27 ?_
   intro w32 H33
   have S35 := H33.pk [0, 1, 2]
   refine kq _ _ S35 ?_
   clear kq Kq
   refine hv0 20 S35 27 (.bool (Z0p L s.sb s.sm (Zv s))) ?_
   refine hv0 21 S35 6 (.bool (Z0p L s.sb s.sm (Zv s))) ?_
   refine zhf ?_
   apply ztn
   apply ZA
   refine ze1 (.bool (Z0p L s.sb s.sm (Zv s))) ?_
   exact ⟨by simp [Z2e, b17, b18], H33.upd 0 rfl [] (fun _ h => h.elim)⟩
  have g36 := of_decide_eq_false b18
  refine Z0j 20 (.bool false) (congrArg Value.bool b18) ?_
  refine Zx 14 S16 13 20 true ?_
  refine Zx 15 S16 13 20 true ?_
  refine Zx 16 S16 13 20 true ?_
  refine Zx 17 S16 13 20 true ?_
  refine Zx 18 S16 13 20 true ?_
  refine Zx 19 S16 13 20 true ?_
  refine hv0 20 S16 27 (.bool false) ?_
  refine hv0 21 S16 6 (.bool false) ?_
  refine zhf ?_
  apply ztn
  apply ZA
  refine ze1 (.bool false) ?_
  exact ⟨by simp [Z2e, b17, b18], H14.upd 0 rfl [] (fun _ h => h.elim)⟩
 refine Z0j 10 (.bool false) (congrArg Value.bool b17) ?_
 refine Zx 4 S16 3 10 true ?_
 refine Zx 5 S16 3 10 true ?_
 refine Zx 6 S16 3 10 true ?_
 refine Zx 7 S16 3 10 true ?_
 refine Zx 8 S16 3 10 true ?_
 refine Zx 9 S16 3 10 true ?_
 refine Zx 10 S16 3 10 true ?_
 refine Zx 11 S16 3 10 true ?_
 refine hv0 12 S16 19 (.bool false) ?_
 refine hv0 13 S16 20 (.bool false) ?_
 refine Zx 14 S16 13 20 true ?_
 refine Zx 15 S16 13 20 true ?_
 refine Zx 16 S16 13 20 true ?_
 refine Zx 17 S16 13 20 true ?_
 refine Zx 18 S16 13 20 true ?_
 refine Zx 19 S16 13 20 true ?_
 refine hv0 20 S16 27 (.bool false) ?_
 refine hv0 21 S16 6 (.bool false) ?_
 refine zhf ?_
 apply ztn
 apply ZA
 refine ze1 (.bool false) ?_
 exact ⟨by simp [Z2e, b17], H14.upd 0 rfl [] (fun _ h => h.elim)⟩
theorem Z5M (w : World) (f cn : Int) (hf : -1099511627776 ≤ f ∧ f ≤ 1099511627776) (r : Nat) (ra : Option Addr) (rc : Nat) (L : List Signed) (hb : (Z0 r 98 [.slice ra L.length rc]).ok w) (hr : (ZH 114 2 (.slice ra L.length rc) L.length (L.flatMap Z43)).ok w) (hn : L.Nodup) (hL : L.length ≤ 1000000) (s : Z5) (hs : Z8E s) :
  Calls Tryz.prog 75 #[(.agg ⟨([(.int .i64 (f)), (.int .i64 (cn))] : List Value)⟩), (.pointer (some ⟨r, 0, none⟩)), (.agg ⟨(([(.int .i64 (s.r)), (.int .i64 (s.cl)), (.int .i64 (s.seq))] : List Value) ++ hc s.h ++ ([(.int .u64 (s.t)), (.int .i64 (s.sb)), (.int .i64 (s.sm))] : List Value))⟩)] w fun e w' => e = .returned (.bool (Z0Y f L s)) ∧ Upd [] w w' := by
 have H := Sat.start0 w
 have hs2 := hs
 unfold Z8E at hs2
 refine Zp Tryz.func75 rfl 43 rfl (Nat.le_of_ble_eq_true rfl) ?_
 apply zsl
 refine zwd fun Kq kq => ?_
 refine zdb (Z0s f cn) H ?_
 intro b2 w3 H4
 refine kq _ _ ?_
 clear kq Kq
 refine zwd fun Kq kq => ?_
 refine zdb (Z2t s) H4 ?_
 intro b6 w7 H8
 refine kq _ _ ?_
 clear kq Kq
 refine wv 6 (.bool false) ?_
 apply znt
 apply Zt
 refine Z00 H8 [Z6 w (fun _ => False), Z0 b2 36 (Z0s f cn), Z0 b6 101 (Z2t s)] 37 rfl (by kernel_rfl) (fun Hx => (Hx.pk [0, 1, 2])) ?_
 intro w9 H10 S11
 refine hv0 0 S11 7 (pt b6 0) ?_
 refine hv0 1 S11 8 (.int .i64 (s.r)) ?_ (he := fun _ H' => (Z2 rfl (by kernel_rfl) (H'.cell 2 rfl (by kernel_rfl))))
 refine hv0 2 S11 9 (.bool (decide (s.r ≥ 0))) ?_
 refine hv0 3 S11 10 (.bool (decide (s.r ≥ 0))) ?_
 refine (Zl (decide (s.r ≥ 0))).elim (fun b12 => ?_) (fun b12 => ?_)
 ·have g13 := of_decide_eq_true b12
  refine Z0j 10 (.bool true) (congrArg Value.bool b12) ?_
  refine Z0N 4 S11 3 10 true 11 (pt b6 0) ?_
  refine Z0N 5 S11 3 10 true 12 (.int .i64 (s.r)) ?_ (he := fun _ H' => (Z2 rfl (by kernel_rfl) (H'.cell 2 rfl (by kernel_rfl))))
  refine Z0N 6 S11 3 10 true 13 (.agg ⟨(Z0s f cn)⟩) ?_ (he := fun _ H' => (Zc (vs := (Z0s f cn)) rfl (by kernel_rfl) (by kernel_rfl) (by exact Nat.le_of_ble_eq_true (by kernel_rfl)) (H'.at 1 rfl) (by kernel_rfl)))
  refine Z5v 7 rfl (by kernel_rfl) (Z01 3 10 true rfl (by kernel_rfl) rfl (by kernel_rfl)) (fun Kq kq => ?_)
  refine zdq 14 (Z8Y w9 f cn (by omega)) H10 ?_
  intro w16 H17
  have S19 := H17.pk [0, 1, 2]
  refine kq _ _ S19 ?_
  clear kq Kq
  refine Z0N 8 S19 3 10 true 15 (.bool (decide (s.r < (3 * f + 1)))) ?_
  refine hv0 9 S19 16 (.bool (decide (s.r < (3 * f + 1)))) ?_
  refine hv0 10 S19 17 (.bool (decide (s.r < (3 * f + 1)))) ?_
  refine (Zl (decide (s.r < (3 * f + 1)))).elim (fun b20 => ?_) (fun b20 => ?_)
  ·have g21 := of_decide_eq_true b20
   refine Z0j 17 (.bool true) (congrArg Value.bool b20) ?_
   refine Z0N 11 S19 10 17 true 18 (pt b6 35) ?_
   refine Z0N 12 S19 10 17 true 19 (.int .u64 (s.t)) ?_ (he := fun _ H' => (Z2 rfl (by kernel_rfl) (H'.cell 2 rfl (by kernel_rfl))))
   refine Z0N 13 S19 10 17 true 20 (.bool (decide (s.t ≥ 1))) ?_
   refine hv0 14 S19 21 (.bool (decide (s.t ≥ 1))) ?_
   refine hv0 15 S19 22 (.bool (decide (s.t ≥ 1))) ?_
   refine (Zl (decide (s.t ≥ 1))).elim (fun b23 => ?_) (fun b23 => ?_)
   ·have g24 := of_decide_eq_true b23
    refine Z0j 22 (.bool true) (congrArg Value.bool b23) ?_
    refine Z0N 16 S19 15 22 true 23 (pt b6 35) ?_
    refine Z0N 17 S19 15 22 true 24 (.int .u64 (s.t)) ?_ (he := fun _ H' => (Z2 rfl (by kernel_rfl) (H'.cell 2 rfl (by kernel_rfl))))
    refine Z0N 18 S19 15 22 true 25 (.bool (decide (s.t < 18446744073709551615))) ?_
    refine hv0 19 S19 26 (.bool (decide (s.t < 18446744073709551615))) ?_
    refine hv0 20 S19 27 (.bool (decide (s.t < 18446744073709551615))) ?_
    refine (Zl (decide (s.t < 18446744073709551615))).elim (fun b26 => ?_) (fun b26 => ?_)
    ·have g27 := of_decide_eq_true b26
     refine Z0j 27 (.bool true) (congrArg Value.bool b26) ?_
     refine Z0N 21 S19 20 27 true 28 (pt b6 36) ?_
     refine Z0N 22 S19 20 27 true 29 (pt b6 36) ?_
     refine Z0N 23 S19 20 27 true 30 (.int .i64 (s.sb)) ?_ (he := fun _ H' => (Z2 rfl (by kernel_rfl) (H'.cell 2 rfl (by kernel_rfl))))
     refine Z0N 24 S19 20 27 true 31 (pt b6 0) ?_
     refine Z0N 25 S19 20 27 true 32 (.int .i64 (s.r)) ?_ (he := fun _ H' => (Z2 rfl (by kernel_rfl) (H'.cell 2 rfl (by kernel_rfl))))
     refine Z0N 26 S19 20 27 true 33 (.bool (decide (s.sb = s.r))) ?_
     refine hv0 27 S19 34 (.bool (decide (s.sb = s.r))) ?_
     refine hv0 28 S19 35 (.bool (decide (s.sb = s.r))) ?_
     refine (Zl (decide (s.sb = s.r))).elim (fun b29 => ?_) (fun b29 => ?_)
     ·have g29 := of_decide_eq_true b29
      refine Z0j 35 (.bool true) (congrArg Value.bool b29) ?_
      refine Z0N 29 S19 28 35 true 36 (pt r 0) ?_
      refine Z0N 30 S19 28 35 true 37 (pt b6 36) ?_
      refine Z0N 31 S19 28 35 true 38 (.agg ⟨(Z0s s.sb s.sm)⟩) ?_ (he := fun _ H' => (Zc (vs := (Z0s s.sb s.sm)) rfl (by kernel_rfl) (by kernel_rfl) (by exact Nat.le_of_ble_eq_true (by kernel_rfl)) (H'.at 2 rfl) (by kernel_rfl)))
      refine Z0N 32 S19 28 35 true 39 (.agg ⟨(Z2t s)⟩) ?_ (he := fun _ H' => (Zc (vs := (Z2t s)) rfl (by kernel_rfl) (by kernel_rfl) (by exact Nat.le_of_ble_eq_true (by kernel_rfl)) (H'.at 2 rfl) (by kernel_rfl)))
      refine Z5v 33 rfl (by kernel_rfl) (Z01 28 35 true rfl (by kernel_rfl) rfl (by kernel_rfl)) (fun Kq kq => ?_)
      refine zdc 40 (Z2N w16 s hs) ?_
      rintro _ w33 ⟨u34, rfl, k35, p36, q37⟩
      have H38 := H17.addU p36 k35 q37
      obtain ⟨a39, c40, rfl⟩ := Z1 (H38.at 3 rfl)
      refine ⟨_, rfl, ?_⟩
      have S41 := H38.pk [0, 1, 2]
      refine kq _ _ S41 ?_
      clear kq Kq
      refine Z5v 34 rfl (by kernel_rfl) (Z01 28 35 true rfl (by kernel_rfl) rfl (by kernel_rfl)) (fun Kq kq => ?_)
      refine zdq 41 (Z3e w33 r ra rc L (H38.roCk 0 rfl hb (fun _ _ h => h)) (H38.roCk 0 rfl hr (fun _ _ h => h)) hn hL a39 c40 (Zz s) (ListAt.row (enc := ZN) (sz := 1) ZE (by decide) (H38.at 3 rfl)) s.sb s.sm) H38 ?_
      intro w43 H44
      have S46 := H44.pk [0, 1, 2]
      refine kq _ _ S46 ?_
      clear kq Kq
      refine hv0 35 S46 42 (.bool (Z0p L s.sb s.sm (Zz s))) ?_
      refine hv0 36 S46 6 (.bool (Z0p L s.sb s.sm (Zz s))) ?_
      refine zhf ?_
      apply ztn
      apply ZA
      refine ze1 (.bool (Z0p L s.sb s.sm (Zz s))) ?_
      exact ⟨by simp [Z0Y, inB, b12, b20, b23, b26, b29], H44.upd 0 rfl [] (fun _ h => h.elim)⟩
     have g47 := of_decide_eq_false b29
     refine Z0j 35 (.bool false) (congrArg Value.bool b29) ?_
     refine Zx 29 S19 28 35 true ?_
     refine Zx 30 S19 28 35 true ?_
     refine Zx 31 S19 28 35 true ?_
     refine Zx 32 S19 28 35 true ?_
     refine Zx 33 S19 28 35 true ?_
     refine Zx 34 S19 28 35 true ?_
     refine hv0 35 S19 42 (.bool false) ?_
     refine hv0 36 S19 6 (.bool false) ?_
     refine zhf ?_
     apply ztn
     apply ZA
     refine ze1 (.bool false) ?_
     exact ⟨by simp [Z0Y, inB, b12, b20, b23, b26, b29], H17.upd 0 rfl [] (fun _ h => h.elim)⟩
    have g49 := of_decide_eq_false b26
    refine Z0j 27 (.bool false) (congrArg Value.bool b26) ?_
    refine Zx 21 S19 20 27 true ?_
    refine Zx 22 S19 20 27 true ?_
    refine Zx 23 S19 20 27 true ?_
    refine Zx 24 S19 20 27 true ?_
    refine Zx 25 S19 20 27 true ?_
    refine Zx 26 S19 20 27 true ?_
    refine hv0 27 S19 34 (.bool false) ?_
    refine hv0 28 S19 35 (.bool false) ?_
    refine Zx 29 S19 28 35 true ?_
    refine Zx 30 S19 28 35 true ?_
    refine Zx 31 S19 28 35 true ?_
    refine Zx 32 S19 28 35 true ?_
    refine Zx 33 S19 28 35 true ?_
    refine Zx 34 S19 28 35 true ?_
    refine hv0 35 S19 42 (.bool false) ?_
    refine hv0 36 S19 6 (.bool false) ?_
    refine zhf ?_
    apply ztn
    apply ZA
    refine ze1 (.bool false) ?_
    exact ⟨by simp [Z0Y, inB, b12, b20, b23, b26], H17.upd 0 rfl [] (fun _ h => h.elim)⟩
   have g51 := of_decide_eq_false b23
   refine Z0j 22 (.bool false) (congrArg Value.bool b23) ?_
   refine Zx 16 S19 15 22 true ?_
   refine Zx 17 S19 15 22 true ?_
   refine Zx 18 S19 15 22 true ?_
   refine hv0 19 S19 26 (.bool false) ?_
   refine hv0 20 S19 27 (.bool false) ?_
   refine Zx 21 S19 20 27 true ?_
   refine Zx 22 S19 20 27 true ?_
   refine Zx 23 S19 20 27 true ?_
   refine Zx 24 S19 20 27 true ?_
   refine Zx 25 S19 20 27 true ?_
   refine Zx 26 S19 20 27 true ?_
   refine hv0 27 S19 34 (.bool false) ?_
   refine hv0 28 S19 35 (.bool false) ?_
   refine Zx 29 S19 28 35 true ?_
   refine Zx 30 S19 28 35 true ?_
   refine Zx 31 S19 28 35 true ?_
   refine Zx 32 S19 28 35 true ?_
   refine Zx 33 S19 28 35 true ?_
   refine Zx 34 S19 28 35 true ?_
   refine hv0 35 S19 42 (.bool false) ?_
   refine hv0 36 S19 6 (.bool false) ?_
   refine zhf ?_
   apply ztn
   apply ZA
   refine ze1 (.bool false) ?_
   exact ⟨by simp [Z0Y, inB, b12, b20, b23], H17.upd 0 rfl [] (fun _ h => h.elim)⟩
  have g53 := of_decide_eq_false b20
  refine Z0j 17 (.bool false) (congrArg Value.bool b20) ?_
  refine Zx 11 S19 10 17 true ?_
  refine Zx 12 S19 10 17 true ?_
  refine Zx 13 S19 10 17 true ?_
  refine hv0 14 S19 21 (.bool false) ?_
  refine hv0 15 S19 22 (.bool false) ?_
  refine Zx 16 S19 15 22 true ?_
  refine Zx 17 S19 15 22 true ?_
  refine Zx 18 S19 15 22 true ?_
  refine hv0 19 S19 26 (.bool false) ?_
  refine hv0 20 S19 27 (.bool false) ?_
  refine Zx 21 S19 20 27 true ?_
  refine Zx 22 S19 20 27 true ?_
  refine Zx 23 S19 20 27 true ?_
  refine Zx 24 S19 20 27 true ?_
  refine Zx 25 S19 20 27 true ?_
  refine Zx 26 S19 20 27 true ?_
  refine hv0 27 S19 34 (.bool false) ?_
  refine hv0 28 S19 35 (.bool false) ?_
  refine Zx 29 S19 28 35 true ?_
  refine Zx 30 S19 28 35 true ?_
  refine Zx 31 S19 28 35 true ?_
  refine Zx 32 S19 28 35 true ?_
  refine Zx 33 S19 28 35 true ?_
  refine Zx 34 S19 28 35 true ?_
  refine hv0 35 S19 42 (.bool false) ?_
  refine hv0 36 S19 6 (.bool false) ?_
  refine zhf ?_
  apply ztn
  apply ZA
  refine ze1 (.bool false) ?_
  exact ⟨by simp [Z0Y, inB, b12, b20], H17.upd 0 rfl [] (fun _ h => h.elim)⟩
 have g55 := of_decide_eq_false b12
 refine Z0j 10 (.bool false) (congrArg Value.bool b12) ?_
 refine Zx 4 S11 3 10 true ?_
 refine Zx 5 S11 3 10 true ?_
 refine Zx 6 S11 3 10 true ?_
 refine Zx 7 S11 3 10 true ?_
 refine Zx 8 S11 3 10 true ?_
 refine hv0 9 S11 16 (.bool false) ?_
 refine hv0 10 S11 17 (.bool false) ?_
 refine Zx 11 S11 10 17 true ?_
 refine Zx 12 S11 10 17 true ?_
 refine Zx 13 S11 10 17 true ?_
 refine hv0 14 S11 21 (.bool false) ?_
 refine hv0 15 S11 22 (.bool false) ?_
 refine Zx 16 S11 15 22 true ?_
 refine Zx 17 S11 15 22 true ?_
 refine Zx 18 S11 15 22 true ?_
 refine hv0 19 S11 26 (.bool false) ?_
 refine hv0 20 S11 27 (.bool false) ?_
 refine Zx 21 S11 20 27 true ?_
 refine Zx 22 S11 20 27 true ?_
 refine Zx 23 S11 20 27 true ?_
 refine Zx 24 S11 20 27 true ?_
 refine Zx 25 S11 20 27 true ?_
 refine Zx 26 S11 20 27 true ?_
 refine hv0 27 S11 34 (.bool false) ?_
 refine hv0 28 S11 35 (.bool false) ?_
 refine Zx 29 S11 28 35 true ?_
 refine Zx 30 S11 28 35 true ?_
 refine Zx 31 S11 28 35 true ?_
 refine Zx 32 S11 28 35 true ?_
 refine Zx 33 S11 28 35 true ?_
 refine Zx 34 S11 28 35 true ?_
 refine hv0 35 S11 42 (.bool false) ?_
 refine hv0 36 S11 6 (.bool false) ?_
 refine zhf ?_
 apply ztn
 apply ZA
 refine Z6E rfl (Z1m (v := (.bool false)) rfl) ?_
 exact ⟨by simp [Z0Y, inB, b12], H10.upd 0 rfl [] (fun _ h => h.elim)⟩
theorem Z49 (w : World) (f cn : Int) (hf : -1099511627776 ≤ f ∧ f ≤ 1099511627776) (r : Nat) (ra : Option Addr) (rc : Nat) (L : List Signed) (hb : (Z0 r 98 [.slice ra L.length rc]).ok w) (hr : (ZH 114 2 (.slice ra L.length rc) L.length (L.flatMap Z43)).ok w) (hn : L.Nodup) (hL : L.length ≤ 1000000) (x : Zg) (hx : ZbL x) (sa : Option Addr) (sc : Nat) (S : List Z5) (hS : ListAt Z0J 38 w (.slice sa S.length sc) S) (hok : Zb0 S) (hlS : S.length ≤ 1000000) :
  Calls Tryz.prog 41 #[(.agg ⟨([(.int .i64 (f)), (.int .i64 (cn))] : List Value)⟩), (.pointer (some ⟨r, 0, none⟩)), (.agg ⟨(([(.int .i64 (x.cl)), (.int .i64 (x.seq))] : List Value) ++ hc x.h ++ ([(.int .i64 (x.len)), (.int .i64 (x.sb)), (.int .i64 (x.sm)), (.slice sa S.length sc)] : List Value))⟩)] w fun e w' => e = .returned (.bool (Z06 f cn L x S)) ∧ Upd [] w w' := by
 have H := Sat.start0 w
 refine Zp Tryz.func41 rfl 72 rfl (Nat.le_of_ble_eq_true rfl) ?_
 apply zsl
 refine zwd fun Kq kq => ?_
 refine zdb (Z0s f cn) H ?_
 intro b2 w3 H4
 refine kq _ _ ?_
 clear kq Kq
 refine zwd fun Kq kq => ?_
 refine zdb (Zae x sa S.length sc) H4 ?_
 intro b6 w7 H8
 refine kq _ _ ?_
 clear kq Kq
 refine wv 6 (.bool false) ?_
 apply znt
 apply Zt
 apply Zt
 refine zqs H8 ?_
 refine qv 9 (.agg ⟨(Z0s f cn)⟩) ?_ (hr := fun _ H' => (Zc (vs := (Z0s f cn)) rfl (by kernel_rfl) (by kernel_rfl) (by exact Nat.le_of_ble_eq_true (by kernel_rfl)) (H'.at 1 rfl) (by kernel_rfl)))
 refine qv 10 (pt r 0) ?_
 refine qv 11 (pt b6 0) ?_
 refine qv 12 (.agg ⟨(Z2M x)⟩) ?_ (hr := fun _ H' => (Zc (vs := (Z2M x)) rfl (by kernel_rfl) (by kernel_rfl) (by exact Nat.le_of_ble_eq_true (by kernel_rfl)) (H'.at 2 rfl) (by kernel_rfl)))
 refine Z0B (Zs rfl) (d := 13) (v := (.bool (Z2e cn L x))) rfl (fun _ _ => by kernel_rfl) (fun w' H' => (Z8r w' f cn (by omega) r ra rc L (H'.roCk 0 rfl hb (fun _ _ h => h)) (H'.roCk 0 rfl hr (fun _ _ h => h)) hn hL x hx).mono fun _ _ h => ⟨h.1, H'.keepU h.2⟩) ?_
 refine qv 14 (.bool (!(Z2e cn L x))) ?_
 refine qv 15 (.bool (!(Z2e cn L x))) ?_
 refine (Zl (!(Z2e cn L x))).elim (fun b9 => ?_) (fun b9 => ?_)
 ·have g10 := Zy b9
  refine Z0k 15 (.bool true) (congrArg Value.bool b9) ?_
  iterate 6 refine qn 6 15 false ?_
  refine qv 22 (.bool true) ?_
  refine Z0S ?_
  intro w12 H13
  apply ztn
  refine Z0P rfl ?_
  apply zsl
  refine wv 6 (.bool false) ?_
  apply znt
  apply ZA
  apply Zr
  refine ze1 (.bool false) ?_
  have n14 := Zy b9
  exact ⟨by simp only [Z06, n14, Bool.not_true, Bool.not_false, Bool.true_or, Bool.false_or, Bool.or_true, Bool.or_false, Bool.and_true, Bool.true_and, Bool.and_false, Bool.false_and], H13.upd 0 rfl [] (fun _ h => h.elim)⟩
 have g15 := Za b9
 refine Z0k 15 (.bool false) (congrArg Value.bool b9) ?_
 refine qy 6 15 false 16 (pt b6 37) ?_
 refine qy 6 15 false 17 (.slice sa S.length sc) ?_ (hr := fun _ H' => (Z2 rfl (by kernel_rfl) (H'.cell 2 rfl (by kernel_rfl))))
 refine Z8q (Z01 6 15 false rfl (by kernel_rfl) rfl (by kernel_rfl)) (d := 18) (v := (.int .i64 ((S.length : Int)))) rfl (fun _ H' => (by kernel_rfl)) ?_
 refine qy 6 15 false 19 (.agg ⟨(Z0s f cn)⟩) ?_ (hr := fun _ H' => (Zc (vs := (Z0s f cn)) rfl (by kernel_rfl) (by kernel_rfl) (by exact Nat.le_of_ble_eq_true (by kernel_rfl)) (H'.at 1 rfl) (by kernel_rfl)))
 refine Z0B (Z01 6 15 false rfl (by kernel_rfl) rfl (by kernel_rfl)) (d := 20) (v := (.int .i64 (2 * f + 1))) rfl (fun _ _ => by kernel_rfl) (fun w' H' => (ZaG w' f cn (by omega)).mono fun _ _ h => ⟨h.1, H'.keepU h.2⟩) ?_
 refine qy 6 15 false 21 (.bool (!(decide ((S.length : Int) = (2 * f + 1))))) ?_
 refine qv 22 (.bool (!(decide ((S.length : Int) = (2 * f + 1))))) ?_
 refine Z0S ?_
 intro w17 H18
 refine Z0M ?_
 refine (Zl (!(decide ((S.length : Int) = (2 * f + 1))))).elim (fun b19 => ?_) (fun b19 => ?_)
 ·have g20 := Zy b19
  have g21 := of_decide_eq_false g20
  refine ZF 22 (.bool true) (congrArg Value.bool b19) ?_
  have g22 := Zy b19
  have g23 := of_decide_eq_false g22
  refine Z0P rfl ?_
  apply zsl
  refine wv 6 (.bool false) ?_
  apply znt
  apply ZA
  apply Zr
  refine ze1 (.bool false) ?_
  have n24 := Za b9
  have n25 := Zy b19
  exact ⟨by simp only [Z06, n24, n25, Bool.not_true, Bool.not_false, Bool.true_or, Bool.false_or, Bool.or_true, Bool.or_false, Bool.and_true, Bool.true_and, Bool.and_false, Bool.false_and], H18.upd 0 rfl [] (fun _ h => h.elim)⟩
 have g26 := Za b19
 have g27 := of_decide_eq_true g26
 refine ZF 22 (.bool false) (congrArg Value.bool b19) ?_
 have g28 := Za b19
 have g29 := of_decide_eq_true g28
 refine Z3m rfl ?_
 apply ZL
 apply ztn
 apply Zt
 apply zsl
 refine wv 23 (pt b6 37) ?_
 refine zw1 24 (.slice sa S.length sc) (H18.cell 2 rfl (by kernel_rfl)) ?_
 refine wv 25 (.int .i64 ((S.length : Int))) ?_
 refine wv 26 (.int .i64 (0)) ?_
 apply znt
 apply ZG
 have n30 := Za b9
 have n31 := Za b19
 refine Z02 ([6, 7, 8] ++ List.range' 26 46) (fun F_ W_ m_ => ∃ (i : Nat), F_ 26 = (.int .i64 ((i : Int))) ∧ (i ≤ S.length) ∧ (∀ j, j < i → Z2P f L x S j = true) ∧ Sat w [Z6 w (fun _ => False), Z0 b2 36 (Z0s f cn), Z0 b6 53 (Zae x sa S.length sc)] W_ ∧ m_ = S.length - i) _ ⟨0, (show ((.int .i64 (0)) : Value) = _ by first | rfl | go_num), (Nat.zero_le _), (fun _ h => absurd h (Nat.not_lt_zero _)), H18, rfl⟩ ?_
 rintro g32 w33 _ ⟨i, v35, hi, hall, H34, rfl⟩
 refine ZF 26 _ v35 ?_
 apply zsl
 refine wv 27 (.bool (decide ((i : Int) < (S.length : Int)))) ?_
 apply znt
 apply Zt
 refine (Zl (decide ((i : Int) < (S.length : Int)))).elim (fun b37 => ?_) (fun b37 => ?_)
 ·have g38 := of_decide_eq_true b37
  refine Z1o _ b37 ?_
  apply ZL
  apply ztn
  apply Zt
  apply ZG
  apply zsl
  refine wv 28 (.int .i64 ((i : Int))) ?_
  refine wv 7 (.int .i64 ((i : Int))) ?_
  apply Z1y
  refine wv 29 (pt b6 37) ?_
  refine zw1 30 (.slice sa S.length sc) (H34.cell 2 rfl (by kernel_rfl)) ?_
  refine wv 31 (.int .i64 ((i : Int))) ?_
  obtain ⟨g40, o41, c42, e43, R44⟩ := SliceOf.atD hS Z9 (show i < S.length by omega)
  refine wv 32 (.pointer (some ⟨g40, o41 + ((i : Int)).toNat * 38, none⟩)) ?_ (hr := ZC (E := 101) (by kernel_rfl) (by kernel_rfl) (Nat.le_of_ble_eq_true rfl) rfl e43 rfl (by omega) (by omega))
  refine wv 33 (.agg ⟨(Z2t (S.getD i Z9))⟩) ?_ (hr := Z0f (vs := (Z2t (S.getD i Z9))) rfl (by kernel_rfl) (by kernel_rfl) (Nat.le_of_ble_eq_true (by kernel_rfl)) (H34.runR 0 rfl (Z10 R44 0 (by kernel_rfl) (show o41 + ((i : Int)).toNat * 38 = o41 + i * 38 + 0 by omega)) (fun h => h)))
  refine zwd fun Kq kq => ?_
  refine zda (Zcm) H34 ?_
  intro b46 w47 H48
  refine kq _ _ ?_
  clear kq Kq
  refine zwd fun Kq kq => ?_
  refine Z2k (Z2t (S.getD i Z9)) H48 3 ?_
  intro w50 H51
  refine kq _ _ ?_
  clear kq Kq
  apply znt
  apply Zt
  refine zqs H51 ?_
  refine qv 34 (.int .i64 ((i : Int))) ?_
  refine qv 35 (.bool (decide ((i : Int) > 0))) ?_
  refine qv 36 (.bool (decide ((i : Int) > 0))) ?_
  refine (Zl (decide ((i : Int) > 0))).elim (fun b53 => ?_) (fun b53 => ?_)
  ·have g54 := of_decide_eq_true b53
   refine Z0k 36 (.bool true) (congrArg Value.bool b53) ?_
   refine qy 2 36 true 37 (pt b46 0) ?_
   refine qy 2 36 true 38 (.int .i64 ((S.getD i Z9).r)) ?_ (hr := fun _ H' => (Z2 rfl (by kernel_rfl) (H'.cell 3 rfl (by kernel_rfl))))
   refine qy 2 36 true 39 (pt b6 37) ?_
   refine qy 2 36 true 40 (.slice sa S.length sc) ?_ (hr := fun _ H' => (Z2 rfl (by kernel_rfl) (H'.cell 2 rfl (by kernel_rfl))))
   refine qy 2 36 true 41 (.int .i64 ((i : Int))) ?_
   refine qy 2 36 true 42 (.int .i64 ((i : Int) - 1)) ?_ (hr := fun _ H' => (Z0I (z := (i : Int) - 1) (by kernel_rfl) (IntWalk.i64_in _ (by omega))))
   obtain ⟨g56, o57, c58, e59, R60⟩ := SliceOf.atD hS Z9 (show ((i : Int) - 1).toNat < S.length by omega)
   refine qy 2 36 true 43 (.pointer (some ⟨g56, o57 + ((i : Int) - 1).toNat * 38, none⟩)) ?_ (hr := fun _ H' => (ZC (E := 101) (by kernel_rfl) (by kernel_rfl) (Nat.le_of_ble_eq_true rfl) rfl e59 rfl (by omega) (by omega)))
   refine qy 2 36 true 44 (.pointer (some ⟨g56, o57 + ((i : Int) - 1).toNat * 38, none⟩)) ?_
   refine qy 2 36 true 45 (.int .i64 ((S.getD ((i : Int) - 1).toNat Z9).r)) ?_ (hr := fun _ H' => (Z2 rfl (by kernel_rfl) (H'.cellR 0 rfl (Z13 R60 0 (by kernel_rfl) (show o57 + ((i : Int) - 1).toNat * 38 = o57 + ((i : Int) - 1).toNat * 38 + 0 by omega)) (fun h => h))))
   refine qy 2 36 true 46 (.bool (decide (((S.getD i Z9).r) ≤ ((S.getD ((i : Int) - 1).toNat Z9).r)))) ?_
   refine qv 47 (.bool (decide (((S.getD i Z9).r) ≤ ((S.getD ((i : Int) - 1).toNat Z9).r)))) ?_
   refine qv 48 (.bool (decide (((S.getD i Z9).r) ≤ ((S.getD ((i : Int) - 1).toNat Z9).r)))) ?_
   refine (Zl (decide (((S.getD i Z9).r) ≤ ((S.getD ((i : Int) - 1).toNat Z9).r)))).elim (fun b61 => ?_) (fun b61 => ?_)
   ·have g62 := of_decide_eq_true b61
    refine Z0k 48 (.bool true) (congrArg Value.bool b61) ?_
    iterate 6 refine qn 14 48 false ?_
    refine qv 55 (.bool true) ?_
    refine qv 56 (.bool true) ?_
    iterate 6 refine qn 22 56 false ?_
    refine qv 63 (.bool true) ?_
    refine qv 64 (.bool true) ?_
    iterate 5 refine qn 30 64 false ?_
    refine qv 70 (.bool true) ?_
    refine Z0S ?_
    intro w64 H65
    apply ztn
    refine Z0P rfl ?_
    apply zsl
    refine wv 6 (.bool false) ?_
    apply znt
    apply ZA
    apply ZP
    apply Zr
    apply Z0l
    apply ZP
    apply Zr
    refine ze1 (.bool false) ?_
    have e1 : ((i : Int) - 1).toNat = i - 1 := by omega
    have ho : Z2P f L x S i = false := by unfold Z2P Z1Z; rw [← e1]; simp only [b37, b53, b61, Bool.not_true, Bool.not_false, Bool.true_or, Bool.false_or, Bool.or_true, Bool.or_false, Bool.and_true, Bool.true_and, Bool.and_false, Bool.false_and]
    exact ⟨by simp only [Z06, Z0T (show i < S.length by omega) ho, Bool.and_false], H65.upd 0 rfl [] (fun _ h => h.elim)⟩
   have g66 := of_decide_eq_false b61
   refine Z0k 48 (.bool false) (congrArg Value.bool b61) ?_
   refine qy 14 48 false 49 (pt b46 1) ?_
   refine qy 14 48 false 50 (.agg ⟨(Z6O (S.getD i Z9))⟩) ?_ (hr := fun _ H' => (Zc (vs := (Z6O (S.getD i Z9))) rfl (by kernel_rfl) (by kernel_rfl) (by exact Nat.le_of_ble_eq_true (by kernel_rfl)) (H'.at 3 rfl) (by kernel_rfl)))
   refine qy 14 48 false 51 (pt b6 0) ?_
   refine qy 14 48 false 52 (pt b6 0) ?_
   refine qy 14 48 false 53 (.agg ⟨(Z0s x.cl x.seq)⟩) ?_ (hr := fun _ H' => (Zc (vs := (Z0s x.cl x.seq)) rfl (by kernel_rfl) (by kernel_rfl) (by exact Nat.le_of_ble_eq_true (by kernel_rfl)) (H'.at 2 rfl) (by kernel_rfl)))
   refine qy 14 48 false 54 (.bool (!(decide (((S.getD i Z9).cl) = x.cl ∧ ((S.getD i Z9).seq) = x.seq)))) ?_ (hr := fun _ H' => (Z4l ((S.getD i Z9).cl) ((S.getD i Z9).seq) x.cl x.seq rfl rfl))
   refine qv 55 (.bool (!(decide (((S.getD i Z9).cl) = x.cl ∧ ((S.getD i Z9).seq) = x.seq)))) ?_
   refine qv 56 (.bool (!(decide (((S.getD i Z9).cl) = x.cl ∧ ((S.getD i Z9).seq) = x.seq)))) ?_
   refine (Zl (!(decide (((S.getD i Z9).cl) = x.cl ∧ ((S.getD i Z9).seq) = x.seq)))).elim (fun b68 => ?_) (fun b68 => ?_)
   ·have g69 := Zy b68
    refine Z0k 56 (.bool true) (congrArg Value.bool b68) ?_
    iterate 6 refine qn 22 56 false ?_
    refine qv 63 (.bool true) ?_
    refine qv 64 (.bool true) ?_
    iterate 5 refine qn 30 64 false ?_
    refine qv 70 (.bool true) ?_
    refine Z0S ?_
    intro w71 H72
    apply ztn
    refine Z0P rfl ?_
    apply zsl
    refine wv 6 (.bool false) ?_
    apply znt
    apply ZA
    apply ZP
    apply Zr
    apply Z0l
    apply ZP
    apply Zr
    refine ze1 (.bool false) ?_
    have n73 := Zy b68
    have e1 : ((i : Int) - 1).toNat = i - 1 := by omega
    have ho : Z2P f L x S i = false := by unfold Z2P Z1Z; rw [← e1]; simp only [b37, b53, b61, n73, Bool.not_true, Bool.not_false, Bool.true_or, Bool.false_or, Bool.or_true, Bool.or_false, Bool.and_true, Bool.true_and, Bool.and_false, Bool.false_and]
    exact ⟨by simp only [Z06, Z0T (show i < S.length by omega) ho, Bool.and_false], H72.upd 0 rfl [] (fun _ h => h.elim)⟩
   have g74 := Za b68
   refine Z0k 56 (.bool false) (congrArg Value.bool b68) ?_
   refine qy 22 56 false 57 (pt b46 3) ?_
   refine qy 22 56 false 58 (.agg ⟨(hc (S.getD i Z9).h)⟩) ?_ (hr := fun _ H' => (Zc (vs := (hc (S.getD i Z9).h)) rfl (by kernel_rfl) (by kernel_rfl) (by exact Nat.le_of_ble_eq_true (by kernel_rfl)) (H'.at 3 rfl) (by kernel_rfl)))
   refine qy 22 56 false 59 (pt b6 0) ?_
   refine qy 22 56 false 60 (pt b6 2) ?_
   refine qy 22 56 false 61 (.agg ⟨(hc x.h)⟩) ?_ (hr := fun _ H' => (Zc (vs := (hc x.h)) rfl (by kernel_rfl) (by kernel_rfl) (by exact Nat.le_of_ble_eq_true (by kernel_rfl)) (H'.at 2 rfl) (by kernel_rfl)))
   refine qy 22 56 false 62 (.bool (!(decide (((S.getD i Z9).h) = x.h)))) ?_ (hr := fun _ H' => (Z4k ((S.getD i Z9).h) x.h rfl rfl))
   refine qv 63 (.bool (!(decide (((S.getD i Z9).h) = x.h)))) ?_
   refine qv 64 (.bool (!(decide (((S.getD i Z9).h) = x.h)))) ?_
   refine (Zl (!(decide (((S.getD i Z9).h) = x.h)))).elim (fun b76 => ?_) (fun b76 => ?_)
   ·have g77 := Zy b76
    have g78 := of_decide_eq_false g77
    refine Z0k 64 (.bool true) (congrArg Value.bool b76) ?_
    iterate 5 refine qn 30 64 false ?_
    refine qv 70 (.bool true) ?_
    refine Z0S ?_
    intro w81 H82
    apply ztn
    refine Z0P rfl ?_
    apply zsl
    refine wv 6 (.bool false) ?_
    apply znt
    apply ZA
    apply ZP
    apply Zr
    apply Z0l
    apply ZP
    apply Zr
    refine ze1 (.bool false) ?_
    have n83 := Za b68
    have n84 := Zy b76
    have e1 : ((i : Int) - 1).toNat = i - 1 := by omega
    have ho : Z2P f L x S i = false := by unfold Z2P Z1Z; rw [← e1]; simp only [b37, b53, b61, n83, n84, Bool.not_true, Bool.not_false, Bool.true_or, Bool.false_or, Bool.or_true, Bool.or_false, Bool.and_true, Bool.true_and, Bool.and_false, Bool.false_and]
    exact ⟨by simp only [Z06, Z0T (show i < S.length by omega) ho, Bool.and_false], H82.upd 0 rfl [] (fun _ h => h.elim)⟩
   have g85 := Za b76
   have g86 := of_decide_eq_true g85
   refine Z0k 64 (.bool false) (congrArg Value.bool b76) ?_
   refine qy 30 64 false 65 (.agg ⟨(Z0s f cn)⟩) ?_ (hr := fun _ H' => (Zc (vs := (Z0s f cn)) rfl (by kernel_rfl) (by kernel_rfl) (by exact Nat.le_of_ble_eq_true (by kernel_rfl)) (H'.at 1 rfl) (by kernel_rfl)))
   refine qy 30 64 false 66 (pt r 0) ?_
   refine qy 30 64 false 67 (.agg ⟨(Z2t (S.getD i Z9))⟩) ?_ (hr := fun _ H' => (Zc (vs := (Z2t (S.getD i Z9))) rfl (by kernel_rfl) (by kernel_rfl) (by exact Nat.le_of_ble_eq_true (by kernel_rfl)) (H'.at 3 rfl) (by kernel_rfl)))
   refine Z0B (Z01 30 64 false rfl (by kernel_rfl) rfl (by kernel_rfl)) (d := 68) (v := (.bool (Z0Y f L (S.getD i Z9)))) rfl (fun _ _ => by kernel_rfl) (fun w' H' => (Z5M w' f cn (by omega) r ra rc L (H'.roCk 0 rfl hb (fun _ _ h => h)) (H'.roCk 0 rfl hr (fun _ _ h => h)) hn hL (S.getD i Z9) (hok _ (by omega))).mono fun _ _ h => ⟨h.1, H'.keepU h.2⟩) ?_
   refine qy 30 64 false 69 (.bool (!(Z0Y f L (S.getD i Z9)))) ?_
   refine qv 70 (.bool (!(Z0Y f L (S.getD i Z9)))) ?_
   refine Z0S ?_
   intro w89 H90
   apply ztn
   refine (Zl (!(Z0Y f L (S.getD i Z9)))).elim (fun b91 => ?_) (fun b91 => ?_)
   ·have g92 := Zy b91
    refine Z1o _ b91 ?_
    apply zsl
    refine wv 6 (.bool false) ?_
    apply znt
    apply ZA
    apply ZP
    apply Zr
    apply Z0l
    apply ZP
    apply Zr
    refine ze1 (.bool false) ?_
    have n94 := Za b68
    have n95 := Za b76
    have n96 := Zy b91
    have e1 : ((i : Int) - 1).toNat = i - 1 := by omega
    have ho : Z2P f L x S i = false := by unfold Z2P Z1Z; rw [← e1]; simp only [b37, b53, b61, n94, n95, n96, Bool.not_true, Bool.not_false, Bool.true_or, Bool.false_or, Bool.or_true, Bool.or_false, Bool.and_true, Bool.true_and, Bool.and_false, Bool.false_and]
    exact ⟨by simp only [Z06, Z0T (show i < S.length by omega) ho, Bool.and_false], H90.upd 0 rfl [] (fun _ h => h.elim)⟩
   have g97 := Za b91
   refine Z18 _ b91 ?_
   apply ZL
   apply Zq
   apply ztn
   apply ZU
   refine zwi 71 ((i : Int) + 1) ?_
   refine wv 26 (.int .i64 ((i : Int) + 1)) ?_
   apply ZQ
   have n99 := Za b68
   have n100 := Za b76
   have n101 := Za b91
   have e1 : ((i : Int) - 1).toNat = i - 1 := by omega
   have ho : Z2P f L x S i = true := by unfold Z2P Z1Z; rw [← e1]; simp only [b37, b53, b61, n99, n100, n101, Bool.not_true, Bool.not_false, Bool.true_or, Bool.false_or, Bool.or_true, Bool.or_false, Bool.and_true, Bool.true_and, Bool.and_false, Bool.false_and]
   have H102 := H90.pk [0, 1, 2]
   refine Zw ?_ _ ⟨(i + 1), rfl, (by omega), (fun j hj => by rcases Nat.lt_or_ge j i with h | h; exact hall j h; rw [show j = i by omega]; exact ho), H102, rfl⟩ (by omega)
   exact zs
  have g103 := of_decide_eq_false b53
  refine Z0k 36 (.bool false) (congrArg Value.bool b53) ?_
  iterate 10 refine qn 2 36 true ?_
  refine qv 47 (.bool false) ?_
  refine qv 48 (.bool false) ?_
  refine qy 14 48 false 49 (pt b46 1) ?_
  refine qy 14 48 false 50 (.agg ⟨(Z6O (S.getD i Z9))⟩) ?_ (hr := fun _ H' => (Zc (vs := (Z6O (S.getD i Z9))) rfl (by kernel_rfl) (by kernel_rfl) (by exact Nat.le_of_ble_eq_true (by kernel_rfl)) (H'.at 3 rfl) (by kernel_rfl)))
  refine qy 14 48 false 51 (pt b6 0) ?_
  refine qy 14 48 false 52 (pt b6 0) ?_
  refine qy 14 48 false 53 (.agg ⟨(Z0s x.cl x.seq)⟩) ?_ (hr := fun _ H' => (Zc (vs := (Z0s x.cl x.seq)) rfl (by kernel_rfl) (by kernel_rfl) (by exact Nat.le_of_ble_eq_true (by kernel_rfl)) (H'.at 2 rfl) (by kernel_rfl)))
  refine qy 14 48 false 54 (.bool (!(decide (((S.getD i Z9).cl) = x.cl ∧ ((S.getD i Z9).seq) = x.seq)))) ?_ (hr := fun _ H' => (Z4l ((S.getD i Z9).cl) ((S.getD i Z9).seq) x.cl x.seq rfl rfl))
  refine qv 55 (.bool (!(decide (((S.getD i Z9).cl) = x.cl ∧ ((S.getD i Z9).seq) = x.seq)))) ?_
  refine qv 56 (.bool (!(decide (((S.getD i Z9).cl) = x.cl ∧ ((S.getD i Z9).seq) = x.seq)))) ?_
  refine (Zl (!(decide (((S.getD i Z9).cl) = x.cl ∧ ((S.getD i Z9).seq) = x.seq)))).elim (fun b105 => ?_) (fun b105 => ?_)
  ·have g106 := Zy b105
   refine Z0k 56 (.bool true) (congrArg Value.bool b105) ?_
   iterate 6 refine qn 22 56 false ?_
   refine qv 63 (.bool true) ?_
   refine qv 64 (.bool true) ?_
   iterate 5 refine qn 30 64 false ?_
   refine qv 70 (.bool true) ?_
   refine Z0S ?_
   intro w108 H109
   apply ztn
   refine Z0P rfl ?_
   apply zsl
   refine wv 6 (.bool false) ?_
   apply znt
   apply ZA
   apply ZP
   apply Zr
   apply Z0l
   apply ZP
   apply Zr
   refine ze1 (.bool false) ?_
   have n110 := Zy b105
   have e1 : ((i : Int) - 1).toNat = i - 1 := by omega
   have ho : Z2P f L x S i = false := by unfold Z2P Z1Z; rw [← e1]; simp only [b37, b53, n110, Bool.not_true, Bool.not_false, Bool.true_or, Bool.false_or, Bool.or_true, Bool.or_false, Bool.and_true, Bool.true_and, Bool.and_false, Bool.false_and]
   exact ⟨by simp only [Z06, Z0T (show i < S.length by omega) ho, Bool.and_false], H109.upd 0 rfl [] (fun _ h => h.elim)⟩
  have g111 := Za b105
  refine Z0k 56 (.bool false) (congrArg Value.bool b105) ?_
  refine qy 22 56 false 57 (pt b46 3) ?_
  refine qy 22 56 false 58 (.agg ⟨(hc (S.getD i Z9).h)⟩) ?_ (hr := fun _ H' => (Zc (vs := (hc (S.getD i Z9).h)) rfl (by kernel_rfl) (by kernel_rfl) (by exact Nat.le_of_ble_eq_true (by kernel_rfl)) (H'.at 3 rfl) (by kernel_rfl)))
  refine qy 22 56 false 59 (pt b6 0) ?_
  refine qy 22 56 false 60 (pt b6 2) ?_
  refine qy 22 56 false 61 (.agg ⟨(hc x.h)⟩) ?_ (hr := fun _ H' => (Zc (vs := (hc x.h)) rfl (by kernel_rfl) (by kernel_rfl) (by exact Nat.le_of_ble_eq_true (by kernel_rfl)) (H'.at 2 rfl) (by kernel_rfl)))
  refine qy 22 56 false 62 (.bool (!(decide (((S.getD i Z9).h) = x.h)))) ?_ (hr := fun _ H' => (Z4k ((S.getD i Z9).h) x.h rfl rfl))
  refine qv 63 (.bool (!(decide (((S.getD i Z9).h) = x.h)))) ?_
  refine qv 64 (.bool (!(decide (((S.getD i Z9).h) = x.h)))) ?_
  refine (Zl (!(decide (((S.getD i Z9).h) = x.h)))).elim (fun b113 => ?_) (fun b113 => ?_)
  ·have g114 := Zy b113
   have g115 := of_decide_eq_false g114
   refine Z0k 64 (.bool true) (congrArg Value.bool b113) ?_
   iterate 5 refine qn 30 64 false ?_
   refine qv 70 (.bool true) ?_
   refine Z0S ?_
   intro w118 H119
   apply ztn
   refine Z0P rfl ?_
   apply zsl
   refine wv 6 (.bool false) ?_
   apply znt
   apply ZA
   apply ZP
   apply Zr
   apply Z0l
   apply ZP
   apply Zr
   refine ze1 (.bool false) ?_
   have n120 := Za b105
   have n121 := Zy b113
   have e1 : ((i : Int) - 1).toNat = i - 1 := by omega
   have ho : Z2P f L x S i = false := by unfold Z2P Z1Z; rw [← e1]; simp only [b37, b53, n120, n121, Bool.not_true, Bool.not_false, Bool.true_or, Bool.false_or, Bool.or_true, Bool.or_false, Bool.and_true, Bool.true_and, Bool.and_false, Bool.false_and]
   exact ⟨by simp only [Z06, Z0T (show i < S.length by omega) ho, Bool.and_false], H119.upd 0 rfl [] (fun _ h => h.elim)⟩
  have g122 := Za b113
  have g123 := of_decide_eq_true g122
  refine Z0k 64 (.bool false) (congrArg Value.bool b113) ?_
  refine qy 30 64 false 65 (.agg ⟨(Z0s f cn)⟩) ?_ (hr := fun _ H' => (Zc (vs := (Z0s f cn)) rfl (by kernel_rfl) (by kernel_rfl) (by exact Nat.le_of_ble_eq_true (by kernel_rfl)) (H'.at 1 rfl) (by kernel_rfl)))
  refine qy 30 64 false 66 (pt r 0) ?_
  refine qy 30 64 false 67 (.agg ⟨(Z2t (S.getD i Z9))⟩) ?_ (hr := fun _ H' => (Zc (vs := (Z2t (S.getD i Z9))) rfl (by kernel_rfl) (by kernel_rfl) (by exact Nat.le_of_ble_eq_true (by kernel_rfl)) (H'.at 3 rfl) (by kernel_rfl)))
  refine Z0B (Z01 30 64 false rfl (by kernel_rfl) rfl (by kernel_rfl)) (d := 68) (v := (.bool (Z0Y f L (S.getD i Z9)))) rfl (fun _ _ => by kernel_rfl) (fun w' H' => (Z5M w' f cn (by omega) r ra rc L (H'.roCk 0 rfl hb (fun _ _ h => h)) (H'.roCk 0 rfl hr (fun _ _ h => h)) hn hL (S.getD i Z9) (hok _ (by omega))).mono fun _ _ h => ⟨h.1, H'.keepU h.2⟩) ?_
  refine qy 30 64 false 69 (.bool (!(Z0Y f L (S.getD i Z9)))) ?_
  refine qv 70 (.bool (!(Z0Y f L (S.getD i Z9)))) ?_
  refine Z0S ?_
  intro w126 H127
  apply ztn
  refine (Zl (!(Z0Y f L (S.getD i Z9)))).elim (fun b128 => ?_) (fun b128 => ?_)
  ·have g129 := Zy b128
   refine Z1o _ b128 ?_
   apply zsl
   refine wv 6 (.bool false) ?_
   apply znt
   apply ZA
   apply ZP
   apply Zr
   apply Z0l
   apply ZP
   apply Zr
   refine ze1 (.bool false) ?_
   have n131 := Za b105
   have n132 := Za b113
   have n133 := Zy b128
   have e1 : ((i : Int) - 1).toNat = i - 1 := by omega
   have ho : Z2P f L x S i = false := by unfold Z2P Z1Z; rw [← e1]; simp only [b37, b53, n131, n132, n133, Bool.not_true, Bool.not_false, Bool.true_or, Bool.false_or, Bool.or_true, Bool.or_false, Bool.and_true, Bool.true_and, Bool.and_false, Bool.false_and]
   exact ⟨by simp only [Z06, Z0T (show i < S.length by omega) ho, Bool.and_false], H127.upd 0 rfl [] (fun _ h => h.elim)⟩
  have g134 := Za b128
  refine Z18 _ b128 ?_
  apply ZL
  apply Zq
  apply ztn
  apply ZU
  refine zwi 71 ((i : Int) + 1) ?_
  refine wv 26 (.int .i64 ((i : Int) + 1)) ?_
  apply ZQ
  have n136 := Za b105
  have n137 := Za b113
  have n138 := Za b128
  have e1 : ((i : Int) - 1).toNat = i - 1 := by omega
  have ho : Z2P f L x S i = true := by unfold Z2P Z1Z; rw [← e1]; simp only [b37, b53, n136, n137, n138, Bool.not_true, Bool.not_false, Bool.true_or, Bool.false_or, Bool.or_true, Bool.or_false, Bool.and_true, Bool.true_and, Bool.and_false, Bool.false_and]
  have H139 := H127.pk [0, 1, 2]
  refine Zw ?_ _ ⟨(i + 1), rfl, (by omega), (fun j hj => by rcases Nat.lt_or_ge j i with h | h; exact hall j h; rw [show j = i by omega]; exact ho), H139, rfl⟩ (by omega)
  exact zs
 have g140 := of_decide_eq_false b37
 refine Z18 _ b37 ?_
 apply zxb
 apply ztn
 apply zsl
 refine wv 6 (.bool true) ?_
 apply znt
 apply ZA
 refine ze1 (.bool true) ?_
 have hn0 : i = S.length := by omega
 subst hn0
 exact ⟨by simp only [Z06, Z5e hall, n30, n31, Bool.not_true, Bool.not_false, Bool.true_or, Bool.false_or, Bool.or_true, Bool.or_false, Bool.and_true, Bool.true_and, Bool.and_false, Bool.false_and], H34.upd 0 rfl [] (fun _ h => h.elim)⟩
end Go.Proofs.YtoaifondpohniaaGreat
