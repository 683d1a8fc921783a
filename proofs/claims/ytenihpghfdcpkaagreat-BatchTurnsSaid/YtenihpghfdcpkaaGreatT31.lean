/- WHAT IS PROVED: contracts and plain laws of Rg2t. Conditions: stated with each. -/
import Derived.Test.YtenihpghfdcpkaaGreatT05
import Derived.Test.YtenihpghfdcpkaaGreatT08
import Derived.Test.YtenihpghfdcpkaaGreatT10
import Derived.Test.YtenihpghfdcpkaaGreatT11
import Derived.Test.YtenihpghfdcpkaaGreatT30
set_option maxHeartbeats 4000000
set_option maxRecDepth 100000
namespace Go.Proofs.YtenihpghfdcpkaaGreat
open Go.RowKit
abbrev kRg2t_0 (p0 : Int) (p1 : Int) : List Value := ([(.int .i64 p0), (.int .i64 p1)] : List Value)
abbrev kRg2t_1 (p0 : CommitD) : List Value := ([(.int .i64 p0.cl), (.int .i64 p0.seq)] : List Value) ++ hc p0.h ++ ([(.int .i64 p0.len), (.int .i64 p0.sb), (.int .i64 p0.sm)] : List Value)
abbrev kRg2t_2 (p0 : StampD) : List Value := ([(.int .i64 p0.r), (.int .i64 p0.cl), (.int .i64 p0.seq)] : List Value) ++ hc p0.h ++ ([(.int .u64 p0.t), (.int .i64 p0.sb), (.int .i64 p0.sm)] : List Value)
abbrev kRg2t_3 (p0 : CommitD) (p1 : Option Addr) (p2 : Nat) (p3 : Nat) : List Value := ([(.int .i64 p0.cl), (.int .i64 p0.seq)] : List Value) ++ hc p0.h ++ ([(.int .i64 p0.len), (.int .i64 p0.sb), (.int .i64 p0.sm), (.slice p1 p2 p3)] : List Value)
abbrev kRg2t_4 : List Value := ([(.int .i64 (0)), (.int .i64 (0)), (.int .i64 (0))] : List Value) ++ hc hash0 ++ ([(.int .u64 (0)), (.int .i64 (0)), (.int .i64 (0))] : List Value)
abbrev kRg2t_5 (p0 : StampD) : List Value := ([(.int .i64 p0.cl), (.int .i64 p0.seq)] : List Value)
theorem rRightQ_any (w : World) (r : Nat) (ra : Option Addr) (rc : Nat) (L : List Signed) (hb : (cellC r 165 [.slice ra L.length rc]).ok w) (hr : (rowC 181 2 (.slice ra L.length rc) L.length (L.flatMap encS)).ok w) (hn : L.Nodup) (hL : L.length ≤ 1000000) (ta : Option Addr) (tc : Nat) (tx : List UInt8) (ht : ListAt encB 1 w (.slice ta tx.length tc) tx) (p m : Int) :
  Calls Tryz.prog 109 #[(.pointer (some ⟨r, 0, none⟩)), (.agg ⟨([(.int .i64 (p)), (.int .i64 (m))] : List Value)⟩), (.slice ta tx.length tc)] w fun e w' => e = .returned (.bool (rightB L p m tx)) ∧ Upd [] w w' := by
 have H := Sat.start0 w
 refine calls_fr Tryz.func109 rfl 50 rfl (Nat.le_of_ble_eq_true rfl) ?_
 refine zsl <| zwd fun Kq kq => zdb (kRg2t_0 p m) H fun b2 w3 H4 => ?_
 refine kq _ _ <| wv 6 (.bool false) <| znt <| w_seq <| zqs H4 ?_
 refine qv 7 (pt b2 1) <| qv 8 (.int .i64 (m)) ?_ (hr := fun _ H' => (zl1 (H'.cell 1 rfl rfl)))
 refine qv 9 (.bool (decide (m ≥ 1))) <| qv 10 (.bool (decide (m ≥ 1))) ?_
 refine (bsplit (decide (m ≥ 1))).elim (fun b5 => ?_) (fun b5 => ?_)
 ·have g6 := of_decide_eq_true b5
  refine q_know 10 (.bool true) (congrArg Value.bool b5) ?_
  refine qy 3 10 true 11 (pt b2 1) <| qy 3 10 true 12 (.int .i64 (m)) ?_ (hr := fun _ H' => (zl1 (H'.cell 1 rfl rfl)))
  refine qy 3 10 true 13 (pt r 0) <| qy 3 10 true 14 (pt r 0) <| qy 3 10 true 15 (pt r 0) <| qy 3 10 true 16 (.slice ra L.length rc) ?_ (hr := fun _ H' => (zl1 (H'.roCell 0 rfl hb (fun h => h) rfl)))
  refine q_val (wantsY 3 10 true rfl (by kernel_rfl) rfl (by kernel_rfl)) (d := 17) (v := (.int .i64 ((L.length : Int)))) rfl (fun _ H' => (by kernel_rfl)) ?_
  refine qy 3 10 true 18 (.bool (decide (m ≤ (L.length : Int)))) <| qv 19 (.bool (decide (m ≤ (L.length : Int)))) <| qv 20 (.bool (decide (m ≤ (L.length : Int)))) ?_
  refine (bsplit (decide (m ≤ (L.length : Int)))).elim (fun b8 => ?_) (fun b8 => ?_)
  ·have g9 := of_decide_eq_true b8
   refine q_know 20 (.bool true) (congrArg Value.bool b8) ?_
   refine qy 13 20 true 21 (pt r 0) <| qy 13 20 true 22 (pt r 0) <| qy 13 20 true 23 (pt r 0) <| qy 13 20 true 24 (.slice ra L.length rc) ?_ (hr := fun _ H' => (zl1 (H'.roCell 0 rfl hb (fun h => h) rfl)))
   refine qy 13 20 true 25 (pt b2 1) <| qy 13 20 true 26 (.int .i64 (m)) ?_ (hr := fun _ H' => (zl1 (H'.cell 1 rfl rfl)))
   refine qy 13 20 true 27 (.int .i64 (m - 1)) ?_ (hr := fun _ H' => (e_int (z := m - 1) (by kernel_rfl) (IntWalk.i64_in _ (by omega))))
   obtain ⟨g11, c12, e13⟩ := row_shape hr (by omega)
   obtain ⟨x14, h15⟩ := get_at (show (m - 1).toNat < L.length by omega)
   refine qy 13 20 true 28 (.pointer (some ⟨g11, 0 + (m - 1).toNat * 2, none⟩)) ?_ (hr := fun _ H' => (e_indexAddrV (E := 181) (by kernel_rfl) (by kernel_rfl) (Nat.le_of_ble_eq_true rfl) rfl e13 rfl (by omega) (by omega)))
   refine qy 13 20 true 29 (.pointer (some ⟨g11, 0 + (m - 1).toNat * 2, none⟩)) <| qy 13 20 true 30 (.int .i64 (x14.p)) ?_ (hr := fun _ H' => (zl1 (rows_cell (H'.roCk 0 rfl hr (fun _ _ h => h)) e13 encS_len h15 0 rfl (show 0 + (m - 1).toNat * 2 = (m - 1).toNat * 2 + 0 by omega) (by kernel_rfl))))
   refine qy 13 20 true 31 (pt b2 0) <| qy 13 20 true 32 (.int .i64 (p)) ?_ (hr := fun _ H' => (zl1 (H'.cell 1 rfl rfl)))
   refine qy 13 20 true 33 (.bool (decide (x14.p = p))) <| qv 34 (.bool (decide (x14.p = p))) <| qv 35 (.bool (decide (x14.p = p))) ?_
   refine (bsplit (decide (x14.p = p))).elim (fun b16 => ?_) (fun b16 => ?_)
   ·have g17 := of_decide_eq_true b16
    refine q_know 35 (.bool true) (congrArg Value.bool b16) ?_
    refine qy 28 35 true 36 (pt r 0) <| qy 28 35 true 37 (pt r 0) <| qy 28 35 true 38 (pt r 0) <| qy 28 35 true 39 (.slice ra L.length rc) ?_ (hr := fun _ H' => (zl1 (H'.roCell 0 rfl hb (fun h => h) rfl)))
    refine qy 28 35 true 40 (pt b2 1) <| qy 28 35 true 41 (.int .i64 (m)) ?_ (hr := fun _ H' => (zl1 (H'.cell 1 rfl rfl)))
    refine qy 28 35 true 42 (.int .i64 (m - 1)) ?_ (hr := fun _ H' => (e_int (z := m - 1) (by kernel_rfl) (IntWalk.i64_in _ (by omega))))
    refine qy 28 35 true 43 (.pointer (some ⟨g11, 0 + (m - 1).toNat * 2, none⟩)) ?_ (hr := fun _ H' => (e_indexAddrV (E := 181) (by kernel_rfl) (by kernel_rfl) (Nat.le_of_ble_eq_true rfl) rfl e13 rfl (by omega) (by omega)))
    refine qy 28 35 true 44 (.pointer (some ⟨g11, 0 + (m - 1).toNat * 2 + 1, none⟩)) <| qy 28 35 true 45 (strV x14.s) ?_ (hr := fun _ H' => (zl1 (rows_cell (H'.roCk 0 rfl hr (fun _ _ h => h)) e13 encS_len h15 1 rfl (show 0 + (m - 1).toNat * 2 + 1 = (m - 1).toNat * 2 + 1 by omega) (by kernel_rfl))))
    refine qy 28 35 true 46 (.slice ta tx.length tc) <| qy 28 35 true 47 (strV tx) ?_ (hr := fun _ H' => (e_convBytes (e := 5) (s := tx) (by kernel_rfl) (by kernel_rfl) (by kernel_rfl) rfl (list_bytes (ListAt.now H' 0 rfl ht))))
    refine qy 28 35 true 48 (.bool (decide (x14.s = tx))) ?_ (hr := fun _ H' => (e_eqStr x14.s tx rfl rfl))
    refine qv 49 (.bool (decide (x14.s = tx))) <| qv 6 (.bool (decide (x14.s = tx))) <| q_end fun w19 H20 => ?_
    refine ztn <| w_ret <| ze1 (.bool (decide (x14.s = tx))) ?_
    have hb : rightB L p m tx = (decide (x14.s = tx)) := by
      rw [Bool.eq_iff_iff, right_iff hn, decide_eq_true_eq]
      have hp := of_decide_eq_true b16
      constructor
      ·rintro ⟨i, h1, h2⟩
       have h3 := h15
       rw [show (m - 1).toNat = i by omega, h1] at h3
       cases h3; rfl
      intro h
      exact ⟨(m - 1).toNat, by rw [h15, ← hp, ← h], by omega⟩
    exact ⟨by rw [hb], H20.upd 0 rfl [] (fun _ h => h.elim)⟩
   have g21 := of_decide_eq_false b16
   refine q_know 35 (.bool false) (congrArg Value.bool b16) ?_
   iterate 13 refine qn 28 35 true ?_
   refine qv 49 (.bool false) <| qv 6 (.bool false) <| q_end fun w23 H24 => ?_
   refine ztn <| w_ret <| ze1 (.bool false) ?_
   have hb : rightB L p m tx = false := Bool.eq_false_iff.2 fun h => by
     obtain ⟨i, h1, h2⟩ := (right_iff hn).1 h
     have h3 := h15
     rw [show (m - 1).toNat = i by omega, h1] at h3
     cases h3
     exact absurd rfl (of_decide_eq_false b16)
   exact ⟨by rw [hb], H24.upd 0 rfl [] (fun _ h => h.elim)⟩
  have g25 := of_decide_eq_false b8
  refine q_know 20 (.bool false) (congrArg Value.bool b8) ?_
  iterate 13 refine qn 13 20 true ?_
  refine qv 34 (.bool false) <| qv 35 (.bool false) ?_
  iterate 13 refine qn 28 35 true ?_
  refine qv 49 (.bool false) <| qv 6 (.bool false) <| q_end fun w27 H28 => ?_
  refine ztn <| w_ret <| ze1 (.bool false) ?_
  have hb : rightB L p m tx = false := Bool.eq_false_iff.2 fun h => by
    obtain ⟨i, h1, h2⟩ := (right_iff hn).1 h
    have h3 := (List.getElem?_eq_some_iff.1 h1).1
    omega
  exact ⟨by rw [hb], H28.upd 0 rfl [] (fun _ h => h.elim)⟩
 have g29 := of_decide_eq_false b5
 refine q_know 10 (.bool false) (congrArg Value.bool b5) ?_
 iterate 8 refine qn 3 10 true ?_
 refine qv 19 (.bool false) <| qv 20 (.bool false) ?_
 iterate 13 refine qn 13 20 true ?_
 refine qv 34 (.bool false) <| qv 35 (.bool false) ?_
 iterate 13 refine qn 28 35 true ?_
 refine qv 49 (.bool false) <| qv 6 (.bool false) <| q_end fun w31 H32 => ?_
 refine ztn <| w_ret <| ze1 (.bool false) ?_
 have hb : rightB L p m tx = false := Bool.eq_false_iff.2 fun h => by
   obtain ⟨i, h1, h2⟩ := (right_iff hn).1 h
   have h3 := (List.getElem?_eq_some_iff.1 h1).1
   omega
 exact ⟨by rw [hb], H32.upd 0 rfl [] (fun _ h => h.elim)⟩
theorem rN_any (w : World) (f cn : Int) (hf : -1099511627776 ≤ f ∧ f ≤ 1099511627776) :
  Calls Tryz.prog 31 #[(.agg ⟨([(.int .i64 (f)), (.int .i64 (cn))] : List Value)⟩)] w fun e w' => e = .returned (.int .i64 (3 * f + 1)) ∧ Upd [] w w' := by
 have H := Sat.start0 w
 refine calls_fr Tryz.func31 rfl 7 rfl (Nat.le_of_ble_eq_true rfl) ?_
 refine zsl <| zwd fun Kq kq => zdb (kRg2t_0 f cn) H fun b2 w3 H4 => ?_
 refine kq _ _ <| wv 2 (.int .i64 (0)) <| znsl <| wv 3 (pt b2 0) <| zw1 4 (.int .i64 (f)) (H4.cell 1 rfl rfl) <| zwi 5 (3 * f) <| zwi 6 ((3 * f) + 1) <| wv 2 (.int .i64 ((3 * f) + 1)) <| znt <| w_ret ?_
 refine ze1 (.int .i64 ((3 * f) + 1)) ?_
 exact ⟨rfl, H4.upd 0 rfl [] (fun _ h => h.elim)⟩
theorem rQ_any (w : World) (f cn : Int) (hf : -1099511627776 ≤ f ∧ f ≤ 1099511627776) :
  Calls Tryz.prog 39 #[(.agg ⟨([(.int .i64 (f)), (.int .i64 (cn))] : List Value)⟩)] w fun e w' => e = .returned (.int .i64 (2 * f + 1)) ∧ Upd [] w w' := by
 have H := Sat.start0 w
 refine calls_fr Tryz.func39 rfl 7 rfl (Nat.le_of_ble_eq_true rfl) ?_
 refine zsl <| zwd fun Kq kq => zdb (kRg2t_0 f cn) H fun b2 w3 H4 => ?_
 refine kq _ _ <| wv 2 (.int .i64 (0)) <| znsl <| wv 3 (pt b2 0) <| zw1 4 (.int .i64 (f)) (H4.cell 1 rfl rfl) <| zwi 5 (2 * f) <| zwi 6 ((2 * f) + 1) <| wv 2 (.int .i64 ((2 * f) + 1)) <| znt <| w_ret ?_
 refine ze1 (.int .i64 ((2 * f) + 1)) ?_
 exact ⟨rfl, H4.upd 0 rfl [] (fun _ h => h.elim)⟩
theorem rValid_any (w : World) (f cn : Int) (x : CommitD) :
  Calls Tryz.prog 146 #[(.agg ⟨([(.int .i64 (f)), (.int .i64 (cn))] : List Value)⟩), (.agg ⟨(([(.int .i64 (x.cl)), (.int .i64 (x.seq))] : List Value) ++ hc x.h ++ ([(.int .i64 (x.len)), (.int .i64 (x.sb)), (.int .i64 (x.sm))] : List Value))⟩)] w fun e w' => e = .returned (.bool (validC cn x)) ∧ Upd [] w w' := by
 have H := Sat.start0 w
 refine calls_fr Tryz.func146 rfl 39 rfl (Nat.le_of_ble_eq_true rfl) ?_
 refine zsl <| zwd fun Kq kq => zdb (kRg2t_0 f cn) H fun b2 w3 H4 => ?_
 refine kq _ _ <| zwd fun Kq kq => zdb (kRg2t_1 x) H4 fun b6 w7 H8 => ?_
 refine kq _ _ <| wv 4 (.bool false) <| znt ?_
 refine wp_meetR (List.range' 4 35) (fun G_ W_ => G_ 4 = (.bool (validC cn x)) ∧ Sat w [restC w (fun _ => False), cellC b2 29 (kRg2t_0 f cn), cellC b6 73 (kRg2t_1 x)] W_) ?_ ?_
 ·refine w_lit <| wv 5 (pt b6 0) <| wv 6 (pt b6 0) <| zw1 7 (.int .i64 (x.cl)) (H8.cell 2 rfl (by kernel_rfl)) <| wv 8 (.bool (decide (x.cl ≥ 0))) <| wv 9 (.bool (decide (x.cl ≥ 0))) ?_
  refine (bsplit (decide (x.cl ≥ 0))).elim (fun b10 => ?_) (fun b10 => ?_)
  ·have g11 := of_decide_eq_true b10
   refine wl_know 9 (.bool true) (congrArg Value.bool b10) ?_
   refine wy 4 9 true 10 (pt b6 0) <| wy 4 9 true 11 (pt b6 0) <| wy 4 9 true 12 (.int .i64 (x.cl)) ?_ (hr := zl1 (H8.cell 2 rfl (by kernel_rfl)))
   refine wy 4 9 true 13 (pt b2 1) <| wy 4 9 true 14 (.int .i64 (cn)) ?_ (hr := zl1 (H8.cell 1 rfl rfl))
   refine wy 4 9 true 15 (.bool (decide (x.cl < cn))) <| wv 16 (.bool (decide (x.cl < cn))) <| wv 17 (.bool (decide (x.cl < cn))) ?_
   refine (bsplit (decide (x.cl < cn))).elim (fun b12 => ?_) (fun b12 => ?_)
   ·have g13 := of_decide_eq_true b12
    refine wl_know 17 (.bool true) (congrArg Value.bool b12) ?_
    refine wy 12 17 true 18 (pt b6 0) <| wy 12 17 true 19 (pt b6 1) <| wy 12 17 true 20 (.int .i64 (x.seq)) ?_ (hr := zl1 (H8.cell 2 rfl (by kernel_rfl)))
    refine wy 12 17 true 21 (.bool (decide (x.seq ≥ 1))) <| wv 22 (.bool (decide (x.seq ≥ 1))) <| wv 23 (.bool (decide (x.seq ≥ 1))) ?_
    refine (bsplit (decide (x.seq ≥ 1))).elim (fun b14 => ?_) (fun b14 => ?_)
    ·have g15 := of_decide_eq_true b14
     refine wl_know 23 (.bool true) (congrArg Value.bool b14) ?_
     refine wy 18 23 true 24 (pt b6 0) <| wy 18 23 true 25 (pt b6 1) <| wy 18 23 true 26 (.int .i64 (x.seq)) ?_ (hr := zl1 (H8.cell 2 rfl (by kernel_rfl)))
     refine wy 18 23 true 27 (.bool (decide (x.seq ≤ 1048576))) <| wv 28 (.bool (decide (x.seq ≤ 1048576))) <| wv 29 (.bool (decide (x.seq ≤ 1048576))) ?_
     refine (bsplit (decide (x.seq ≤ 1048576))).elim (fun b16 => ?_) (fun b16 => ?_)
     ·have g17 := of_decide_eq_true b16
      refine wl_know 29 (.bool true) (congrArg Value.bool b16) ?_
      refine wy 24 29 true 30 (pt b6 34) <| wy 24 29 true 31 (.int .i64 (x.len)) ?_ (hr := zl1 (H8.cell 2 rfl (by kernel_rfl)))
      refine wy 24 29 true 32 (.bool (decide (x.len ≥ 0))) <| wv 33 (.bool (decide (x.len ≥ 0))) <| wv 34 (.bool (decide (x.len ≥ 0))) ?_
      refine (bsplit (decide (x.len ≥ 0))).elim (fun b18 => ?_) (fun b18 => ?_)
      ·have g19 := of_decide_eq_true b18
       refine wl_know 34 (.bool true) (congrArg Value.bool b18) ?_
       refine wy 29 34 true 35 (pt b6 34) <| wy 29 34 true 36 (.int .i64 (x.len)) ?_ (hr := zl1 (H8.cell 2 rfl (by kernel_rfl)))
       refine wy 29 34 true 37 (.bool (decide (x.len ≤ 256))) <| wv 38 (.bool (decide (x.len ≤ 256))) <| wv 4 (.bool (decide (x.len ≤ 256))) <| w_nil <| meetR_at ?_ ⟨(congrArg Value.bool (show (decide (x.len ≤ 256)) = (validC cn x) by simp [validC, b10, b12, b14, b16, b18])), H8⟩
       exact zs
      have g20 := of_decide_eq_false b18
      refine wl_know 34 (.bool false) (congrArg Value.bool b18) ?_
      iterate 3 refine wn 29 34 true ?_
      refine wv 38 (.bool false) <| wv 4 (.bool false) <| w_nil <| meetR_at ?_ ⟨(congrArg Value.bool (show false = (validC cn x) by simp [validC, b10, b12, b14, b16, b18])), H8⟩
      exact zs
     have g21 := of_decide_eq_false b16
     refine wl_know 29 (.bool false) (congrArg Value.bool b16) ?_
     iterate 3 refine wn 24 29 true ?_
     refine wv 33 (.bool false) <| wv 34 (.bool false) ?_
     iterate 3 refine wn 29 34 true ?_
     refine wv 38 (.bool false) <| wv 4 (.bool false) <| w_nil <| meetR_at ?_ ⟨(congrArg Value.bool (show false = (validC cn x) by simp [validC, b10, b12, b14, b16])), H8⟩
     exact zs
    have g21 := of_decide_eq_false b14
    refine wl_know 23 (.bool false) (congrArg Value.bool b14) ?_
    iterate 4 refine wn 18 23 true ?_
    refine wv 28 (.bool false) <| wv 29 (.bool false) ?_
    iterate 3 refine wn 24 29 true ?_
    refine wv 33 (.bool false) <| wv 34 (.bool false) ?_
    iterate 3 refine wn 29 34 true ?_
    refine wv 38 (.bool false) <| wv 4 (.bool false) <| w_nil <| meetR_at ?_ ⟨(congrArg Value.bool (show false = (validC cn x) by simp [validC, b10, b12, b14])), H8⟩
    exact zs
   have g23 := of_decide_eq_false b12
   refine wl_know 17 (.bool false) (congrArg Value.bool b12) ?_
   iterate 4 refine wn 12 17 true ?_
   refine wv 22 (.bool false) <| wv 23 (.bool false) ?_
   iterate 4 refine wn 18 23 true ?_
   refine wv 28 (.bool false) <| wv 29 (.bool false) ?_
   iterate 3 refine wn 24 29 true ?_
   refine wv 33 (.bool false) <| wv 34 (.bool false) ?_
   iterate 3 refine wn 29 34 true ?_
   refine wv 38 (.bool false) <| wv 4 (.bool false) <| w_nil <| meetR_at ?_ ⟨(congrArg Value.bool (show false = (validC cn x) by simp [validC, b10, b12])), H8⟩
   exact zs
  have g24 := of_decide_eq_false b10
  refine wl_know 9 (.bool false) (congrArg Value.bool b10) ?_
  iterate 6 refine wn 4 9 true ?_
  refine wv 16 (.bool false) <| wv 17 (.bool false) ?_
  iterate 4 refine wn 12 17 true ?_
  refine wv 22 (.bool false) <| wv 23 (.bool false) ?_
  iterate 4 refine wn 18 23 true ?_
  refine wv 28 (.bool false) <| wv 29 (.bool false) ?_
  iterate 3 refine wn 24 29 true ?_
  refine wv 33 (.bool false) <| wv 34 (.bool false) ?_
  iterate 3 refine wn 29 34 true ?_
  refine wv 38 (.bool false) <| wv 4 (.bool false) <| w_nil <| meetR_at ?_ ⟨(congrArg Value.bool (show false = (validC cn x) by simp [validC, b10])), H8⟩
  exact zs
 rintro f25 w26 ⟨v28, H27⟩
 refine wp_know 4 _ v28 ?_
 refine w_ret <| ze1 (.bool (validC cn x)) ?_
 exact ⟨rfl, H27.upd 0 rfl [] (fun _ h => h.elim)⟩
theorem rRightC_any (w : World) (f cn : Int) (hf : -1099511627776 ≤ f ∧ f ≤ 1099511627776) (r : Nat) (ra : Option Addr) (rc : Nat) (L : List Signed) (hb : (cellC r 165 [.slice ra L.length rc]).ok w) (hr : (rowC 181 2 (.slice ra L.length rc) L.length (L.flatMap encS)).ok w) (hn : L.Nodup) (hL : L.length ≤ 1000000) (s : CommitD) (hs : CoOk s) :
  Calls Tryz.prog 115 #[(.agg ⟨([(.int .i64 (f)), (.int .i64 (cn))] : List Value)⟩), (.pointer (some ⟨r, 0, none⟩)), (.agg ⟨(([(.int .i64 (s.cl)), (.int .i64 (s.seq))] : List Value) ++ hc s.h ++ ([(.int .i64 (s.len)), (.int .i64 (s.sb)), (.int .i64 (s.sm))] : List Value))⟩)] w fun e w' => e = .returned (.bool (rightC cn L s)) ∧ Upd [] w w' := by
 have H := Sat.start0 w
 have hs2 := hs
 unfold CoOk at hs2
 refine calls_fr Tryz.func115 rfl 28 rfl (Nat.le_of_ble_eq_true rfl) ?_
 refine zsl <| zwd fun Kq kq => zdb (kRg2t_0 f cn) H fun b2 w3 H4 => ?_
 refine kq _ _ <| zwd fun Kq kq => zdb (kRg2t_1 s) H4 fun b6 w7 H8 => ?_
 refine kq _ _ <| wv 6 (.bool false) <| znt <| w_seq <| h_start H8 [restC w (fun _ => False), cellC b2 29 (kRg2t_0 f cn), cellC b6 73 (kRg2t_1 s)] 22 rfl (by kernel_rfl) (fun Hx => (Hx.pk [0, 1, 2])) fun w9 H10 S11 => ?_
 refine hv0 0 S11 7 (.agg ⟨(kRg2t_0 f cn)⟩) ?_ (he := fun _ H' => (zlN (vs := (kRg2t_0 f cn)) (H'.at 1 rfl)))
 refine hv0 1 S11 8 (.agg ⟨(kRg2t_1 s)⟩) ?_ (he := fun _ H' => (zlN (vs := (kRg2t_1 s)) (H'.at 2 rfl)))
 refine zhd0 2 fun Kq kq => ?_
 refine zdq 9 (rValid_any w9 f cn s) H10 ?_
 intro w13 H14
 have S16 := H14.pk [0, 1, 2]
 refine kq _ _ S16 <| hv0 3 S16 10 (.bool (validC cn s)) ?_
 refine (bsplit (validC cn s)).elim (fun b17 => ?_) (fun b17 => ?_)
 ·refine h_know 10 (.bool true) (congrArg Value.bool b17) ?_
  refine zhvy 4 S16 3 10 true 11 (pt b6 35) <| zhvy 5 S16 3 10 true 12 (pt b6 35) <| zhvy 6 S16 3 10 true 13 (.int .i64 (s.sb)) ?_ (he := fun _ H' => (zl1 (H'.cell 2 rfl (by kernel_rfl))))
  refine zhvy 7 S16 3 10 true 14 (pt b6 0) <| zhvy 8 S16 3 10 true 15 (pt b6 0) <| zhvy 9 S16 3 10 true 16 (.int .i64 (s.cl)) ?_ (he := fun _ H' => (zl1 (H'.cell 2 rfl (by kernel_rfl))))
  refine zhvy 10 S16 3 10 true 17 (.int .i64 (IntKind.i64.wrap (1000 + s.cl))) <| zhvy 11 S16 3 10 true 18 (.bool (decide (s.sb = (IntKind.i64.wrap (1000 + s.cl))))) <| hv0 12 S16 19 (.bool (decide (s.sb = (IntKind.i64.wrap (1000 + s.cl))))) <| hv0 13 S16 20 (.bool (decide (s.sb = (IntKind.i64.wrap (1000 + s.cl))))) ?_
  refine (bsplit (decide (s.sb = (IntKind.i64.wrap (1000 + s.cl))))).elim (fun b18 => ?_) (fun b18 => ?_)
  ·have g19 := of_decide_eq_true b18
   refine h_know 20 (.bool true) (congrArg Value.bool b18) ?_
   refine zhvy 14 S16 13 20 true 21 (pt r 0) <| zhvy 15 S16 13 20 true 22 (pt b6 35) <| zhvy 16 S16 13 20 true 23 (.agg ⟨(kRg2t_0 s.sb s.sm)⟩) ?_ (he := fun _ H' => (zlN (vs := (kRg2t_0 s.sb s.sm)) (H'.at 2 rfl)))
   refine zhvy 17 S16 13 20 true 24 (.agg ⟨(kRg2t_1 s)⟩) ?_ (he := fun _ H' => (zlN (vs := (kRg2t_1 s)) (H'.at 2 rfl)))
   refine h_do 18 rfl (by kernel_rfl) (wantsY 13 20 true rfl (by kernel_rfl) rfl (by kernel_rfl)) (fun Kq kq => ?_)
   refine zdc 25 (rCommitText_any w13 s hs) ?_
   rintro _ w22 ⟨u23, rfl, k24, p25, q26⟩
   have H27 := H14.addU p25 k24 q26
   obtain ⟨a28, c29, rfl⟩ := ownsRow_shape (H27.at 3 rfl)
   refine ⟨_, rfl, ?_⟩
   have S30 := H27.pk [0, 1, 2]
   refine kq _ _ S30 <| h_do 19 rfl (by kernel_rfl) (wantsY 13 20 true rfl (by kernel_rfl) rfl (by kernel_rfl)) (fun Kq kq => ?_)
   refine zdq 26 (rRightQ_any w22 r ra rc L (H27.roCk 0 rfl hb (fun _ _ h => h)) (H27.roCk 0 rfl hr (fun _ _ h => h)) hn hL a28 c29 (commitB s) (ListAt.row (enc := encB) (sz := 1) encB_len (by decide) (H27.at 3 rfl)) s.sb s.sm) H27 ?_
   intro w32 H33
   have S35 := H33.pk [0, 1, 2]
   refine kq _ _ S35 <| hv0 20 S35 27 (.bool (rightB L s.sb s.sm (commitB s))) <| hv0 21 S35 6 (.bool (rightB L s.sb s.sm (commitB s))) <| zhf <| ztn <| w_ret <| ze1 (.bool (rightB L s.sb s.sm (commitB s))) ?_
   exact ⟨by simp [rightC, b17, b18], H33.upd 0 rfl [] (fun _ h => h.elim)⟩
  have g36 := of_decide_eq_false b18
  refine h_know 20 (.bool false) (congrArg Value.bool b18) ?_
  refine zhpn 14 S16 13 20 true ?_
  refine zhpn 15 S16 13 20 true ?_
  refine zhpn 16 S16 13 20 true ?_
  refine zhpn 17 S16 13 20 true ?_
  refine zhpn 18 S16 13 20 true ?_
  refine zhpn 19 S16 13 20 true ?_
  refine hv0 20 S16 27 (.bool false) <| hv0 21 S16 6 (.bool false) <| zhf <| ztn <| w_ret <| ze1 (.bool false) ?_
  exact ⟨by simp [rightC, b17, b18], H14.upd 0 rfl [] (fun _ h => h.elim)⟩
 refine h_know 10 (.bool false) (congrArg Value.bool b17) ?_
 refine zhpn 4 S16 3 10 true ?_
 refine zhpn 5 S16 3 10 true ?_
 refine zhpn 6 S16 3 10 true ?_
 refine zhpn 7 S16 3 10 true ?_
 refine zhpn 8 S16 3 10 true ?_
 refine zhpn 9 S16 3 10 true ?_
 refine zhpn 10 S16 3 10 true ?_
 refine zhpn 11 S16 3 10 true ?_
 refine hv0 12 S16 19 (.bool false) <| hv0 13 S16 20 (.bool false) <| zhpn 14 S16 13 20 true ?_
 refine zhpn 15 S16 13 20 true ?_
 refine zhpn 16 S16 13 20 true ?_
 refine zhpn 17 S16 13 20 true ?_
 refine zhpn 18 S16 13 20 true ?_
 refine zhpn 19 S16 13 20 true ?_
 refine hv0 20 S16 27 (.bool false) <| hv0 21 S16 6 (.bool false) <| zhf <| ztn <| w_ret <| ze1 (.bool false) ?_
 exact ⟨by simp [rightC, b17], H14.upd 0 rfl [] (fun _ h => h.elim)⟩
theorem rRightS_any (w : World) (f cn : Int) (hf : -1099511627776 ≤ f ∧ f ≤ 1099511627776) (r : Nat) (ra : Option Addr) (rc : Nat) (L : List Signed) (hb : (cellC r 165 [.slice ra L.length rc]).ok w) (hr : (rowC 181 2 (.slice ra L.length rc) L.length (L.flatMap encS)).ok w) (hn : L.Nodup) (hL : L.length ≤ 1000000) (s : StampD) (hs : StOk s) :
  Calls Tryz.prog 116 #[(.agg ⟨([(.int .i64 (f)), (.int .i64 (cn))] : List Value)⟩), (.pointer (some ⟨r, 0, none⟩)), (.agg ⟨(([(.int .i64 (s.r)), (.int .i64 (s.cl)), (.int .i64 (s.seq))] : List Value) ++ hc s.h ++ ([(.int .u64 (s.t)), (.int .i64 (s.sb)), (.int .i64 (s.sm))] : List Value))⟩)] w fun e w' => e = .returned (.bool (rightS f L s)) ∧ Upd [] w w' := by
 have H := Sat.start0 w
 have hs2 := hs
 unfold StOk at hs2
 refine calls_fr Tryz.func116 rfl 43 rfl (Nat.le_of_ble_eq_true rfl) ?_
 refine zsl <| zwd fun Kq kq => zdb (kRg2t_0 f cn) H fun b2 w3 H4 => ?_
 refine kq _ _ <| zwd fun Kq kq => zdb (kRg2t_2 s) H4 fun b6 w7 H8 => ?_
 refine kq _ _ <| wv 6 (.bool false) <| znt <| w_seq <| h_start H8 [restC w (fun _ => False), cellC b2 29 (kRg2t_0 f cn), cellC b6 149 (kRg2t_2 s)] 37 rfl (by kernel_rfl) (fun Hx => (Hx.pk [0, 1, 2])) fun w9 H10 S11 => ?_
 refine hv0 0 S11 7 (pt b6 0) <| hv0 1 S11 8 (.int .i64 (s.r)) ?_ (he := fun _ H' => (zl1 (H'.cell 2 rfl (by kernel_rfl))))
 refine hv0 2 S11 9 (.bool (decide (s.r ≥ 0))) <| hv0 3 S11 10 (.bool (decide (s.r ≥ 0))) ?_
 refine (bsplit (decide (s.r ≥ 0))).elim (fun b12 => ?_) (fun b12 => ?_)
 ·have g13 := of_decide_eq_true b12
  refine h_know 10 (.bool true) (congrArg Value.bool b12) ?_
  refine zhvy 4 S11 3 10 true 11 (pt b6 0) <| zhvy 5 S11 3 10 true 12 (.int .i64 (s.r)) ?_ (he := fun _ H' => (zl1 (H'.cell 2 rfl (by kernel_rfl))))
  refine zhvy 6 S11 3 10 true 13 (.agg ⟨(kRg2t_0 f cn)⟩) ?_ (he := fun _ H' => (zlN (vs := (kRg2t_0 f cn)) (H'.at 1 rfl)))
  refine h_do 7 rfl (by kernel_rfl) (wantsY 3 10 true rfl (by kernel_rfl) rfl (by kernel_rfl)) (fun Kq kq => ?_)
  refine zdq 14 (rN_any w9 f cn (by omega)) H10 ?_
  intro w16 H17
  have S19 := H17.pk [0, 1, 2]
  refine kq _ _ S19 <| zhvy 8 S19 3 10 true 15 (.bool (decide (s.r < (3 * f + 1)))) <| hv0 9 S19 16 (.bool (decide (s.r < (3 * f + 1)))) <| hv0 10 S19 17 (.bool (decide (s.r < (3 * f + 1)))) ?_
  refine (bsplit (decide (s.r < (3 * f + 1)))).elim (fun b20 => ?_) (fun b20 => ?_)
  ·have g21 := of_decide_eq_true b20
   refine h_know 17 (.bool true) (congrArg Value.bool b20) ?_
   refine zhvy 11 S19 10 17 true 18 (pt b6 35) <| zhvy 12 S19 10 17 true 19 (.int .u64 (s.t)) ?_ (he := fun _ H' => (zl1 (H'.cell 2 rfl (by kernel_rfl))))
   refine zhvy 13 S19 10 17 true 20 (.bool (decide (s.t ≥ 1))) <| hv0 14 S19 21 (.bool (decide (s.t ≥ 1))) <| hv0 15 S19 22 (.bool (decide (s.t ≥ 1))) ?_
   refine (bsplit (decide (s.t ≥ 1))).elim (fun b23 => ?_) (fun b23 => ?_)
   ·have g24 := of_decide_eq_true b23
    refine h_know 22 (.bool true) (congrArg Value.bool b23) ?_
    refine zhvy 16 S19 15 22 true 23 (pt b6 35) <| zhvy 17 S19 15 22 true 24 (.int .u64 (s.t)) ?_ (he := fun _ H' => (zl1 (H'.cell 2 rfl (by kernel_rfl))))
    refine zhvy 18 S19 15 22 true 25 (.bool (decide (s.t < 18446744073709551615))) <| hv0 19 S19 26 (.bool (decide (s.t < 18446744073709551615))) <| hv0 20 S19 27 (.bool (decide (s.t < 18446744073709551615))) ?_
    refine (bsplit (decide (s.t < 18446744073709551615))).elim (fun b26 => ?_) (fun b26 => ?_)
    ·have g27 := of_decide_eq_true b26
     refine h_know 27 (.bool true) (congrArg Value.bool b26) ?_
     refine zhvy 21 S19 20 27 true 28 (pt b6 36) <| zhvy 22 S19 20 27 true 29 (pt b6 36) <| zhvy 23 S19 20 27 true 30 (.int .i64 (s.sb)) ?_ (he := fun _ H' => (zl1 (H'.cell 2 rfl (by kernel_rfl))))
     refine zhvy 24 S19 20 27 true 31 (pt b6 0) <| zhvy 25 S19 20 27 true 32 (.int .i64 (s.r)) ?_ (he := fun _ H' => (zl1 (H'.cell 2 rfl (by kernel_rfl))))
     refine zhvy 26 S19 20 27 true 33 (.bool (decide (s.sb = s.r))) <| hv0 27 S19 34 (.bool (decide (s.sb = s.r))) <| hv0 28 S19 35 (.bool (decide (s.sb = s.r))) ?_
     refine (bsplit (decide (s.sb = s.r))).elim (fun b29 => ?_) (fun b29 => ?_)
     ·have g29 := of_decide_eq_true b29
      refine h_know 35 (.bool true) (congrArg Value.bool b29) ?_
      refine zhvy 29 S19 28 35 true 36 (pt r 0) <| zhvy 30 S19 28 35 true 37 (pt b6 36) <| zhvy 31 S19 28 35 true 38 (.agg ⟨(kRg2t_0 s.sb s.sm)⟩) ?_ (he := fun _ H' => (zlN (vs := (kRg2t_0 s.sb s.sm)) (H'.at 2 rfl)))
      refine zhvy 32 S19 28 35 true 39 (.agg ⟨(kRg2t_2 s)⟩) ?_ (he := fun _ H' => (zlN (vs := (kRg2t_2 s)) (H'.at 2 rfl)))
      refine h_do 33 rfl (by kernel_rfl) (wantsY 28 35 true rfl (by kernel_rfl) rfl (by kernel_rfl)) (fun Kq kq => ?_)
      refine zdc 40 (rStampText_any w16 s hs) ?_
      rintro _ w33 ⟨u34, rfl, k35, p36, q37⟩
      have H38 := H17.addU p36 k35 q37
      obtain ⟨a39, c40, rfl⟩ := ownsRow_shape (H38.at 3 rfl)
      refine ⟨_, rfl, ?_⟩
      have S41 := H38.pk [0, 1, 2]
      refine kq _ _ S41 <| h_do 34 rfl (by kernel_rfl) (wantsY 28 35 true rfl (by kernel_rfl) rfl (by kernel_rfl)) (fun Kq kq => ?_)
      refine zdq 41 (rRightQ_any w33 r ra rc L (H38.roCk 0 rfl hb (fun _ _ h => h)) (H38.roCk 0 rfl hr (fun _ _ h => h)) hn hL a39 c40 (stampB s) (ListAt.row (enc := encB) (sz := 1) encB_len (by decide) (H38.at 3 rfl)) s.sb s.sm) H38 ?_
      intro w43 H44
      have S46 := H44.pk [0, 1, 2]
      refine kq _ _ S46 <| hv0 35 S46 42 (.bool (rightB L s.sb s.sm (stampB s))) <| hv0 36 S46 6 (.bool (rightB L s.sb s.sm (stampB s))) <| zhf <| ztn <| w_ret <| ze1 (.bool (rightB L s.sb s.sm (stampB s))) ?_
      exact ⟨by simp [rightS, inB, b12, b20, b23, b26, b29], H44.upd 0 rfl [] (fun _ h => h.elim)⟩
     have g47 := of_decide_eq_false b29
     refine h_know 35 (.bool false) (congrArg Value.bool b29) ?_
     refine zhpn 29 S19 28 35 true ?_
     refine zhpn 30 S19 28 35 true ?_
     refine zhpn 31 S19 28 35 true ?_
     refine zhpn 32 S19 28 35 true ?_
     refine zhpn 33 S19 28 35 true ?_
     refine zhpn 34 S19 28 35 true ?_
     refine hv0 35 S19 42 (.bool false) <| hv0 36 S19 6 (.bool false) <| zhf <| ztn <| w_ret <| ze1 (.bool false) ?_
     exact ⟨by simp [rightS, inB, b12, b20, b23, b26, b29], H17.upd 0 rfl [] (fun _ h => h.elim)⟩
    have g49 := of_decide_eq_false b26
    refine h_know 27 (.bool false) (congrArg Value.bool b26) ?_
    refine zhpn 21 S19 20 27 true ?_
    refine zhpn 22 S19 20 27 true ?_
    refine zhpn 23 S19 20 27 true ?_
    refine zhpn 24 S19 20 27 true ?_
    refine zhpn 25 S19 20 27 true ?_
    refine zhpn 26 S19 20 27 true ?_
    refine hv0 27 S19 34 (.bool false) <| hv0 28 S19 35 (.bool false) <| zhpn 29 S19 28 35 true ?_
    refine zhpn 30 S19 28 35 true ?_
    refine zhpn 31 S19 28 35 true ?_
    refine zhpn 32 S19 28 35 true ?_
    refine zhpn 33 S19 28 35 true ?_
    refine zhpn 34 S19 28 35 true ?_
    refine hv0 35 S19 42 (.bool false) <| hv0 36 S19 6 (.bool false) <| zhf <| ztn <| w_ret <| ze1 (.bool false) ?_
    exact ⟨by simp [rightS, inB, b12, b20, b23, b26], H17.upd 0 rfl [] (fun _ h => h.elim)⟩
   have g51 := of_decide_eq_false b23
   refine h_know 22 (.bool false) (congrArg Value.bool b23) ?_
   refine zhpn 16 S19 15 22 true ?_
   refine zhpn 17 S19 15 22 true ?_
   refine zhpn 18 S19 15 22 true ?_
   refine hv0 19 S19 26 (.bool false) <| hv0 20 S19 27 (.bool false) <| zhpn 21 S19 20 27 true ?_
   refine zhpn 22 S19 20 27 true ?_
   refine zhpn 23 S19 20 27 true ?_
   refine zhpn 24 S19 20 27 true ?_
   refine zhpn 25 S19 20 27 true ?_
   refine zhpn 26 S19 20 27 true ?_
   refine hv0 27 S19 34 (.bool false) <| hv0 28 S19 35 (.bool false) <| zhpn 29 S19 28 35 true ?_
   refine zhpn 30 S19 28 35 true ?_
   refine zhpn 31 S19 28 35 true ?_
   refine zhpn 32 S19 28 35 true ?_
   refine zhpn 33 S19 28 35 true ?_
   refine zhpn 34 S19 28 35 true ?_
   refine hv0 35 S19 42 (.bool false) <| hv0 36 S19 6 (.bool false) <| zhf <| ztn <| w_ret <| ze1 (.bool false) ?_
   exact ⟨by simp [rightS, inB, b12, b20, b23], H17.upd 0 rfl [] (fun _ h => h.elim)⟩
  have g53 := of_decide_eq_false b20
  refine h_know 17 (.bool false) (congrArg Value.bool b20) ?_
  refine zhpn 11 S19 10 17 true ?_
  refine zhpn 12 S19 10 17 true ?_
  refine zhpn 13 S19 10 17 true ?_
  refine hv0 14 S19 21 (.bool false) <| hv0 15 S19 22 (.bool false) <| zhpn 16 S19 15 22 true ?_
  refine zhpn 17 S19 15 22 true ?_
  refine zhpn 18 S19 15 22 true ?_
  refine hv0 19 S19 26 (.bool false) <| hv0 20 S19 27 (.bool false) <| zhpn 21 S19 20 27 true ?_
  refine zhpn 22 S19 20 27 true ?_
  refine zhpn 23 S19 20 27 true ?_
  refine zhpn 24 S19 20 27 true ?_
  refine zhpn 25 S19 20 27 true ?_
  refine zhpn 26 S19 20 27 true ?_
  refine hv0 27 S19 34 (.bool false) <| hv0 28 S19 35 (.bool false) <| zhpn 29 S19 28 35 true ?_
  refine zhpn 30 S19 28 35 true ?_
  refine zhpn 31 S19 28 35 true ?_
  refine zhpn 32 S19 28 35 true ?_
  refine zhpn 33 S19 28 35 true ?_
  refine zhpn 34 S19 28 35 true ?_
  refine hv0 35 S19 42 (.bool false) <| hv0 36 S19 6 (.bool false) <| zhf <| ztn <| w_ret <| ze1 (.bool false) ?_
  exact ⟨by simp [rightS, inB, b12, b20], H17.upd 0 rfl [] (fun _ h => h.elim)⟩
 have g55 := of_decide_eq_false b12
 refine h_know 10 (.bool false) (congrArg Value.bool b12) ?_
 refine zhpn 4 S11 3 10 true ?_
 refine zhpn 5 S11 3 10 true ?_
 refine zhpn 6 S11 3 10 true ?_
 refine zhpn 7 S11 3 10 true ?_
 refine zhpn 8 S11 3 10 true ?_
 refine hv0 9 S11 16 (.bool false) <| hv0 10 S11 17 (.bool false) <| zhpn 11 S11 10 17 true ?_
 refine zhpn 12 S11 10 17 true ?_
 refine zhpn 13 S11 10 17 true ?_
 refine hv0 14 S11 21 (.bool false) <| hv0 15 S11 22 (.bool false) <| zhpn 16 S11 15 22 true ?_
 refine zhpn 17 S11 15 22 true ?_
 refine zhpn 18 S11 15 22 true ?_
 refine hv0 19 S11 26 (.bool false) <| hv0 20 S11 27 (.bool false) <| zhpn 21 S11 20 27 true ?_
 refine zhpn 22 S11 20 27 true ?_
 refine zhpn 23 S11 20 27 true ?_
 refine zhpn 24 S11 20 27 true ?_
 refine zhpn 25 S11 20 27 true ?_
 refine zhpn 26 S11 20 27 true ?_
 refine hv0 27 S11 34 (.bool false) <| hv0 28 S11 35 (.bool false) <| zhpn 29 S11 28 35 true ?_
 refine zhpn 30 S11 28 35 true ?_
 refine zhpn 31 S11 28 35 true ?_
 refine zhpn 32 S11 28 35 true ?_
 refine zhpn 33 S11 28 35 true ?_
 refine zhpn 34 S11 28 35 true ?_
 refine hv0 35 S11 42 (.bool false) <| hv0 36 S11 6 (.bool false) <| zhf <| ztn <| w_ret <| end1 rfl (res_tmp (v := (.bool false)) rfl) ?_
 exact ⟨by simp [rightS, inB, b12], H10.upd 0 rfl [] (fun _ h => h.elim)⟩
theorem rRightX_any (w : World) (f cn : Int) (hf : -1099511627776 ≤ f ∧ f ≤ 1099511627776) (r : Nat) (ra : Option Addr) (rc : Nat) (L : List Signed) (hb : (cellC r 165 [.slice ra L.length rc]).ok w) (hr : (rowC 181 2 (.slice ra L.length rc) L.length (L.flatMap encS)).ok w) (hn : L.Nodup) (hL : L.length ≤ 1000000) (x : CommitD) (hx : CoOk x) (sa : Option Addr) (sc : Nat) (S : List StampD) (hS : ListAt encSt 38 w (.slice sa S.length sc) S) (hok : StsOk S) (hlS : S.length ≤ 1000000) :
  Calls Tryz.prog 85 #[(.agg ⟨([(.int .i64 (f)), (.int .i64 (cn))] : List Value)⟩), (.pointer (some ⟨r, 0, none⟩)), (.agg ⟨(([(.int .i64 (x.cl)), (.int .i64 (x.seq))] : List Value) ++ hc x.h ++ ([(.int .i64 (x.len)), (.int .i64 (x.sb)), (.int .i64 (x.sm)), (.slice sa S.length sc)] : List Value))⟩)] w fun e w' => e = .returned (.bool (rightX f cn L x S)) ∧ Upd [] w w' := by
 have H := Sat.start0 w
 refine calls_fr Tryz.func85 rfl 72 rfl (Nat.le_of_ble_eq_true rfl) ?_
 refine zsl <| zwd fun Kq kq => zdb (kRg2t_0 f cn) H fun b2 w3 H4 => ?_
 refine kq _ _ <| zwd fun Kq kq => zdb (kRg2t_3 x sa S.length sc) H4 fun b6 w7 H8 => ?_
 refine kq _ _ <| wv 6 (.bool false) <| znt <| w_seq <| w_seq <| zqs H8 ?_
 refine qv 9 (.agg ⟨(kRg2t_0 f cn)⟩) ?_ (hr := fun _ H' => (zlN (vs := (kRg2t_0 f cn)) (H'.at 1 rfl)))
 refine qv 10 (pt r 0) <| qv 11 (pt b6 0) <| qv 12 (.agg ⟨(kRg2t_1 x)⟩) ?_ (hr := fun _ H' => (zlN (vs := (kRg2t_1 x)) (H'.at 2 rfl)))
 refine q_call (wants0 rfl) (d := 13) (v := (.bool (rightC cn L x))) rfl (fun _ _ => by kernel_rfl) (fun w' H' => (rRightC_any w' f cn (by omega) r ra rc L (H'.roCk 0 rfl hb (fun _ _ h => h)) (H'.roCk 0 rfl hr (fun _ _ h => h)) hn hL x hx).mono fun _ _ h => ⟨h.1, H'.keepU h.2⟩) ?_
 refine qv 14 (.bool (!(rightC cn L x))) <| qv 15 (.bool (!(rightC cn L x))) ?_
 refine (bsplit (!(rightC cn L x))).elim (fun b9 => ?_) (fun b9 => ?_)
 ·have g10 := bnot_true b9
  refine q_know 15 (.bool true) (congrArg Value.bool b9) ?_
  iterate 6 refine qn 6 15 false ?_
  refine qv 22 (.bool true) <| q_end fun w12 H13 => ?_
  refine ztn <| wp_ift rfl ?_
  refine zsl <| wv 6 (.bool false) <| znt <| w_ret <| then_ret <| ze1 (.bool false) ?_
  have n14 := bnot_true b9
  exact ⟨by simp only [rightX, n14, Bool.not_true, Bool.not_false, Bool.true_or, Bool.false_or, Bool.or_true, Bool.or_false, Bool.and_true, Bool.true_and, Bool.and_false, Bool.false_and], H13.upd 0 rfl [] (fun _ h => h.elim)⟩
 have g15 := bnot_false b9
 refine q_know 15 (.bool false) (congrArg Value.bool b9) ?_
 refine qy 6 15 false 16 (pt b6 37) <| qy 6 15 false 17 (.slice sa S.length sc) ?_ (hr := fun _ H' => (zl1 (H'.cell 2 rfl (by kernel_rfl))))
 refine q_val (wantsY 6 15 false rfl (by kernel_rfl) rfl (by kernel_rfl)) (d := 18) (v := (.int .i64 ((S.length : Int)))) rfl (fun _ H' => (by kernel_rfl)) ?_
 refine qy 6 15 false 19 (.agg ⟨(kRg2t_0 f cn)⟩) ?_ (hr := fun _ H' => (zlN (vs := (kRg2t_0 f cn)) (H'.at 1 rfl)))
 refine q_call (wantsY 6 15 false rfl (by kernel_rfl) rfl (by kernel_rfl)) (d := 20) (v := (.int .i64 (2 * f + 1))) rfl (fun _ _ => by kernel_rfl) (fun w' H' => (rQ_any w' f cn (by omega)).mono fun _ _ h => ⟨h.1, H'.keepU h.2⟩) ?_
 refine qy 6 15 false 21 (.bool (!(decide ((S.length : Int) = (2 * f + 1))))) <| qv 22 (.bool (!(decide ((S.length : Int) = (2 * f + 1))))) <| q_end fun w17 H18 => ?_
 refine then_normal ?_
 refine (bsplit (!(decide ((S.length : Int) = (2 * f + 1))))).elim (fun b19 => ?_) (fun b19 => ?_)
 ·have g20 := bnot_true b19
  have g21 := of_decide_eq_false g20
  refine wp_know 22 (.bool true) (congrArg Value.bool b19) ?_
  have g22 := bnot_true b19
  have g23 := of_decide_eq_false g22
  refine wp_ift rfl ?_
  refine zsl <| wv 6 (.bool false) <| znt <| w_ret <| then_ret <| ze1 (.bool false) ?_
  have n24 := bnot_false b9
  have n25 := bnot_true b19
  exact ⟨by simp only [rightX, n24, n25, Bool.not_true, Bool.not_false, Bool.true_or, Bool.false_or, Bool.or_true, Bool.or_false, Bool.and_true, Bool.true_and, Bool.and_false, Bool.false_and], H18.upd 0 rfl [] (fun _ h => h.elim)⟩
 have g26 := bnot_false b19
 have g27 := of_decide_eq_true g26
 refine wp_know 22 (.bool false) (congrArg Value.bool b19) ?_
 have g28 := bnot_false b19
 have g29 := of_decide_eq_true g28
 refine wp_iff rfl ?_
 refine w_skip <| ztn <| w_seq <| zsl <| wv 23 (pt b6 37) <| zw1 24 (.slice sa S.length sc) (H18.cell 2 rfl (by kernel_rfl)) <| wv 25 (.int .i64 ((S.length : Int))) <| wv 26 (.int .i64 (0)) <| znt <| w_block ?_
 have n30 := bnot_false b9
 have n31 := bnot_false b19
 refine wp_round ([6, 7, 8] ++ List.range' 26 46) (fun F_ W_ m_ => ∃ (i : Nat), F_ 26 = (.int .i64 ((i : Int))) ∧ (i ≤ S.length) ∧ (∀ j, j < i → okAt f L x S j = true) ∧ Sat w [restC w (fun _ => False), cellC b2 29 (kRg2t_0 f cn), cellC b6 76 (kRg2t_3 x sa S.length sc)] W_ ∧ m_ = S.length - i) _ ⟨0, (show ((.int .i64 (0)) : Value) = _ by first | rfl | go_num), (Nat.zero_le _), (fun _ h => absurd h (Nat.not_lt_zero _)), H18, rfl⟩ ?_
 rintro g32 w33 _ ⟨i, v35, hi, hall, H34, rfl⟩
 refine wp_know 26 _ v35 ?_
 refine zsl <| wv 27 (.bool (decide ((i : Int) < (S.length : Int)))) <| znt <| w_seq ?_
 refine (bsplit (decide ((i : Int) < (S.length : Int)))).elim (fun b37 => ?_) (fun b37 => ?_)
 ·have g38 := of_decide_eq_true b37
  refine zwkt _ b37 ?_
  refine w_skip <| ztn <| w_seq <| w_block <| zsl <| wv 28 (.int .i64 ((i : Int))) <| wv 7 (.int .i64 ((i : Int))) <| znsl <| wv 29 (pt b6 37) <| zw1 30 (.slice sa S.length sc) (H34.cell 2 rfl (by kernel_rfl)) ?_
  refine wv 31 (.int .i64 ((i : Int))) ?_
  obtain ⟨g40, o41, c42, e43, R44⟩ := SliceOf.atD hS stamp0 (show i < S.length by omega)
  refine wv 32 (.pointer (some ⟨g40, o41 + ((i : Int)).toNat * 38, none⟩)) ?_ (hr := e_indexAddrW (E := 149) (by kernel_rfl) (by kernel_rfl) (Nat.le_of_ble_eq_true rfl) rfl e43 rfl (by omega) (by omega))
  refine wv 33 (.agg ⟨(kRg2t_2 (S.getD i stamp0))⟩) ?_ (hr := e_loadRun (vs := (kRg2t_2 (S.getD i stamp0))) rfl (by kernel_rfl) (by kernel_rfl) (Nat.le_of_ble_eq_true (by kernel_rfl)) (H34.runR 0 rfl (cells_run R44 0 (by kernel_rfl) (show o41 + ((i : Int)).toNat * 38 = o41 + i * 38 + 0 by omega)) (fun h => h)))
  refine zwd fun Kq kq => zda (kRg2t_4) H34 fun b46 w47 H48 => ?_
  refine kq _ _ <| zwd fun Kq kq => zds1 (kRg2t_2 (S.getD i stamp0)) H48 3 fun w50 H51 => ?_
  refine kq _ _ <| znt <| w_seq <| zqs H51 ?_
  refine qv 34 (.int .i64 ((i : Int))) <| qv 35 (.bool (decide ((i : Int) > 0))) <| qv 36 (.bool (decide ((i : Int) > 0))) ?_
  refine (bsplit (decide ((i : Int) > 0))).elim (fun b53 => ?_) (fun b53 => ?_)
  ·have g54 := of_decide_eq_true b53
   refine q_know 36 (.bool true) (congrArg Value.bool b53) ?_
   refine qy 2 36 true 37 (pt b46 0) <| qy 2 36 true 38 (.int .i64 ((S.getD i stamp0).r)) ?_ (hr := fun _ H' => (zl1 (H'.cell 3 rfl (by kernel_rfl))))
   refine qy 2 36 true 39 (pt b6 37) <| qy 2 36 true 40 (.slice sa S.length sc) ?_ (hr := fun _ H' => (zl1 (H'.cell 2 rfl (by kernel_rfl))))
   refine qy 2 36 true 41 (.int .i64 ((i : Int))) <| qy 2 36 true 42 (.int .i64 ((i : Int) - 1)) ?_ (hr := fun _ H' => (e_int (z := (i : Int) - 1) (by kernel_rfl) (IntWalk.i64_in _ (by omega))))
   obtain ⟨g56, o57, c58, e59, R60⟩ := SliceOf.atD hS stamp0 (show ((i : Int) - 1).toNat < S.length by omega)
   refine qy 2 36 true 43 (.pointer (some ⟨g56, o57 + ((i : Int) - 1).toNat * 38, none⟩)) ?_ (hr := fun _ H' => (e_indexAddrW (E := 149) (by kernel_rfl) (by kernel_rfl) (Nat.le_of_ble_eq_true rfl) rfl e59 rfl (by omega) (by omega)))
   refine qy 2 36 true 44 (.pointer (some ⟨g56, o57 + ((i : Int) - 1).toNat * 38, none⟩)) <| qy 2 36 true 45 (.int .i64 ((S.getD ((i : Int) - 1).toNat stamp0).r)) ?_ (hr := fun _ H' => (zl1 (H'.cellR 0 rfl (cells_at R60 0 (by kernel_rfl) (show o57 + ((i : Int) - 1).toNat * 38 = o57 + ((i : Int) - 1).toNat * 38 + 0 by omega)) (fun h => h))))
   refine qy 2 36 true 46 (.bool (decide (((S.getD i stamp0).r) ≤ ((S.getD ((i : Int) - 1).toNat stamp0).r)))) <| qv 47 (.bool (decide (((S.getD i stamp0).r) ≤ ((S.getD ((i : Int) - 1).toNat stamp0).r)))) <| qv 48 (.bool (decide (((S.getD i stamp0).r) ≤ ((S.getD ((i : Int) - 1).toNat stamp0).r)))) ?_
   refine (bsplit (decide (((S.getD i stamp0).r) ≤ ((S.getD ((i : Int) - 1).toNat stamp0).r)))).elim (fun b61 => ?_) (fun b61 => ?_)
   ·have g62 := of_decide_eq_true b61
    refine q_know 48 (.bool true) (congrArg Value.bool b61) ?_
    iterate 6 refine qn 14 48 false ?_
    refine qv 55 (.bool true) <| qv 56 (.bool true) ?_
    iterate 6 refine qn 22 56 false ?_
    refine qv 63 (.bool true) <| qv 64 (.bool true) ?_
    iterate 5 refine qn 30 64 false ?_
    refine qv 70 (.bool true) <| q_end fun w64 H65 => ?_
    refine ztn <| wp_ift rfl ?_
    refine zsl <| wv 6 (.bool false) <| znt <| w_ret <| blk_ret <| then_ret <| back_ret <| blk_ret <| then_ret <| ze1 (.bool false) ?_
    have e1 : ((i : Int) - 1).toNat = i - 1 := by omega
    have ho : okAt f L x S i = false := by unfold okAt sameN; rw [← e1]; simp only [b37, b53, b61, Bool.not_true, Bool.not_false, Bool.true_or, Bool.false_or, Bool.or_true, Bool.or_false, Bool.and_true, Bool.true_and, Bool.and_false, Bool.false_and]
    exact ⟨by simp only [rightX, all_not (show i < S.length by omega) ho, Bool.and_false], H65.upd 0 rfl [] (fun _ h => h.elim)⟩
   have g66 := of_decide_eq_false b61
   refine q_know 48 (.bool false) (congrArg Value.bool b61) ?_
   refine qy 14 48 false 49 (pt b46 1) <| qy 14 48 false 50 (.agg ⟨(kRg2t_5 (S.getD i stamp0))⟩) ?_ (hr := fun _ H' => (zlN (vs := (kRg2t_5 (S.getD i stamp0))) (H'.at 3 rfl)))
   refine qy 14 48 false 51 (pt b6 0) <| qy 14 48 false 52 (pt b6 0) <| qy 14 48 false 53 (.agg ⟨(kRg2t_0 x.cl x.seq)⟩) ?_ (hr := fun _ H' => (zlN (vs := (kRg2t_0 x.cl x.seq)) (H'.at 2 rfl)))
   refine qy 14 48 false 54 (.bool (!(decide (((S.getD i stamp0).cl) = x.cl ∧ ((S.getD i stamp0).seq) = x.seq)))) ?_ (hr := fun _ H' => (e_neqName ((S.getD i stamp0).cl) ((S.getD i stamp0).seq) x.cl x.seq rfl rfl))
   refine qv 55 (.bool (!(decide (((S.getD i stamp0).cl) = x.cl ∧ ((S.getD i stamp0).seq) = x.seq)))) <| qv 56 (.bool (!(decide (((S.getD i stamp0).cl) = x.cl ∧ ((S.getD i stamp0).seq) = x.seq)))) ?_
   refine (bsplit (!(decide (((S.getD i stamp0).cl) = x.cl ∧ ((S.getD i stamp0).seq) = x.seq)))).elim (fun b68 => ?_) (fun b68 => ?_)
   ·have g69 := bnot_true b68
    refine q_know 56 (.bool true) (congrArg Value.bool b68) ?_
    iterate 6 refine qn 22 56 false ?_
    refine qv 63 (.bool true) <| qv 64 (.bool true) ?_
    iterate 5 refine qn 30 64 false ?_
    refine qv 70 (.bool true) <| q_end fun w71 H72 => ?_
    refine ztn <| wp_ift rfl ?_
    refine zsl <| wv 6 (.bool false) <| znt <| w_ret <| blk_ret <| then_ret <| back_ret <| blk_ret <| then_ret <| ze1 (.bool false) ?_
    have n73 := bnot_true b68
    have e1 : ((i : Int) - 1).toNat = i - 1 := by omega
    have ho : okAt f L x S i = false := by unfold okAt sameN; rw [← e1]; simp only [b37, b53, b61, n73, Bool.not_true, Bool.not_false, Bool.true_or, Bool.false_or, Bool.or_true, Bool.or_false, Bool.and_true, Bool.true_and, Bool.and_false, Bool.false_and]
    exact ⟨by simp only [rightX, all_not (show i < S.length by omega) ho, Bool.and_false], H72.upd 0 rfl [] (fun _ h => h.elim)⟩
   have g74 := bnot_false b68
   refine q_know 56 (.bool false) (congrArg Value.bool b68) ?_
   refine qy 22 56 false 57 (pt b46 3) <| qy 22 56 false 58 (.agg ⟨(hc (S.getD i stamp0).h)⟩) ?_ (hr := fun _ H' => (zlN (vs := (hc (S.getD i stamp0).h)) (H'.at 3 rfl)))
   refine qy 22 56 false 59 (pt b6 0) <| qy 22 56 false 60 (pt b6 2) <| qy 22 56 false 61 (.agg ⟨(hc x.h)⟩) ?_ (hr := fun _ H' => (zlN (vs := (hc x.h)) (H'.at 2 rfl)))
   refine qy 22 56 false 62 (.bool (!(decide (((S.getD i stamp0).h) = x.h)))) ?_ (hr := fun _ H' => (e_neHash ((S.getD i stamp0).h) x.h rfl rfl))
   refine qv 63 (.bool (!(decide (((S.getD i stamp0).h) = x.h)))) <| qv 64 (.bool (!(decide (((S.getD i stamp0).h) = x.h)))) ?_
   refine (bsplit (!(decide (((S.getD i stamp0).h) = x.h)))).elim (fun b76 => ?_) (fun b76 => ?_)
   ·have g77 := bnot_true b76
    have g78 := of_decide_eq_false g77
    refine q_know 64 (.bool true) (congrArg Value.bool b76) ?_
    iterate 5 refine qn 30 64 false ?_
    refine qv 70 (.bool true) <| q_end fun w81 H82 => ?_
    refine ztn <| wp_ift rfl ?_
    refine zsl <| wv 6 (.bool false) <| znt <| w_ret <| blk_ret <| then_ret <| back_ret <| blk_ret <| then_ret <| ze1 (.bool false) ?_
    have n83 := bnot_false b68
    have n84 := bnot_true b76
    have e1 : ((i : Int) - 1).toNat = i - 1 := by omega
    have ho : okAt f L x S i = false := by unfold okAt sameN; rw [← e1]; simp only [b37, b53, b61, n83, n84, Bool.not_true, Bool.not_false, Bool.true_or, Bool.false_or, Bool.or_true, Bool.or_false, Bool.and_true, Bool.true_and, Bool.and_false, Bool.false_and]
    exact ⟨by simp only [rightX, all_not (show i < S.length by omega) ho, Bool.and_false], H82.upd 0 rfl [] (fun _ h => h.elim)⟩
   have g85 := bnot_false b76
   have g86 := of_decide_eq_true g85
   refine q_know 64 (.bool false) (congrArg Value.bool b76) ?_
   refine qy 30 64 false 65 (.agg ⟨(kRg2t_0 f cn)⟩) ?_ (hr := fun _ H' => (zlN (vs := (kRg2t_0 f cn)) (H'.at 1 rfl)))
   refine qy 30 64 false 66 (pt r 0) <| qy 30 64 false 67 (.agg ⟨(kRg2t_2 (S.getD i stamp0))⟩) ?_ (hr := fun _ H' => (zlN (vs := (kRg2t_2 (S.getD i stamp0))) (H'.at 3 rfl)))
   refine q_call (wantsY 30 64 false rfl (by kernel_rfl) rfl (by kernel_rfl)) (d := 68) (v := (.bool (rightS f L (S.getD i stamp0)))) rfl (fun _ _ => by kernel_rfl) (fun w' H' => (rRightS_any w' f cn (by omega) r ra rc L (H'.roCk 0 rfl hb (fun _ _ h => h)) (H'.roCk 0 rfl hr (fun _ _ h => h)) hn hL (S.getD i stamp0) (hok _ (by omega))).mono fun _ _ h => ⟨h.1, H'.keepU h.2⟩) ?_
   refine qy 30 64 false 69 (.bool (!(rightS f L (S.getD i stamp0)))) <| qv 70 (.bool (!(rightS f L (S.getD i stamp0)))) <| q_end fun w89 H90 => ?_
   apply ztn
   refine (bsplit (!(rightS f L (S.getD i stamp0)))).elim (fun b91 => ?_) (fun b91 => ?_)
   ·have g92 := bnot_true b91
    refine zwkt _ b91 ?_
    refine zsl <| wv 6 (.bool false) <| znt <| w_ret <| blk_ret <| then_ret <| back_ret <| blk_ret <| then_ret <| ze1 (.bool false) ?_
    have n94 := bnot_false b68
    have n95 := bnot_false b76
    have n96 := bnot_true b91
    have e1 : ((i : Int) - 1).toNat = i - 1 := by omega
    have ho : okAt f L x S i = false := by unfold okAt sameN; rw [← e1]; simp only [b37, b53, b61, n94, n95, n96, Bool.not_true, Bool.not_false, Bool.true_or, Bool.false_or, Bool.or_true, Bool.or_false, Bool.and_true, Bool.true_and, Bool.and_false, Bool.false_and]
    exact ⟨by simp only [rightX, all_not (show i < S.length by omega) ho, Bool.and_false], H90.upd 0 rfl [] (fun _ h => h.elim)⟩
   have g97 := bnot_false b91
   refine zwkf _ b91 ?_
   refine w_skip <| blk_normal <| ztn <| w_lit <| zwi 71 ((i : Int) + 1) <| wv 26 (.int .i64 ((i : Int) + 1)) <| w_nil ?_
   have n99 := bnot_false b68
   have n100 := bnot_false b76
   have n101 := bnot_false b91
   have e1 : ((i : Int) - 1).toNat = i - 1 := by omega
   have ho : okAt f L x S i = true := by unfold okAt sameN; rw [← e1]; simp only [b37, b53, b61, n99, n100, n101, Bool.not_true, Bool.not_false, Bool.true_or, Bool.false_or, Bool.or_true, Bool.or_false, Bool.and_true, Bool.true_and, Bool.and_false, Bool.false_and]
   have H102 := H90.pk [0, 1, 2]
   refine round_back ?_ _ ⟨(i + 1), rfl, (by omega), (fun j hj => by rcases Nat.lt_or_ge j i with h | h; exact hall j h; rw [show j = i by omega]; exact ho), H102, rfl⟩ (by omega)
   exact zs
  have g103 := of_decide_eq_false b53
  refine q_know 36 (.bool false) (congrArg Value.bool b53) ?_
  iterate 10 refine qn 2 36 true ?_
  refine qv 47 (.bool false) <| qv 48 (.bool false) <| qy 14 48 false 49 (pt b46 1) <| qy 14 48 false 50 (.agg ⟨(kRg2t_5 (S.getD i stamp0))⟩) ?_ (hr := fun _ H' => (zlN (vs := (kRg2t_5 (S.getD i stamp0))) (H'.at 3 rfl)))
  refine qy 14 48 false 51 (pt b6 0) <| qy 14 48 false 52 (pt b6 0) <| qy 14 48 false 53 (.agg ⟨(kRg2t_0 x.cl x.seq)⟩) ?_ (hr := fun _ H' => (zlN (vs := (kRg2t_0 x.cl x.seq)) (H'.at 2 rfl)))
  refine qy 14 48 false 54 (.bool (!(decide (((S.getD i stamp0).cl) = x.cl ∧ ((S.getD i stamp0).seq) = x.seq)))) ?_ (hr := fun _ H' => (e_neqName ((S.getD i stamp0).cl) ((S.getD i stamp0).seq) x.cl x.seq rfl rfl))
  refine qv 55 (.bool (!(decide (((S.getD i stamp0).cl) = x.cl ∧ ((S.getD i stamp0).seq) = x.seq)))) <| qv 56 (.bool (!(decide (((S.getD i stamp0).cl) = x.cl ∧ ((S.getD i stamp0).seq) = x.seq)))) ?_
  refine (bsplit (!(decide (((S.getD i stamp0).cl) = x.cl ∧ ((S.getD i stamp0).seq) = x.seq)))).elim (fun b105 => ?_) (fun b105 => ?_)
  ·have g106 := bnot_true b105
   refine q_know 56 (.bool true) (congrArg Value.bool b105) ?_
   iterate 6 refine qn 22 56 false ?_
   refine qv 63 (.bool true) <| qv 64 (.bool true) ?_
   iterate 5 refine qn 30 64 false ?_
   refine qv 70 (.bool true) <| q_end fun w108 H109 => ?_
   refine ztn <| wp_ift rfl ?_
   refine zsl <| wv 6 (.bool false) <| znt <| w_ret <| blk_ret <| then_ret <| back_ret <| blk_ret <| then_ret <| ze1 (.bool false) ?_
   have n110 := bnot_true b105
   have e1 : ((i : Int) - 1).toNat = i - 1 := by omega
   have ho : okAt f L x S i = false := by unfold okAt sameN; rw [← e1]; simp only [b37, b53, n110, Bool.not_true, Bool.not_false, Bool.true_or, Bool.false_or, Bool.or_true, Bool.or_false, Bool.and_true, Bool.true_and, Bool.and_false, Bool.false_and]
   exact ⟨by simp only [rightX, all_not (show i < S.length by omega) ho, Bool.and_false], H109.upd 0 rfl [] (fun _ h => h.elim)⟩
  have g111 := bnot_false b105
  refine q_know 56 (.bool false) (congrArg Value.bool b105) ?_
  refine qy 22 56 false 57 (pt b46 3) <| qy 22 56 false 58 (.agg ⟨(hc (S.getD i stamp0).h)⟩) ?_ (hr := fun _ H' => (zlN (vs := (hc (S.getD i stamp0).h)) (H'.at 3 rfl)))
  refine qy 22 56 false 59 (pt b6 0) <| qy 22 56 false 60 (pt b6 2) <| qy 22 56 false 61 (.agg ⟨(hc x.h)⟩) ?_ (hr := fun _ H' => (zlN (vs := (hc x.h)) (H'.at 2 rfl)))
  refine qy 22 56 false 62 (.bool (!(decide (((S.getD i stamp0).h) = x.h)))) ?_ (hr := fun _ H' => (e_neHash ((S.getD i stamp0).h) x.h rfl rfl))
  refine qv 63 (.bool (!(decide (((S.getD i stamp0).h) = x.h)))) <| qv 64 (.bool (!(decide (((S.getD i stamp0).h) = x.h)))) ?_
  refine (bsplit (!(decide (((S.getD i stamp0).h) = x.h)))).elim (fun b113 => ?_) (fun b113 => ?_)
  ·have g114 := bnot_true b113
   have g115 := of_decide_eq_false g114
   refine q_know 64 (.bool true) (congrArg Value.bool b113) ?_
   iterate 5 refine qn 30 64 false ?_
   refine qv 70 (.bool true) <| q_end fun w118 H119 => ?_
   refine ztn <| wp_ift rfl ?_
   refine zsl <| wv 6 (.bool false) <| znt <| w_ret <| blk_ret <| then_ret <| back_ret <| blk_ret <| then_ret <| ze1 (.bool false) ?_
   have n120 := bnot_false b105
   have n121 := bnot_true b113
   have e1 : ((i : Int) - 1).toNat = i - 1 := by omega
   have ho : okAt f L x S i = false := by unfold okAt sameN; rw [← e1]; simp only [b37, b53, n120, n121, Bool.not_true, Bool.not_false, Bool.true_or, Bool.false_or, Bool.or_true, Bool.or_false, Bool.and_true, Bool.true_and, Bool.and_false, Bool.false_and]
   exact ⟨by simp only [rightX, all_not (show i < S.length by omega) ho, Bool.and_false], H119.upd 0 rfl [] (fun _ h => h.elim)⟩
  have g122 := bnot_false b113
  have g123 := of_decide_eq_true g122
  refine q_know 64 (.bool false) (congrArg Value.bool b113) ?_
  refine qy 30 64 false 65 (.agg ⟨(kRg2t_0 f cn)⟩) ?_ (hr := fun _ H' => (zlN (vs := (kRg2t_0 f cn)) (H'.at 1 rfl)))
  refine qy 30 64 false 66 (pt r 0) <| qy 30 64 false 67 (.agg ⟨(kRg2t_2 (S.getD i stamp0))⟩) ?_ (hr := fun _ H' => (zlN (vs := (kRg2t_2 (S.getD i stamp0))) (H'.at 3 rfl)))
  refine q_call (wantsY 30 64 false rfl (by kernel_rfl) rfl (by kernel_rfl)) (d := 68) (v := (.bool (rightS f L (S.getD i stamp0)))) rfl (fun _ _ => by kernel_rfl) (fun w' H' => (rRightS_any w' f cn (by omega) r ra rc L (H'.roCk 0 rfl hb (fun _ _ h => h)) (H'.roCk 0 rfl hr (fun _ _ h => h)) hn hL (S.getD i stamp0) (hok _ (by omega))).mono fun _ _ h => ⟨h.1, H'.keepU h.2⟩) ?_
  refine qy 30 64 false 69 (.bool (!(rightS f L (S.getD i stamp0)))) <| qv 70 (.bool (!(rightS f L (S.getD i stamp0)))) <| q_end fun w126 H127 => ?_
  apply ztn
  refine (bsplit (!(rightS f L (S.getD i stamp0)))).elim (fun b128 => ?_) (fun b128 => ?_)
  ·have g129 := bnot_true b128
   refine zwkt _ b128 ?_
   refine zsl <| wv 6 (.bool false) <| znt <| w_ret <| blk_ret <| then_ret <| back_ret <| blk_ret <| then_ret <| ze1 (.bool false) ?_
   have n131 := bnot_false b105
   have n132 := bnot_false b113
   have n133 := bnot_true b128
   have e1 : ((i : Int) - 1).toNat = i - 1 := by omega
   have ho : okAt f L x S i = false := by unfold okAt sameN; rw [← e1]; simp only [b37, b53, n131, n132, n133, Bool.not_true, Bool.not_false, Bool.true_or, Bool.false_or, Bool.or_true, Bool.or_false, Bool.and_true, Bool.true_and, Bool.and_false, Bool.false_and]
   exact ⟨by simp only [rightX, all_not (show i < S.length by omega) ho, Bool.and_false], H127.upd 0 rfl [] (fun _ h => h.elim)⟩
  have g134 := bnot_false b128
  refine zwkf _ b128 ?_
  refine w_skip <| blk_normal <| ztn <| w_lit <| zwi 71 ((i : Int) + 1) <| wv 26 (.int .i64 ((i : Int) + 1)) <| w_nil ?_
  have n136 := bnot_false b105
  have n137 := bnot_false b113
  have n138 := bnot_false b128
  have e1 : ((i : Int) - 1).toNat = i - 1 := by omega
  have ho : okAt f L x S i = true := by unfold okAt sameN; rw [← e1]; simp only [b37, b53, n136, n137, n138, Bool.not_true, Bool.not_false, Bool.true_or, Bool.false_or, Bool.or_true, Bool.or_false, Bool.and_true, Bool.true_and, Bool.and_false, Bool.false_and]
  have H139 := H127.pk [0, 1, 2]
  refine round_back ?_ _ ⟨(i + 1), rfl, (by omega), (fun j hj => by rcases Nat.lt_or_ge j i with h | h; exact hall j h; rw [show j = i by omega]; exact ho), H139, rfl⟩ (by omega)
  exact zs
 have g140 := of_decide_eq_false b37
 refine zwkf _ b37 ?_
 refine zxb <| ztn <| zsl <| wv 6 (.bool true) <| znt <| w_ret <| ze1 (.bool true) ?_
 have hn0 : i = S.length := by omega
 subst hn0
 exact ⟨by simp only [rightX, all_upto hall, n30, n31, Bool.not_true, Bool.not_false, Bool.true_or, Bool.false_or, Bool.or_true, Bool.or_false, Bool.and_true, Bool.true_and, Bool.and_false, Bool.false_and], H34.upd 0 rfl [] (fun _ h => h.elim)⟩
end Go.Proofs.YtenihpghfdcpkaaGreat
