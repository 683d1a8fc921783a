/- WHAT IS PROVED: contracts and plain laws of RgL. Conditions: stated with each. -/
import Derived.Test.YtoaifondpohniaaGreatPR04
import Derived.Test.YtoaifondpohniaaGreatPR31
import Derived.Test.YtoaifondpohniaaGreatPR33
set_option maxHeartbeats 4000000
set_option maxRecDepth 100000
namespace Go.Proofs.YtoaifondpohniaaGreat
open Go.RowKit
theorem bls : ((!true) = false) ∧ ((!false) = true) ∧ (∀ b, (true || b) = true) ∧ (∀ b, (false || b) = b) ∧ (∀ b, (b || true) = true) ∧ (∀ b, (b || false) = b) ∧ (∀ b, (b && true) = b) ∧ (∀ b, (true && b) = b) ∧ (∀ b, (b && false) = false) ∧ (∀ b, (false && b) = false) := by decide
abbrev Z1b (p0 : Int) (p1 : Int) : List Value := ([(.int .i64 p0), (.int .i64 p1)] : List Value)
abbrev Z3T (p0 : PrR) : List Value := ([(.int .i64 p0.r), (.int .i64 p0.e), (.int .u64 p0.f), (.slice p0.ca p0.C.length p0.cc), (.int .i64 p0.sb), (.int .i64 p0.sm)] : List Value)
abbrev Z1W (p0 : Zg) (p1 : CeR) (p2 : Nat) : List Value := ([(.int .i64 p0.cl), (.int .i64 p0.seq)] : List Value) ++ hc p0.h ++ ([(.int .i64 p0.len), (.int .i64 p0.sb), (.int .i64 p0.sm), (.slice p1.sa p2 p1.sc)] : List Value)
abbrev kRgL_3 : List Value := ([(.int .i64 (0)), (.int .i64 (0))] : List Value) ++ hc Z0d ++ ([(.int .i64 (0)), (.int .i64 (0)), (.int .i64 (0)), (.slice none 0 0)] : List Value)
theorem Z9p {f cn : Int} {L : List Signed} {fl : Int} {C : List CeR} {i : Nat} (h : Z3R f cn L fl C i = true) : Z06 f cn L (C.getD i ce0).x (C.getD i ce0).S = true := by
 simp only [Z3R, Bool.and_eq_true] at h; exact h.1.2
theorem Z5S (w : World) (f cn : Int) (hf : -1099511627776 ≤ f ∧ f ≤ 1099511627776) (b mb : Nat) (L : List Signed) (hb : (Z0 b 110 [.map (some mb)]).ok w) (hm : MapAt w mb Z0e (Value.int .i64) (Z04 L)) (p : PrR) (hC : ListAt Z0h 38 w (.slice p.ca p.C.length p.cc) p.C) (hB : ∀ i, i < p.C.length → CeL w (p.C.getD i ce0)) (h12 : ∀ i, i < p.C.length → Z06 f cn L (p.C.getD i ce0).x (p.C.getD i ce0).S = true → (p.C.getD i ce0).S.length ≤ 12) (hl : p.C.length ≤ 64) (hpn : p.r ≤ 9223372036854775807 ∧ p.e ≤ 9223372036854775807 ∧ 0 ≤ p.f ∧ p.f < 18446744073709551616) :
  Calls Tryz.prog 19 #[(.agg ⟨([(.int .i64 (f)), (.int .i64 (cn))] : List Value)⟩), (.pointer (some ⟨b, 0, none⟩)), (.agg ⟨([(.int .i64 (p.r)), (.int .i64 (p.e)), (.int .u64 (p.f)), (.slice p.ca p.C.length p.cc), (.int .i64 (p.sb)), (.int .i64 (p.sm))] : List Value)⟩)] w fun e w' => e = .returned (.bool (Z0n f cn L p)) ∧ Upd [] w w' := by
 have H := Sat.start0 w
 refine Zp Tryz.func19 rfl 87 rfl (Nat.le_of_ble_eq_true rfl) ?_
 apply zsl
 refine zwd fun Kq kq => ?_
 refine zdb (Z1b f cn) H ?_
 intro b2 w3 H4
 refine kq _ _ ?_
 clear kq Kq
 refine zwd fun Kq kq => ?_
 refine zdb (Z3T p) H4 ?_
 intro b6 w7 H8
 refine kq _ _ ?_
 clear kq Kq
 refine wv 6 (.bool false) ?_
 apply znt
 apply Zt
 apply zsl
 refine zwN 9 (Z1b f cn) (H8.at 1 rfl) ?_
 refine wv 10 (pt b6 0) ?_
 refine zw1 11 (.int .i64 (p.r)) (H8.cell 2 rfl rfl) ?_
 refine zwd fun Kq kq => ?_
 refine zdq 12 (Z74 w7 f cn p.r (by omega)) H8 ?_
 intro w10 H11
 refine kq _ _ ?_
 clear kq Kq
 refine wv 13 (.bool (!(inB f p.r))) ?_
 refine wv 14 (.bool (!(inB f p.r))) ?_
 refine (Zl (!(inB f p.r))).elim (fun b13 => ?_) (fun b13 => ?_)
 ·have g14 := Zy b13
  refine ZI 14 (.bool true) (congrArg Value.bool b13) ?_
  iterate 3 refine wn 5 14 false ?_
  refine wv 18 (.bool true) ?_
  refine wv 19 (.bool true) ?_
  iterate 3 refine wn 10 19 false ?_
  refine wv 23 (.bool true) ?_
  refine wv 24 (.bool true) ?_
  iterate 4 refine wn 15 24 false ?_
  refine wv 29 (.bool true) ?_
  refine wv 30 (.bool true) ?_
  iterate 3 refine wn 21 30 false ?_
  refine wv 34 (.bool true) ?_
  refine wv 35 (.bool true) ?_
  iterate 6 refine wn 26 35 false ?_
  refine wv 42 (.bool true) ?_
  apply znt
  refine Z0P rfl ?_
  apply zsl
  refine wv 6 (.bool false) ?_
  apply znt
  apply ZA
  apply Zr
  refine ze1 (.bool false) ?_
  have n16 := Zy b13
  exact ⟨by simp only [Z0n, n16, bls], H11.upd 0 rfl [] (fun _ h => h.elim)⟩
 have g17 := Za b13
 refine ZI 14 (.bool false) (congrArg Value.bool b13) ?_
 refine wy 5 14 false 15 (pt b6 1) ?_
 refine wy 5 14 false 16 (.int .i64 (p.e)) ?_ (hr := Z2 rfl (by kernel_rfl) (H11.cell 2 rfl rfl))
 refine wy 5 14 false 17 (.bool (decide (p.e < 0))) ?_
 refine wv 18 (.bool (decide (p.e < 0))) ?_
 refine wv 19 (.bool (decide (p.e < 0))) ?_
 refine (Zl (decide (p.e < 0))).elim (fun b19 => ?_) (fun b19 => ?_)
 ·have g20 := of_decide_eq_true b19
  refine ZI 19 (.bool true) (congrArg Value.bool b19) ?_
  iterate 3 refine wn 10 19 false ?_
  refine wv 23 (.bool true) ?_
  refine wv 24 (.bool true) ?_
  iterate 4 refine wn 15 24 false ?_
  refine wv 29 (.bool true) ?_
  refine wv 30 (.bool true) ?_
  iterate 3 refine wn 21 30 false ?_
  refine wv 34 (.bool true) ?_
  refine wv 35 (.bool true) ?_
  iterate 6 refine wn 26 35 false ?_
  refine wv 42 (.bool true) ?_
  apply znt
  refine Z0P rfl ?_
  apply zsl
  refine wv 6 (.bool false) ?_
  apply znt
  apply ZA
  apply Zr
  refine ze1 (.bool false) ?_
  have n22 := Za b13
  exact ⟨by simp only [Z0n, n22, b19, bls], H11.upd 0 rfl [] (fun _ h => h.elim)⟩
 have g23 := of_decide_eq_false b19
 refine ZI 19 (.bool false) (congrArg Value.bool b19) ?_
 refine wy 10 19 false 20 (pt b6 1) ?_
 refine wy 10 19 false 21 (.int .i64 (p.e)) ?_ (hr := Z2 rfl (by kernel_rfl) (H11.cell 2 rfl rfl))
 refine wy 10 19 false 22 (.bool (decide (p.e > 1048576))) ?_
 refine wv 23 (.bool (decide (p.e > 1048576))) ?_
 refine wv 24 (.bool (decide (p.e > 1048576))) ?_
 refine (Zl (decide (p.e > 1048576))).elim (fun b25 => ?_) (fun b25 => ?_)
 ·have g26 := of_decide_eq_true b25
  refine ZI 24 (.bool true) (congrArg Value.bool b25) ?_
  iterate 4 refine wn 15 24 false ?_
  refine wv 29 (.bool true) ?_
  refine wv 30 (.bool true) ?_
  iterate 3 refine wn 21 30 false ?_
  refine wv 34 (.bool true) ?_
  refine wv 35 (.bool true) ?_
  iterate 6 refine wn 26 35 false ?_
  refine wv 42 (.bool true) ?_
  apply znt
  refine Z0P rfl ?_
  apply zsl
  refine wv 6 (.bool false) ?_
  apply znt
  apply ZA
  apply Zr
  refine ze1 (.bool false) ?_
  have n28 := Za b13
  exact ⟨by simp only [Z0n, n28, b19, b25, bls], H11.upd 0 rfl [] (fun _ h => h.elim)⟩
 have g29 := of_decide_eq_false b25
 refine ZI 24 (.bool false) (congrArg Value.bool b25) ?_
 refine wy 15 24 false 25 (pt b6 3) ?_
 refine wy 15 24 false 26 (.slice p.ca p.C.length p.cc) ?_ (hr := Z2 rfl (by kernel_rfl) (H11.cell 2 rfl rfl))
 refine wy 15 24 false 27 (.int .i64 ((p.C.length : Int))) ?_
 refine wy 15 24 false 28 (.bool (decide ((p.C.length : Int) > 64))) ?_
 refine wv 29 (.bool (decide ((p.C.length : Int) > 64))) ?_
 refine wv 30 (.bool (decide ((p.C.length : Int) > 64))) ?_
 refine (Zl (decide ((p.C.length : Int) > 64))).elim (fun b31 => ?_) (fun b31 => ?_)
 ·have g32 := of_decide_eq_true b31
  refine ZI 30 (.bool true) (congrArg Value.bool b31) ?_
  iterate 3 refine wn 21 30 false ?_
  refine wv 34 (.bool true) ?_
  refine wv 35 (.bool true) ?_
  iterate 6 refine wn 26 35 false ?_
  refine wv 42 (.bool true) ?_
  apply znt
  refine Z0P rfl ?_
  apply zsl
  refine wv 6 (.bool false) ?_
  apply znt
  apply ZA
  apply Zr
  refine ze1 (.bool false) ?_
  have n34 := Za b13
  exact ⟨by simp only [Z0n, n34, b19, b25, b31, bls], H11.upd 0 rfl [] (fun _ h => h.elim)⟩
 have g35 := of_decide_eq_false b31
 refine ZI 30 (.bool false) (congrArg Value.bool b31) ?_
 refine wy 21 30 false 31 (pt b6 2) ?_
 refine wy 21 30 false 32 (.int .u64 (p.f)) ?_ (hr := Z2 rfl (by kernel_rfl) (H11.cell 2 rfl rfl))
 refine wy 21 30 false 33 (.bool (decide (p.f = 18446744073709551615))) ?_
 refine wv 34 (.bool (decide (p.f = 18446744073709551615))) ?_
 refine wv 35 (.bool (decide (p.f = 18446744073709551615))) ?_
 refine (Zl (decide (p.f = 18446744073709551615))).elim (fun b37 => ?_) (fun b37 => ?_)
 ·have g38 := of_decide_eq_true b37
  refine ZI 35 (.bool true) (congrArg Value.bool b37) ?_
  iterate 6 refine wn 26 35 false ?_
  refine wv 42 (.bool true) ?_
  apply znt
  refine Z0P rfl ?_
  apply zsl
  refine wv 6 (.bool false) ?_
  apply znt
  apply ZA
  apply Zr
  refine ze1 (.bool false) ?_
  have n40 := Za b13
  exact ⟨by simp only [Z0n, n40, b19, b25, b31, b37, bls], H11.upd 0 rfl [] (fun _ h => h.elim)⟩
 have g41 := of_decide_eq_false b37
 refine ZI 35 (.bool false) (congrArg Value.bool b37) ?_
 refine wy 26 35 false 36 (pt b6 4) ?_
 refine wy 26 35 false 37 (pt b6 4) ?_
 refine wy 26 35 false 38 (.int .i64 (p.sb)) ?_ (hr := Z2 rfl (by kernel_rfl) (H11.cell 2 rfl rfl))
 refine wy 26 35 false 39 (pt b6 0) ?_
 refine wy 26 35 false 40 (.int .i64 (p.r)) ?_ (hr := Z2 rfl (by kernel_rfl) (H11.cell 2 rfl rfl))
 refine wy 26 35 false 41 (.bool (!(decide (p.sb = p.r)))) ?_
 refine wv 42 (.bool (!(decide (p.sb = p.r)))) ?_
 apply znt
 refine (Zl (!(decide (p.sb = p.r)))).elim (fun b43 => ?_) (fun b43 => ?_)
 ·have g44 := Zy b43
  have g45 := of_decide_eq_false g44
  refine Z1o _ b43 ?_
  apply zsl
  refine wv 6 (.bool false) ?_
  apply znt
  apply ZA
  apply Zr
  refine ze1 (.bool false) ?_
  have n48 := Za b13
  have n49 := Zy b43
  exact ⟨by simp only [Z0n, n48, b19, b25, b31, b37, n49, bls], H11.upd 0 rfl [] (fun _ h => h.elim)⟩
 have g50 := Za b43
 have g51 := of_decide_eq_true g50
 refine Z18 _ b43 ?_
 apply ZL
 apply ztn
 apply Zt
 apply zsl
 refine wv 43 (pt b6 3) ?_
 refine zw1 44 (.slice p.ca p.C.length p.cc) (H11.cell 2 rfl rfl) ?_
 refine wv 45 (.int .i64 ((p.C.length : Int))) ?_
 refine wv 46 (.int .i64 (0)) ?_
 apply znt
 apply ZG
 have n54 := Za b13
 have n55 := Za b43
 refine Z02 ([6, 7, 8] ++ List.range' 46 35) (fun F_ W_ m_ => ∃ (i : Nat), F_ 46 = (.int .i64 ((i : Int))) ∧ (i ≤ p.C.length) ∧ (∀ j, j < i → Z3R f cn L p.f p.C j = true) ∧ Sat w [Z6 w (fun _ => False), Z0 b2 36 (Z1b f cn), Z0 b6 34 (Z3T p)] W_ ∧ m_ = p.C.length - i) _ ⟨0, (show ((.int .i64 (0)) : Value) = _ by first | rfl | go_num), (Nat.zero_le _), (fun _ h => absurd h (Nat.not_lt_zero _)), H11, rfl⟩ ?_
 rintro g56 w57 _ ⟨i, v59, hi, hall, H58, rfl⟩
 refine ZF 46 _ v59 ?_
 apply zsl
 refine wv 47 (.bool (decide ((i : Int) < (p.C.length : Int)))) ?_
 apply znt
 apply Zt
 refine (Zl (decide ((i : Int) < (p.C.length : Int)))).elim (fun b61 => ?_) (fun b61 => ?_)
 ·have g62 := of_decide_eq_true b61
  refine Z1o _ b61 ?_
  apply ZL
  apply ztn
  apply Zt
  apply ZG
  apply zsl
  refine wv 48 (.int .i64 ((i : Int))) ?_
  obtain ⟨g64, o65, c66, e67, R68⟩ := SliceOf.atD hC ce0 (show i < p.C.length by omega)
  refine wv 49 (.pointer (some ⟨g64, o65 + ((i : Int)).toNat * 38, none⟩)) ?_ (hr := ZC (E := 53) (by kernel_rfl) (by kernel_rfl) (Nat.le_of_ble_eq_true rfl) rfl e67 rfl (by omega) (by omega))
  refine wv 50 (.agg ⟨(Z1W ((p.C.getD i ce0).x) (p.C.getD i ce0) (((p.C.getD i ce0).S).length))⟩) ?_ (hr := Z0f (vs := (Z1W ((p.C.getD i ce0).x) (p.C.getD i ce0) (((p.C.getD i ce0).S).length))) rfl (by kernel_rfl) (by kernel_rfl) (Nat.le_of_ble_eq_true (by kernel_rfl)) (H58.runR 0 rfl (Z10 R68 0 (by kernel_rfl) (show o65 + ((i : Int)).toNat * 38 = o65 + i * 38 + 0 by omega)) (fun h => h)))
  refine zwd fun Kq kq => ?_
  refine zda (kRgL_3) H58 ?_
  intro b70 w71 H72
  refine kq _ _ ?_
  clear kq Kq
  refine wv 7 (.int .i64 ((i : Int))) ?_
  refine zwd fun Kq kq => ?_
  refine Z2k (Z1W ((p.C.getD i ce0).x) (p.C.getD i ce0) (((p.C.getD i ce0).S).length)) H72 3 ?_
  intro w74 H75
  refine kq _ _ ?_
  clear kq Kq
  apply znt
  apply Zt
  apply Zt
  refine zqs H75 ?_
  refine qv 51 (.int .i64 ((i : Int))) ?_
  refine qv 52 (.bool (decide ((i : Int) > 0))) ?_
  refine qv 53 (.bool (decide ((i : Int) > 0))) ?_
  refine (Zl (decide ((i : Int) > 0))).elim (fun b77 => ?_) (fun b77 => ?_)
  ·have g78 := of_decide_eq_true b77
   refine Z0k 53 (.bool true) (congrArg Value.bool b77) ?_
   refine qy 2 53 true 54 (pt b6 3) ?_
   refine qy 2 53 true 55 (.slice p.ca p.C.length p.cc) ?_ (hr := fun _ H' => (Z2 rfl (by kernel_rfl) (H'.cell 2 rfl rfl)))
   refine qy 2 53 true 56 (.int .i64 ((i : Int))) ?_
   refine qy 2 53 true 57 (.int .i64 ((i : Int) - 1)) ?_ (hr := fun _ H' => (Z0I (z := (i : Int) - 1) (by kernel_rfl) (IntWalk.i64_in _ (by omega))))
   obtain ⟨g80, o81, c82, e83, R84⟩ := SliceOf.atD hC ce0 (show ((i : Int) - 1).toNat < p.C.length by omega)
   refine qy 2 53 true 58 (.pointer (some ⟨g80, o81 + ((i : Int) - 1).toNat * 38, none⟩)) ?_ (hr := fun _ H' => (ZC (E := 53) (by kernel_rfl) (by kernel_rfl) (Nat.le_of_ble_eq_true rfl) rfl e83 rfl (by omega) (by omega)))
   refine qy 2 53 true 59 (.pointer (some ⟨g80, o81 + ((i : Int) - 1).toNat * 38, none⟩)) ?_
   refine qy 2 53 true 60 (.pointer (some ⟨g80, o81 + ((i : Int) - 1).toNat * 38, none⟩)) ?_
   refine qy 2 53 true 61 (.agg ⟨(Z1b ((p.C.getD ((i : Int) - 1).toNat ce0).x.cl) ((p.C.getD ((i : Int) - 1).toNat ce0).x.seq))⟩) ?_ (hr := fun _ H' => (Z0f (vs := (Z1b ((p.C.getD ((i : Int) - 1).toNat ce0).x.cl) ((p.C.getD ((i : Int) - 1).toNat ce0).x.seq))) rfl (by kernel_rfl) (by kernel_rfl) (Nat.le_of_ble_eq_true (by kernel_rfl)) (H'.runR 0 rfl (Z10 R84 0 (by kernel_rfl) (show o81 + ((i : Int) - 1).toNat * 38 = o81 + ((i : Int) - 1).toNat * 38 + 0 by omega)) (fun h => h))))
   refine qy 2 53 true 62 (pt b70 0) ?_
   refine qy 2 53 true 63 (pt b70 0) ?_
   refine qy 2 53 true 64 (.agg ⟨(Z1b ((p.C.getD i ce0).x.cl) ((p.C.getD i ce0).x.seq))⟩) ?_ (hr := fun _ H' => (Zc (vs := (Z1b ((p.C.getD i ce0).x.cl) ((p.C.getD i ce0).x.seq))) rfl (by kernel_rfl) (by kernel_rfl) (by exact Nat.le_of_ble_eq_true (by kernel_rfl)) (H'.at 3 rfl) (by kernel_rfl)))
   refine Z0B (Z01 2 53 true rfl (by kernel_rfl) rfl (by kernel_rfl)) (d := 65) (v := (.int .i64 (or2 (Z3x ((p.C.getD ((i : Int) - 1).toNat ce0).x.cl) ((p.C.getD i ce0).x.cl)) (Z3x ((p.C.getD ((i : Int) - 1).toNat ce0).x.seq) ((p.C.getD i ce0).x.seq))))) rfl (fun _ _ => by kernel_rfl) (fun w' H' => (Z7X w' ((p.C.getD ((i : Int) - 1).toNat ce0).x.cl) ((p.C.getD ((i : Int) - 1).toNat ce0).x.seq) ((p.C.getD i ce0).x.cl) ((p.C.getD i ce0).x.seq)).mono fun _ _ h => ⟨h.1, H'.keepU h.2⟩) ?_
   refine qy 2 53 true 66 (.bool (decide ((or2 (Z3x ((p.C.getD ((i : Int) - 1).toNat ce0).x.cl) ((p.C.getD i ce0).x.cl)) (Z3x ((p.C.getD ((i : Int) - 1).toNat ce0).x.seq) ((p.C.getD i ce0).x.seq))) ≥ 0))) ?_
   refine qv 67 (.bool (decide ((or2 (Z3x ((p.C.getD ((i : Int) - 1).toNat ce0).x.cl) ((p.C.getD i ce0).x.cl)) (Z3x ((p.C.getD ((i : Int) - 1).toNat ce0).x.seq) ((p.C.getD i ce0).x.seq))) ≥ 0))) ?_
   refine Z0S ?_
   intro w85 H86
   apply ztn
   refine (Zl (decide ((or2 (Z3x ((p.C.getD ((i : Int) - 1).toNat ce0).x.cl) ((p.C.getD i ce0).x.cl)) (Z3x ((p.C.getD ((i : Int) - 1).toNat ce0).x.seq) ((p.C.getD i ce0).x.seq))) ≥ 0))).elim (fun b87 => ?_) (fun b87 => ?_)
   ·have g88 := of_decide_eq_true b87
    refine Z1o _ b87 ?_
    apply zsl
    refine wv 6 (.bool false) ?_
    apply znt
    apply ZA
    apply Zr
    apply ZP
    apply Zr
    apply Z0l
    apply ZP
    apply Zr
    refine ze1 (.bool false) ?_
    have e1 : ((i : Int) - 1).toNat = i - 1 := by omega
    have ho : Z3R f cn L p.f p.C i = false := by unfold Z3R; rw [← e1]; simp only [Z1R, b61, b77, b87, bls]
    exact ⟨by simp only [Z0n, Z0T (show i < p.C.length by omega) ho, Bool.and_false], H86.upd 0 rfl [] (fun _ h => h.elim)⟩
   have g90 := of_decide_eq_false b87
   refine Z18 _ b87 ?_
   apply ZL
   apply ztn
   apply Zt
   refine zqs H86 ?_
   refine qv 68 (.agg ⟨(Z1b f cn)⟩) ?_ (hr := fun _ H' => (Zc (vs := (Z1b f cn)) rfl (by kernel_rfl) (by kernel_rfl) (by exact Nat.le_of_ble_eq_true (by kernel_rfl)) (H'.at 1 rfl) (by kernel_rfl)))
   refine qv 69 (pt b 0) ?_
   refine qv 70 (.agg ⟨(Z1W ((p.C.getD i ce0).x) (p.C.getD i ce0) (((p.C.getD i ce0).S).length))⟩) ?_ (hr := fun _ H' => (Zc (vs := (Z1W ((p.C.getD i ce0).x) (p.C.getD i ce0) (((p.C.getD i ce0).S).length))) rfl (by kernel_rfl) (by kernel_rfl) (by exact Nat.le_of_ble_eq_true (by kernel_rfl)) (H'.at 3 rfl) (by kernel_rfl)))
   refine Z0B (Zs rfl) (d := 71) (v := (.bool (Z06 f cn L (p.C.getD i ce0).x (p.C.getD i ce0).S))) rfl (fun _ _ => by kernel_rfl) (fun w' H' => (Z5U w' f cn (by omega) b mb L (H'.roCk 0 rfl hb (fun _ _ h => h)) (H'.roMap 0 rfl hm (fun h => h)) (p.C.getD i ce0).x ((hB i (by omega)).keep H' 0 rfl).x.1 (p.C.getD i ce0).sa (p.C.getD i ce0).sc (p.C.getD i ce0).S ((hB i (by omega)).keep H' 0 rfl).at_ (fun i_ hi_ => (((hB i (by omega)).keep H' 0 rfl).S i_ hi_).1) (by have q := (hB i (by omega)).len; omega)).mono fun _ _ h => ⟨h.1, H'.keepU h.2⟩) ?_
   refine qv 72 (.bool (!(Z06 f cn L (p.C.getD i ce0).x (p.C.getD i ce0).S))) ?_
   refine qv 73 (.bool (!(Z06 f cn L (p.C.getD i ce0).x (p.C.getD i ce0).S))) ?_
   refine (Zl (!(Z06 f cn L (p.C.getD i ce0).x (p.C.getD i ce0).S))).elim (fun b92 => ?_) (fun b92 => ?_)
   ·have g93 := Zy b92
    refine Z0k 73 (.bool true) (congrArg Value.bool b92) ?_
    iterate 5 refine qn 5 73 false ?_
    refine qv 79 (.bool true) ?_
    refine Z0S ?_
    intro w95 H96
    apply ztn
    refine Z0P rfl ?_
    apply zsl
    refine wv 6 (.bool false) ?_
    apply znt
    apply ZA
    apply ZP
    apply Zr
    apply Z0l
    apply ZP
    apply Zr
    refine ze1 (.bool false) ?_
    have n97 := Zy b92
    have e1 : ((i : Int) - 1).toNat = i - 1 := by omega
    have ho : Z3R f cn L p.f p.C i = false := by unfold Z3R; rw [← e1]; simp only [Z1R, b61, b77, b87, n97, bls]
    exact ⟨by simp only [Z0n, Z0T (show i < p.C.length by omega) ho, Bool.and_false], H96.upd 0 rfl [] (fun _ h => h.elim)⟩
   have g98 := Za b92
   refine Z0k 73 (.bool false) (congrArg Value.bool b92) ?_
   refine qy 5 73 false 74 (.agg ⟨(Z1W ((p.C.getD i ce0).x) (p.C.getD i ce0) (((p.C.getD i ce0).S).length))⟩) ?_ (hr := fun _ H' => (Zc (vs := (Z1W ((p.C.getD i ce0).x) (p.C.getD i ce0) (((p.C.getD i ce0).S).length))) rfl (by kernel_rfl) (by kernel_rfl) (by exact Nat.le_of_ble_eq_true (by kernel_rfl)) (H'.at 3 rfl) (by kernel_rfl)))
   refine Z0B (Z01 5 73 false rfl (by kernel_rfl) rfl (by kernel_rfl)) (d := 75) (v := (.int .u64 ((ZK (p.C.getD i ce0).S)))) rfl (fun _ _ => by kernel_rfl) (fun w' H' => (Z5W w' (p.C.getD i ce0).x (p.C.getD i ce0).sa (p.C.getD i ce0).sc (p.C.getD i ce0).S ((hB i (by omega)).keep H' 0 rfl).at_ (h12 i (by omega) (by assumption))).mono fun _ _ h => ⟨h.1, H'.keepU h.2⟩) ?_
   refine qy 5 73 false 76 (pt b6 2) ?_
   refine qy 5 73 false 77 (.int .u64 (p.f)) ?_ (hr := fun _ H' => (Z2 rfl (by kernel_rfl) (H'.cell 2 rfl rfl)))
   refine qy 5 73 false 78 (.bool (decide ((ZK (p.C.getD i ce0).S) > p.f))) ?_
   refine qv 79 (.bool (decide ((ZK (p.C.getD i ce0).S) > p.f))) ?_
   refine Z0S ?_
   intro w100 H101
   apply ztn
   refine (Zl (decide ((ZK (p.C.getD i ce0).S) > p.f))).elim (fun b102 => ?_) (fun b102 => ?_)
   ·have g103 := of_decide_eq_true b102
    refine Z1o _ b102 ?_
    apply zsl
    refine wv 6 (.bool false) ?_
    apply znt
    apply ZA
    apply ZP
    apply Zr
    apply Z0l
    apply ZP
    apply Zr
    refine ze1 (.bool false) ?_
    have n105 := Za b92
    have e1 : ((i : Int) - 1).toNat = i - 1 := by omega
    have ho : Z3R f cn L p.f p.C i = false := by unfold Z3R; rw [← e1]; simp only [Z1R, b61, b77, b87, n105, b102, bls]
    exact ⟨by simp only [Z0n, Z0T (show i < p.C.length by omega) ho, Bool.and_false], H101.upd 0 rfl [] (fun _ h => h.elim)⟩
   have g106 := of_decide_eq_false b102
   refine Z18 _ b102 ?_
   apply ZL
   apply Zq
   apply ztn
   apply ZU
   refine zwi 80 ((i : Int) + 1) ?_
   refine wv 46 (.int .i64 ((i : Int) + 1)) ?_
   apply ZQ
   have n108 := Za b92
   have e1 : ((i : Int) - 1).toNat = i - 1 := by omega
   have ho : Z3R f cn L p.f p.C i = true := by unfold Z3R; rw [← e1]; simp only [Z1R, b61, b77, b87, n108, b102, bls]
   have H109 := H101.pk [0, 1, 2]
   refine Zw ?_ _ ⟨(i + 1), rfl, (by omega), (fun j hj => by rcases Nat.lt_or_ge j i with h | h; exact hall j h; rw [show j = i by omega]; exact ho), H109, rfl⟩ (by omega)
   exact zs
  have g110 := of_decide_eq_false b77
  refine Z0k 53 (.bool false) (congrArg Value.bool b77) ?_
  iterate 13 refine qn 2 53 true ?_
  refine qv 67 (.bool false) ?_
  refine Z0S ?_
  intro w112 H113
  apply ztn
  refine Z3m rfl ?_
  apply ZL
  apply ztn
  apply Zt
  refine zqs H113 ?_
  refine qv 68 (.agg ⟨(Z1b f cn)⟩) ?_ (hr := fun _ H' => (Zc (vs := (Z1b f cn)) rfl (by kernel_rfl) (by kernel_rfl) (by exact Nat.le_of_ble_eq_true (by kernel_rfl)) (H'.at 1 rfl) (by kernel_rfl)))
  refine qv 69 (pt b 0) ?_
  refine qv 70 (.agg ⟨(Z1W ((p.C.getD i ce0).x) (p.C.getD i ce0) (((p.C.getD i ce0).S).length))⟩) ?_ (hr := fun _ H' => (Zc (vs := (Z1W ((p.C.getD i ce0).x) (p.C.getD i ce0) (((p.C.getD i ce0).S).length))) rfl (by kernel_rfl) (by kernel_rfl) (by exact Nat.le_of_ble_eq_true (by kernel_rfl)) (H'.at 3 rfl) (by kernel_rfl)))
  refine Z0B (Zs rfl) (d := 71) (v := (.bool (Z06 f cn L (p.C.getD i ce0).x (p.C.getD i ce0).S))) rfl (fun _ _ => by kernel_rfl) (fun w' H' => (Z5U w' f cn (by omega) b mb L (H'.roCk 0 rfl hb (fun _ _ h => h)) (H'.roMap 0 rfl hm (fun h => h)) (p.C.getD i ce0).x ((hB i (by omega)).keep H' 0 rfl).x.1 (p.C.getD i ce0).sa (p.C.getD i ce0).sc (p.C.getD i ce0).S ((hB i (by omega)).keep H' 0 rfl).at_ (fun i_ hi_ => (((hB i (by omega)).keep H' 0 rfl).S i_ hi_).1) (by have q := (hB i (by omega)).len; omega)).mono fun _ _ h => ⟨h.1, H'.keepU h.2⟩) ?_
  refine qv 72 (.bool (!(Z06 f cn L (p.C.getD i ce0).x (p.C.getD i ce0).S))) ?_
  refine qv 73 (.bool (!(Z06 f cn L (p.C.getD i ce0).x (p.C.getD i ce0).S))) ?_
  refine (Zl (!(Z06 f cn L (p.C.getD i ce0).x (p.C.getD i ce0).S))).elim (fun b114 => ?_) (fun b114 => ?_)
  ·have g115 := Zy b114
   refine Z0k 73 (.bool true) (congrArg Value.bool b114) ?_
   iterate 5 refine qn 5 73 false ?_
   refine qv 79 (.bool true) ?_
   refine Z0S ?_
   intro w117 H118
   apply ztn
   refine Z0P rfl ?_
   apply zsl
   refine wv 6 (.bool false) ?_
   apply znt
   apply ZA
   apply ZP
   apply Zr
   apply Z0l
   apply ZP
   apply Zr
   refine ze1 (.bool false) ?_
   have n119 := Zy b114
   have e1 : ((i : Int) - 1).toNat = i - 1 := by omega
   have ho : Z3R f cn L p.f p.C i = false := by unfold Z3R; rw [← e1]; simp only [Z1R, b61, b77, n119, bls]
   exact ⟨by simp only [Z0n, Z0T (show i < p.C.length by omega) ho, Bool.and_false], H118.upd 0 rfl [] (fun _ h => h.elim)⟩
  have g120 := Za b114
  refine Z0k 73 (.bool false) (congrArg Value.bool b114) ?_
  refine qy 5 73 false 74 (.agg ⟨(Z1W ((p.C.getD i ce0).x) (p.C.getD i ce0) (((p.C.getD i ce0).S).length))⟩) ?_ (hr := fun _ H' => (Zc (vs := (Z1W ((p.C.getD i ce0).x) (p.C.getD i ce0) (((p.C.getD i ce0).S).length))) rfl (by kernel_rfl) (by kernel_rfl) (by exact Nat.le_of_ble_eq_true (by kernel_rfl)) (H'.at 3 rfl) (by kernel_rfl)))
  refine Z0B (Z01 5 73 false rfl (by kernel_rfl) rfl (by kernel_rfl)) (d := 75) (v := (.int .u64 ((ZK (p.C.getD i ce0).S)))) rfl (fun _ _ => by kernel_rfl) (fun w' H' => (Z5W w' (p.C.getD i ce0).x (p.C.getD i ce0).sa (p.C.getD i ce0).sc (p.C.getD i ce0).S ((hB i (by omega)).keep H' 0 rfl).at_ (h12 i (by omega) (by assumption))).mono fun _ _ h => ⟨h.1, H'.keepU h.2⟩) ?_
  refine qy 5 73 false 76 (pt b6 2) ?_
  refine qy 5 73 false 77 (.int .u64 (p.f)) ?_ (hr := fun _ H' => (Z2 rfl (by kernel_rfl) (H'.cell 2 rfl rfl)))
  refine qy 5 73 false 78 (.bool (decide ((ZK (p.C.getD i ce0).S) > p.f))) ?_
  refine qv 79 (.bool (decide ((ZK (p.C.getD i ce0).S) > p.f))) ?_
  refine Z0S ?_
  intro w122 H123
  apply ztn
  refine (Zl (decide ((ZK (p.C.getD i ce0).S) > p.f))).elim (fun b124 => ?_) (fun b124 => ?_)
  ·have g125 := of_decide_eq_true b124
   refine Z1o _ b124 ?_
   apply zsl
   refine wv 6 (.bool false) ?_
   apply znt
   apply ZA
   apply ZP
   apply Zr
   apply Z0l
   apply ZP
   apply Zr
   refine ze1 (.bool false) ?_
   have n127 := Za b114
   have e1 : ((i : Int) - 1).toNat = i - 1 := by omega
   have ho : Z3R f cn L p.f p.C i = false := by unfold Z3R; rw [← e1]; simp only [Z1R, b61, b77, n127, b124, bls]
   exact ⟨by simp only [Z0n, Z0T (show i < p.C.length by omega) ho, Bool.and_false], H123.upd 0 rfl [] (fun _ h => h.elim)⟩
  have g128 := of_decide_eq_false b124
  refine Z18 _ b124 ?_
  apply ZL
  apply Zq
  apply ztn
  apply ZU
  refine zwi 80 ((i : Int) + 1) ?_
  refine wv 46 (.int .i64 ((i : Int) + 1)) ?_
  apply ZQ
  have n130 := Za b114
  have e1 : ((i : Int) - 1).toNat = i - 1 := by omega
  have ho : Z3R f cn L p.f p.C i = true := by unfold Z3R; rw [← e1]; simp only [Z1R, b61, b77, n130, b124, bls]
  have H131 := H123.pk [0, 1, 2]
  refine Zw ?_ _ ⟨(i + 1), rfl, (by omega), (fun j hj => by rcases Nat.lt_or_ge j i with h | h; exact hall j h; rw [show j = i by omega]; exact ho), H131, rfl⟩ (by omega)
  exact zs
 have g132 := of_decide_eq_false b61
 refine Z18 _ b61 ?_
 apply zxb
 apply ztn
 apply Zt
 refine Z00 H58 [Z6 w (fun _ => False), Z0 b2 36 (Z1b f cn), Z0 b6 34 (Z3T p)] 7 rfl (by kernel_rfl) (fun Hx => (Hx.pk [0, 1, 2])) ?_
 intro w134 H135 S136
 refine hv0 0 S136 81 (pt b 0) ?_
 refine hv0 1 S136 82 (pt b6 4) ?_
 refine hv0 2 S136 83 (.agg ⟨(Z1b p.sb p.sm)⟩) ?_ (he := fun _ H' => (Zc (vs := (Z1b p.sb p.sm)) rfl (by kernel_rfl) (by kernel_rfl) (by exact Nat.le_of_ble_eq_true (by kernel_rfl)) (H'.at 2 rfl) (by kernel_rfl)))
 refine hv0 3 S136 84 (.agg ⟨(Z3T p)⟩) ?_ (he := fun _ H' => (Zc (vs := (Z3T p)) rfl (by kernel_rfl) (by kernel_rfl) (by exact Nat.le_of_ble_eq_true (by kernel_rfl)) (H'.at 2 rfl) (by kernel_rfl)))
 refine Z09 4 fun Kq kq => ?_
 refine zdc 85 (Z3l w134 p (ListAt.now H135 0 rfl hC) (fun i_ hi_ => (((hB i_ hi_).keep H135 0 rfl).small (h12 i_ hi_ (Z9p (hall i_ (by omega)))))) hl hpn) ?_
 rintro _ w138 ⟨u139, rfl, k140, p141, q142⟩
 have H143 := H135.addU p141 k140 q142
 obtain ⟨a144, c145, rfl⟩ := Z1 (H143.at 3 rfl)
 refine ⟨_, rfl, ?_⟩
 have S146 := H143.pk [0, 1, 2]
 refine kq _ _ S146 ?_
 clear kq Kq
 refine Z09 5 fun Kq kq => ?_
 refine zdq 86 (Z5J w138 b mb L (H143.roCk 0 rfl hb (fun _ _ h => h)) (H143.roMap 0 rfl hm (fun h => h)) a144 c145 (ZB p) (ListAt.row (enc := ZN) (sz := 1) ZE (by decide) (H143.at 3 rfl)) p.sb p.sm) H143 ?_
 intro w148 H149
 have S151 := H149.pk [0, 1, 2]
 refine kq _ _ S151 ?_
 clear kq Kq
 refine hv0 6 S151 6 (.bool (Z0p L p.sb p.sm (ZB p))) ?_
 refine zhf ?_
 apply ztn
 apply ZA
 refine ze1 (.bool (Z0p L p.sb p.sm (ZB p))) ?_
 have hn0 : i = p.C.length := by omega
 subst hn0
 exact ⟨by simp only [Z0n, Z5e hall, n54, b19, b25, b31, b37, n55, bls], H149.upd 0 rfl [] (fun _ h => h.elim)⟩
theorem Z5L (w : World) (f cn : Int) (hf : -1099511627776 ≤ f ∧ f ≤ 1099511627776) (r : Nat) (ra : Option Addr) (rc : Nat) (L : List Signed) (hb : (Z0 r 98 [.slice ra L.length rc]).ok w) (hr : (ZH 114 2 (.slice ra L.length rc) L.length (L.flatMap Z43)).ok w) (hn : L.Nodup) (hL : L.length ≤ 1000000) (p : PrR) (hC : ListAt Z0h 38 w (.slice p.ca p.C.length p.cc) p.C) (hB : ∀ i, i < p.C.length → CeL w (p.C.getD i ce0)) (h12 : ∀ i, i < p.C.length → Z06 f cn L (p.C.getD i ce0).x (p.C.getD i ce0).S = true → (p.C.getD i ce0).S.length ≤ 12) (hl : p.C.length ≤ 64) (hpn : p.r ≤ 9223372036854775807 ∧ p.e ≤ 9223372036854775807 ∧ 0 ≤ p.f ∧ p.f < 18446744073709551616) :
  Calls Tryz.prog 20 #[(.agg ⟨([(.int .i64 (f)), (.int .i64 (cn))] : List Value)⟩), (.pointer (some ⟨r, 0, none⟩)), (.agg ⟨([(.int .i64 (p.r)), (.int .i64 (p.e)), (.int .u64 (p.f)), (.slice p.ca p.C.length p.cc), (.int .i64 (p.sb)), (.int .i64 (p.sm))] : List Value)⟩)] w fun e w' => e = .returned (.bool (Z0n f cn L p)) ∧ Upd [] w w' := by
 have H := Sat.start0 w
 refine Zp Tryz.func20 rfl 106 rfl (Nat.le_of_ble_eq_true rfl) ?_
 apply zsl
 refine zwd fun Kq kq => ?_
 refine zdb (Z1b f cn) H ?_
 intro b2 w3 H4
 refine kq _ _ ?_
 clear kq Kq
 refine zwd fun Kq kq => ?_
 refine zdb (Z3T p) H4 ?_
 intro b6 w7 H8
 refine kq _ _ ?_
 clear kq Kq
 refine wv 6 (.bool false) ?_
 apply znt
 apply Zt
 apply Zt
 refine Z00 H8 [Z6 w (fun _ => False), Z0 b2 36 (Z1b f cn), Z0 b6 34 (Z3T p)] 48 rfl (by kernel_rfl) (fun Hx => (Hx.pk [0, 1, 2])) ?_
 intro w9 H10 S11
 refine hv0 0 S11 8 (pt b6 0) ?_
 refine hv0 1 S11 9 (.int .i64 (p.r)) ?_ (he := fun _ H' => (Z2 rfl (by kernel_rfl) (H'.cell 2 rfl rfl)))
 refine hv0 2 S11 10 (.bool (decide (p.r < 0))) ?_
 refine hv0 3 S11 11 (.bool (decide (p.r < 0))) ?_
 refine (Zl (decide (p.r < 0))).elim (fun b12 => ?_) (fun b12 => ?_)
 ·have g13 := of_decide_eq_true b12
  refine Z0j 11 (.bool true) (congrArg Value.bool b12) ?_
  refine Zx 4 S11 3 11 false ?_
  refine Zx 5 S11 3 11 false ?_
  refine Zx 6 S11 3 11 false ?_
  refine Zx 7 S11 3 11 false ?_
  refine Zx 8 S11 3 11 false ?_
  refine hv0 9 S11 17 (.bool true) ?_
  refine hv0 10 S11 18 (.bool true) ?_
  refine Zx 11 S11 10 18 false ?_
  refine Zx 12 S11 10 18 false ?_
  refine Zx 13 S11 10 18 false ?_
  refine hv0 14 S11 22 (.bool true) ?_
  refine hv0 15 S11 23 (.bool true) ?_
  refine Zx 16 S11 15 23 false ?_
  refine Zx 17 S11 15 23 false ?_
  refine Zx 18 S11 15 23 false ?_
  refine hv0 19 S11 27 (.bool true) ?_
  refine hv0 20 S11 28 (.bool true) ?_
  refine Zx 21 S11 20 28 false ?_
  refine Zx 22 S11 20 28 false ?_
  refine Zx 23 S11 20 28 false ?_
  refine Zx 24 S11 20 28 false ?_
  refine hv0 25 S11 33 (.bool true) ?_
  refine hv0 26 S11 34 (.bool true) ?_
  refine Zx 27 S11 26 34 false ?_
  refine Zx 28 S11 26 34 false ?_
  refine Zx 29 S11 26 34 false ?_
  refine hv0 30 S11 38 (.bool true) ?_
  refine hv0 31 S11 39 (.bool true) ?_
  refine Zx 32 S11 31 39 false ?_
  refine Zx 33 S11 31 39 false ?_
  refine Zx 34 S11 31 39 false ?_
  refine Zx 35 S11 31 39 false ?_
  refine Zx 36 S11 31 39 false ?_
  refine Zx 37 S11 31 39 false ?_
  refine hv0 38 S11 46 (.bool true) ?_
  refine hv0 39 S11 47 (.bool true) ?_
  refine Zx 40 S11 39 47 false ?_
  refine Zx 41 S11 39 47 false ?_
  refine Zx 42 S11 39 47 false ?_
  refine Zx 43 S11 39 47 false ?_
  refine Zx 44 S11 39 47 false ?_
  refine Zx 45 S11 39 47 false ?_
  refine Zx 46 S11 39 47 false ?_
  refine hv0 47 S11 55 (.bool true) ?_
  refine zhf ?_
  apply ztn
  refine Z0P rfl ?_
  apply zsl
  refine wv 6 (.bool false) ?_
  apply znt
  apply ZA
  apply Zr
  refine ze1 (.bool false) ?_
  have hin : inB f p.r = false := by unfold inB; simp; omega
  exact ⟨by simp only [Z0n, hin, bls], H10.upd 0 rfl [] (fun _ h => h.elim)⟩
 have g14 := of_decide_eq_false b12
 refine Z0j 11 (.bool false) (congrArg Value.bool b12) ?_
 refine Z0N 4 S11 3 11 false 12 (pt b6 0) ?_
 refine Z0N 5 S11 3 11 false 13 (.int .i64 (p.r)) ?_ (he := fun _ H' => (Z2 rfl (by kernel_rfl) (H'.cell 2 rfl rfl)))
 refine Z0N 6 S11 3 11 false 14 (.agg ⟨(Z1b f cn)⟩) ?_ (he := fun _ H' => (Zc (vs := (Z1b f cn)) rfl (by kernel_rfl) (by kernel_rfl) (by exact Nat.le_of_ble_eq_true (by kernel_rfl)) (H'.at 1 rfl) (by kernel_rfl)))
 refine Z5v 7 rfl (by kernel_rfl) (Z01 3 11 false rfl (by kernel_rfl) rfl (by kernel_rfl)) (fun Kq kq => ?_)
 refine zdq 15 (Z8Y w9 f cn (by omega)) H10 ?_
 intro w18 H19
 have S21 := H19.pk [0, 1, 2]
 refine kq _ _ S21 ?_
 clear kq Kq
 refine Z0N 8 S21 3 11 false 16 (.bool (decide (p.r ≥ (3 * f + 1)))) ?_
 refine hv0 9 S21 17 (.bool (decide (p.r ≥ (3 * f + 1)))) ?_
 refine hv0 10 S21 18 (.bool (decide (p.r ≥ (3 * f + 1)))) ?_
 refine (Zl (decide (p.r ≥ (3 * f + 1)))).elim (fun b22 => ?_) (fun b22 => ?_)
 ·have g23 := of_decide_eq_true b22
  refine Z0j 18 (.bool true) (congrArg Value.bool b22) ?_
  refine Zx 11 S21 10 18 false ?_
  refine Zx 12 S21 10 18 false ?_
  refine Zx 13 S21 10 18 false ?_
  refine hv0 14 S21 22 (.bool true) ?_
  refine hv0 15 S21 23 (.bool true) ?_
  refine Zx 16 S21 15 23 false ?_
  refine Zx 17 S21 15 23 false ?_
  refine Zx 18 S21 15 23 false ?_
  refine hv0 19 S21 27 (.bool true) ?_
  refine hv0 20 S21 28 (.bool true) ?_
  refine Zx 21 S21 20 28 false ?_
  refine Zx 22 S21 20 28 false ?_
  refine Zx 23 S21 20 28 false ?_
  refine Zx 24 S21 20 28 false ?_
  refine hv0 25 S21 33 (.bool true) ?_
  refine hv0 26 S21 34 (.bool true) ?_
  refine Zx 27 S21 26 34 false ?_
  refine Zx 28 S21 26 34 false ?_
  refine Zx 29 S21 26 34 false ?_
  refine hv0 30 S21 38 (.bool true) ?_
  refine hv0 31 S21 39 (.bool true) ?_
  refine Zx 32 S21 31 39 false ?_
  refine Zx 33 S21 31 39 false ?_
  refine Zx 34 S21 31 39 false ?_
  refine Zx 35 S21 31 39 false ?_
  refine Zx 36 S21 31 39 false ?_
  refine Zx 37 S21 31 39 false ?_
  refine hv0 38 S21 46 (.bool true) ?_
  refine hv0 39 S21 47 (.bool true) ?_
  refine Zx 40 S21 39 47 false ?_
  refine Zx 41 S21 39 47 false ?_
  refine Zx 42 S21 39 47 false ?_
  refine Zx 43 S21 39 47 false ?_
  refine Zx 44 S21 39 47 false ?_
  refine Zx 45 S21 39 47 false ?_
  refine Zx 46 S21 39 47 false ?_
  refine hv0 47 S21 55 (.bool true) ?_
  refine zhf ?_
  apply ztn
  refine Z0P rfl ?_
  apply zsl
  refine wv 6 (.bool false) ?_
  apply znt
  apply ZA
  apply Zr
  refine ze1 (.bool false) ?_
  have hin : inB f p.r = false := by unfold inB; simp; omega
  exact ⟨by simp only [Z0n, hin, bls], H19.upd 0 rfl [] (fun _ h => h.elim)⟩
 have g25 := of_decide_eq_false b22
 refine Z0j 18 (.bool false) (congrArg Value.bool b22) ?_
 refine Z0N 11 S21 10 18 false 19 (pt b6 1) ?_
 refine Z0N 12 S21 10 18 false 20 (.int .i64 (p.e)) ?_ (he := fun _ H' => (Z2 rfl (by kernel_rfl) (H'.cell 2 rfl rfl)))
 refine Z0N 13 S21 10 18 false 21 (.bool (decide (p.e < 0))) ?_
 refine hv0 14 S21 22 (.bool (decide (p.e < 0))) ?_
 refine hv0 15 S21 23 (.bool (decide (p.e < 0))) ?_
 refine (Zl (decide (p.e < 0))).elim (fun b27 => ?_) (fun b27 => ?_)
 ·have g28 := of_decide_eq_true b27
  refine Z0j 23 (.bool true) (congrArg Value.bool b27) ?_
  refine Zx 16 S21 15 23 false ?_
  refine Zx 17 S21 15 23 false ?_
  refine Zx 18 S21 15 23 false ?_
  refine hv0 19 S21 27 (.bool true) ?_
  refine hv0 20 S21 28 (.bool true) ?_
  refine Zx 21 S21 20 28 false ?_
  refine Zx 22 S21 20 28 false ?_
  refine Zx 23 S21 20 28 false ?_
  refine Zx 24 S21 20 28 false ?_
  refine hv0 25 S21 33 (.bool true) ?_
  refine hv0 26 S21 34 (.bool true) ?_
  refine Zx 27 S21 26 34 false ?_
  refine Zx 28 S21 26 34 false ?_
  refine Zx 29 S21 26 34 false ?_
  refine hv0 30 S21 38 (.bool true) ?_
  refine hv0 31 S21 39 (.bool true) ?_
  refine Zx 32 S21 31 39 false ?_
  refine Zx 33 S21 31 39 false ?_
  refine Zx 34 S21 31 39 false ?_
  refine Zx 35 S21 31 39 false ?_
  refine Zx 36 S21 31 39 false ?_
  refine Zx 37 S21 31 39 false ?_
  refine hv0 38 S21 46 (.bool true) ?_
  refine hv0 39 S21 47 (.bool true) ?_
  refine Zx 40 S21 39 47 false ?_
  refine Zx 41 S21 39 47 false ?_
  refine Zx 42 S21 39 47 false ?_
  refine Zx 43 S21 39 47 false ?_
  refine Zx 44 S21 39 47 false ?_
  refine Zx 45 S21 39 47 false ?_
  refine Zx 46 S21 39 47 false ?_
  refine hv0 47 S21 55 (.bool true) ?_
  refine zhf ?_
  apply ztn
  refine Z0P rfl ?_
  apply zsl
  refine wv 6 (.bool false) ?_
  apply znt
  apply ZA
  apply Zr
  refine ze1 (.bool false) ?_
  have hin : inB f p.r = true := by unfold inB; simp; omega
  exact ⟨by simp only [Z0n, b12, b22, b27, hin, bls], H19.upd 0 rfl [] (fun _ h => h.elim)⟩
 have g29 := of_decide_eq_false b27
 refine Z0j 23 (.bool false) (congrArg Value.bool b27) ?_
 refine Z0N 16 S21 15 23 false 24 (pt b6 1) ?_
 refine Z0N 17 S21 15 23 false 25 (.int .i64 (p.e)) ?_ (he := fun _ H' => (Z2 rfl (by kernel_rfl) (H'.cell 2 rfl rfl)))
 refine Z0N 18 S21 15 23 false 26 (.bool (decide (p.e > 1048576))) ?_
 refine hv0 19 S21 27 (.bool (decide (p.e > 1048576))) ?_
 refine hv0 20 S21 28 (.bool (decide (p.e > 1048576))) ?_
 refine (Zl (decide (p.e > 1048576))).elim (fun b32 => ?_) (fun b32 => ?_)
 ·have g32 := of_decide_eq_true b32
  refine Z0j 28 (.bool true) (congrArg Value.bool b32) ?_
  refine Zx 21 S21 20 28 false ?_
  refine Zx 22 S21 20 28 false ?_
  refine Zx 23 S21 20 28 false ?_
  refine Zx 24 S21 20 28 false ?_
  refine hv0 25 S21 33 (.bool true) ?_
  refine hv0 26 S21 34 (.bool true) ?_
  refine Zx 27 S21 26 34 false ?_
  refine Zx 28 S21 26 34 false ?_
  refine Zx 29 S21 26 34 false ?_
  refine hv0 30 S21 38 (.bool true) ?_
  refine hv0 31 S21 39 (.bool true) ?_
  refine Zx 32 S21 31 39 false ?_
  refine Zx 33 S21 31 39 false ?_
  refine Zx 34 S21 31 39 false ?_
  refine Zx 35 S21 31 39 false ?_
  refine Zx 36 S21 31 39 false ?_
  refine Zx 37 S21 31 39 false ?_
  refine hv0 38 S21 46 (.bool true) ?_
  refine hv0 39 S21 47 (.bool true) ?_
  refine Zx 40 S21 39 47 false ?_
  refine Zx 41 S21 39 47 false ?_
  refine Zx 42 S21 39 47 false ?_
  refine Zx 43 S21 39 47 false ?_
  refine Zx 44 S21 39 47 false ?_
  refine Zx 45 S21 39 47 false ?_
  refine Zx 46 S21 39 47 false ?_
  refine hv0 47 S21 55 (.bool true) ?_
  refine zhf ?_
  apply ztn
  refine Z0P rfl ?_
  apply zsl
  refine wv 6 (.bool false) ?_
  apply znt
  apply ZA
  apply Zr
  refine ze1 (.bool false) ?_
  have hin : inB f p.r = true := by unfold inB; simp; omega
  exact ⟨by simp only [Z0n, b12, b22, b27, b32, hin, bls], H19.upd 0 rfl [] (fun _ h => h.elim)⟩
 have g35 := of_decide_eq_false b32
 refine Z0j 28 (.bool false) (congrArg Value.bool b32) ?_
 refine Z0N 21 S21 20 28 false 29 (pt b6 3) ?_
 refine Z0N 22 S21 20 28 false 30 (.slice p.ca p.C.length p.cc) ?_ (he := fun _ H' => (Z2 rfl (by kernel_rfl) (H'.cell 2 rfl rfl)))
 refine Z1D 23 rfl (by kernel_rfl) (by kernel_rfl) (by kernel_rfl) (fun _ _ _ h => h) S21 (Z01 20 28 false rfl (by kernel_rfl) rfl (by kernel_rfl)) (d := 31) (v := (.int .i64 ((p.C.length : Int)))) rfl (fun _ H' => (by kernel_rfl)) ?_
 refine Z0N 24 S21 20 28 false 32 (.bool (decide ((p.C.length : Int) > 64))) ?_
 refine hv0 25 S21 33 (.bool (decide ((p.C.length : Int) > 64))) ?_
 refine hv0 26 S21 34 (.bool (decide ((p.C.length : Int) > 64))) ?_
 refine (Zl (decide ((p.C.length : Int) > 64))).elim (fun b37 => ?_) (fun b37 => ?_)
 ·have g38 := of_decide_eq_true b37
  refine Z0j 34 (.bool true) (congrArg Value.bool b37) ?_
  refine Zx 27 S21 26 34 false ?_
  refine Zx 28 S21 26 34 false ?_
  refine Zx 29 S21 26 34 false ?_
  refine hv0 30 S21 38 (.bool true) ?_
  refine hv0 31 S21 39 (.bool true) ?_
  refine Zx 32 S21 31 39 false ?_
  refine Zx 33 S21 31 39 false ?_
  refine Zx 34 S21 31 39 false ?_
  refine Zx 35 S21 31 39 false ?_
  refine Zx 36 S21 31 39 false ?_
  refine Zx 37 S21 31 39 false ?_
  refine hv0 38 S21 46 (.bool true) ?_
  refine hv0 39 S21 47 (.bool true) ?_
  refine Zx 40 S21 39 47 false ?_
  refine Zx 41 S21 39 47 false ?_
  refine Zx 42 S21 39 47 false ?_
  refine Zx 43 S21 39 47 false ?_
  refine Zx 44 S21 39 47 false ?_
  refine Zx 45 S21 39 47 false ?_
  refine Zx 46 S21 39 47 false ?_
  refine hv0 47 S21 55 (.bool true) ?_
  refine zhf ?_
  apply ztn
  refine Z0P rfl ?_
  apply zsl
  refine wv 6 (.bool false) ?_
  apply znt
  apply ZA
  apply Zr
  refine ze1 (.bool false) ?_
  have hin : inB f p.r = true := by unfold inB; simp; omega
  exact ⟨by simp only [Z0n, b12, b22, b27, b32, b37, hin, bls], H19.upd 0 rfl [] (fun _ h => h.elim)⟩
 have g40 := of_decide_eq_false b37
 refine Z0j 34 (.bool false) (congrArg Value.bool b37) ?_
 refine Z0N 27 S21 26 34 false 35 (pt b6 2) ?_
 refine Z0N 28 S21 26 34 false 36 (.int .u64 (p.f)) ?_ (he := fun _ H' => (Z2 rfl (by kernel_rfl) (H'.cell 2 rfl rfl)))
 refine Z0N 29 S21 26 34 false 37 (.bool (decide (p.f = 18446744073709551615))) ?_
 refine hv0 30 S21 38 (.bool (decide (p.f = 18446744073709551615))) ?_
 refine hv0 31 S21 39 (.bool (decide (p.f = 18446744073709551615))) ?_
 refine (Zl (decide (p.f = 18446744073709551615))).elim (fun b42 => ?_) (fun b42 => ?_)
 ·have g43 := of_decide_eq_true b42
  refine Z0j 39 (.bool true) (congrArg Value.bool b42) ?_
  refine Zx 32 S21 31 39 false ?_
  refine Zx 33 S21 31 39 false ?_
  refine Zx 34 S21 31 39 false ?_
  refine Zx 35 S21 31 39 false ?_
  refine Zx 36 S21 31 39 false ?_
  refine Zx 37 S21 31 39 false ?_
  refine hv0 38 S21 46 (.bool true) ?_
  refine hv0 39 S21 47 (.bool true) ?_
  refine Zx 40 S21 39 47 false ?_
  refine Zx 41 S21 39 47 false ?_
  refine Zx 42 S21 39 47 false ?_
  refine Zx 43 S21 39 47 false ?_
  refine Zx 44 S21 39 47 false ?_
  refine Zx 45 S21 39 47 false ?_
  refine Zx 46 S21 39 47 false ?_
  refine hv0 47 S21 55 (.bool true) ?_
  refine zhf ?_
  apply ztn
  refine Z0P rfl ?_
  apply zsl
  refine wv 6 (.bool false) ?_
  apply znt
  apply ZA
  apply Zr
  refine ze1 (.bool false) ?_
  have hin : inB f p.r = true := by unfold inB; simp; omega
  exact ⟨by simp only [Z0n, b12, b22, b27, b32, b37, b42, hin, bls], H19.upd 0 rfl [] (fun _ h => h.elim)⟩
 have g45 := of_decide_eq_false b42
 refine Z0j 39 (.bool false) (congrArg Value.bool b42) ?_
 refine Z0N 32 S21 31 39 false 40 (pt b6 4) ?_
 refine Z0N 33 S21 31 39 false 41 (pt b6 4) ?_
 refine Z0N 34 S21 31 39 false 42 (.int .i64 (p.sb)) ?_ (he := fun _ H' => (Z2 rfl (by kernel_rfl) (H'.cell 2 rfl rfl)))
 refine Z0N 35 S21 31 39 false 43 (pt b6 0) ?_
 refine Z0N 36 S21 31 39 false 44 (.int .i64 (p.r)) ?_ (he := fun _ H' => (Z2 rfl (by kernel_rfl) (H'.cell 2 rfl rfl)))
 refine Z0N 37 S21 31 39 false 45 (.bool (!(decide (p.sb = p.r)))) ?_
 refine hv0 38 S21 46 (.bool (!(decide (p.sb = p.r)))) ?_
 refine hv0 39 S21 47 (.bool (!(decide (p.sb = p.r)))) ?_
 refine (Zl (!(decide (p.sb = p.r)))).elim (fun b47 => ?_) (fun b47 => ?_)
 ·have g48 := Zy b47
  have g49 := of_decide_eq_false g48
  refine Z0j 47 (.bool true) (congrArg Value.bool b47) ?_
  refine Zx 40 S21 39 47 false ?_
  refine Zx 41 S21 39 47 false ?_
  refine Zx 42 S21 39 47 false ?_
  refine Zx 43 S21 39 47 false ?_
  refine Zx 44 S21 39 47 false ?_
  refine Zx 45 S21 39 47 false ?_
  refine Zx 46 S21 39 47 false ?_
  refine hv0 47 S21 55 (.bool true) ?_
  refine zhf ?_
  apply ztn
  refine Z0P rfl ?_
  apply zsl
  refine wv 6 (.bool false) ?_
  apply znt
  apply ZA
  apply Zr
  refine ze1 (.bool false) ?_
  have n52 := Zy b47
  have hin : inB f p.r = true := by unfold inB; simp; omega
  exact ⟨by simp only [Z0n, b12, b22, b27, b32, b37, b42, n52, hin, bls], H19.upd 0 rfl [] (fun _ h => h.elim)⟩
 have g53 := Za b47
 have g54 := of_decide_eq_true g53
 refine Z0j 47 (.bool false) (congrArg Value.bool b47) ?_
 refine Z0N 40 S21 39 47 false 48 (pt r 0) ?_
 refine Z0N 41 S21 39 47 false 49 (pt b6 4) ?_
 refine Z0N 42 S21 39 47 false 50 (.agg ⟨(Z1b p.sb p.sm)⟩) ?_ (he := fun _ H' => (Zc (vs := (Z1b p.sb p.sm)) rfl (by kernel_rfl) (by kernel_rfl) (by exact Nat.le_of_ble_eq_true (by kernel_rfl)) (H'.at 2 rfl) (by kernel_rfl)))
 refine Z0N 43 S21 39 47 false 51 (.agg ⟨(Z3T p)⟩) ?_ (he := fun _ H' => (Zc (vs := (Z3T p)) rfl (by kernel_rfl) (by kernel_rfl) (by exact Nat.le_of_ble_eq_true (by kernel_rfl)) (H'.at 2 rfl) (by kernel_rfl)))
 refine Z5v 44 rfl (by kernel_rfl) (Z01 39 47 false rfl (by kernel_rfl) rfl (by kernel_rfl)) (fun Kq kq => ?_)
 refine zdc 52 (Z1l w18 p (ListAt.now H19 0 rfl hC) (fun i_ hi_ => ((hB i_ hi_).keep H19 0 rfl)) hl hpn) ?_
 rintro _ w58 ⟨u59, rfl, k60, p61, q62⟩
 have H63 := H19.addU p61 k60 q62
 obtain ⟨a64, c65, rfl⟩ := Z1 (H63.at 3 rfl)
 refine ⟨_, rfl, ?_⟩
 have S66 := H63.pk [0, 1, 2]
 refine kq _ _ S66 ?_
 clear kq Kq
 refine Z5v 45 rfl (by kernel_rfl) (Z01 39 47 false rfl (by kernel_rfl) rfl (by kernel_rfl)) (fun Kq kq => ?_)
 refine zdq 53 (Z3e w58 r ra rc L (H63.roCk 0 rfl hb (fun _ _ h => h)) (H63.roCk 0 rfl hr (fun _ _ h => h)) hn hL a64 c65 (ZB p) (ListAt.row (enc := ZN) (sz := 1) ZE (by decide) (H63.at 3 rfl)) p.sb p.sm) H63 ?_
 intro w68 H69
 have S71 := H69.pk [0, 1, 2]
 refine kq _ _ S71 ?_
 clear kq Kq
 refine Z0N 46 S71 39 47 false 54 (.bool (!(Z0p L p.sb p.sm (ZB p)))) ?_
 refine hv0 47 S71 55 (.bool (!(Z0p L p.sb p.sm (ZB p)))) ?_
 refine zhf ?_
 apply ztn
 refine (Zl (!(Z0p L p.sb p.sm (ZB p)))).elim (fun b72 => ?_) (fun b72 => ?_)
 ·have g73 := Zy b72
  refine Z1o _ b72 ?_
  apply zsl
  refine wv 6 (.bool false) ?_
  apply znt
  apply ZA
  apply Zr
  refine ze1 (.bool false) ?_
  have n75 := Za b47
  have n76 := Zy b72
  have hin : inB f p.r = true := by unfold inB; simp; omega
  exact ⟨by simp only [Z0n, b12, b22, b27, b32, b37, b42, n75, n76, hin, bls], H69.upd 0 rfl [] (fun _ h => h.elim)⟩
 have g77 := Za b72
 refine Z18 _ b72 ?_
 apply ZL
 apply ztn
 apply Zt
 apply zsl
 refine wv 56 (pt b6 3) ?_
 refine zw1 57 (.slice p.ca p.C.length p.cc) (H69.cell 2 rfl rfl) ?_
 refine wv 58 (.int .i64 ((p.C.length : Int))) ?_
 refine wv 59 (.int .i64 (0)) ?_
 apply znt
 apply ZG
 have n79 := Za b47
 have n80 := Za b72
 have hin : inB f p.r = true := by unfold inB; simp; omega
 refine Z02 ([6, 7] ++ List.range' 59 47) (fun F_ W_ m_ => ∃ (i : Nat), F_ 59 = (.int .i64 ((i : Int))) ∧ (i ≤ p.C.length) ∧ (∀ j, j < i → Z3R f cn L p.f p.C j = true) ∧ Sat w [Z6 w (fun _ => False), Z0 b2 36 (Z1b f cn), Z0 b6 34 (Z3T p), ZH 5 1 (.slice a64 ((ZB p).length) c65) ((ZB p).length) ((ZB p).flatMap ZN)] W_ ∧ m_ = p.C.length - i) _ ⟨0, (show ((.int .i64 (0)) : Value) = _ by first | rfl | go_num), (Nat.zero_le _), (fun _ h => absurd h (Nat.not_lt_zero _)), H69, rfl⟩ ?_
 rintro g81 w82 _ ⟨i, v84, hi, hall, H83, rfl⟩
 refine ZF 59 _ v84 ?_
 apply zsl
 refine wv 60 (.bool (decide ((i : Int) < (p.C.length : Int)))) ?_
 apply znt
 apply Zt
 refine (Zl (decide ((i : Int) < (p.C.length : Int)))).elim (fun b86 => ?_) (fun b86 => ?_)
 ·have g87 := of_decide_eq_true b86
  refine Z1o _ b86 ?_
  apply ZL
  apply ztn
  apply Zt
  apply ZG
  apply zsl
  refine wv 61 (.int .i64 ((i : Int))) ?_
  refine wv 7 (.int .i64 ((i : Int))) ?_
  apply znt
  apply Zt
  refine zqs H83 ?_
  refine qv 62 (.int .i64 ((i : Int))) ?_
  refine qv 63 (.bool (decide ((i : Int) > 0))) ?_
  refine qv 64 (.bool (decide ((i : Int) > 0))) ?_
  refine (Zl (decide ((i : Int) > 0))).elim (fun b89 => ?_) (fun b89 => ?_)
  ·have g90 := of_decide_eq_true b89
   refine Z0k 64 (.bool true) (congrArg Value.bool b89) ?_
   refine qy 2 64 true 65 (pt b6 3) ?_
   refine qy 2 64 true 66 (.slice p.ca p.C.length p.cc) ?_ (hr := fun _ H' => (Z2 rfl (by kernel_rfl) (H'.cell 2 rfl rfl)))
   refine qy 2 64 true 67 (.int .i64 ((i : Int))) ?_
   refine qy 2 64 true 68 (.int .i64 ((i : Int) - 1)) ?_ (hr := fun _ H' => (Z0I (z := (i : Int) - 1) (by kernel_rfl) (IntWalk.i64_in _ (by omega))))
   obtain ⟨g92, o93, c94, e95, R96⟩ := SliceOf.atD hC ce0 (show ((i : Int) - 1).toNat < p.C.length by omega)
   refine qy 2 64 true 69 (.pointer (some ⟨g92, o93 + ((i : Int) - 1).toNat * 38, none⟩)) ?_ (hr := fun _ H' => (ZC (E := 53) (by kernel_rfl) (by kernel_rfl) (Nat.le_of_ble_eq_true rfl) rfl e95 rfl (by omega) (by omega)))
   refine qy 2 64 true 70 (.pointer (some ⟨g92, o93 + ((i : Int) - 1).toNat * 38, none⟩)) ?_
   refine qy 2 64 true 71 (.pointer (some ⟨g92, o93 + ((i : Int) - 1).toNat * 38, none⟩)) ?_
   refine qy 2 64 true 72 (.agg ⟨(Z1b ((p.C.getD ((i : Int) - 1).toNat ce0).x.cl) ((p.C.getD ((i : Int) - 1).toNat ce0).x.seq))⟩) ?_ (hr := fun _ H' => (Z0f (vs := (Z1b ((p.C.getD ((i : Int) - 1).toNat ce0).x.cl) ((p.C.getD ((i : Int) - 1).toNat ce0).x.seq))) rfl (by kernel_rfl) (by kernel_rfl) (Nat.le_of_ble_eq_true (by kernel_rfl)) (H'.runR 0 rfl (Z10 R96 0 (by kernel_rfl) (show o93 + ((i : Int) - 1).toNat * 38 = o93 + ((i : Int) - 1).toNat * 38 + 0 by omega)) (fun h => h))))
   refine qy 2 64 true 73 (pt b6 3) ?_
   refine qy 2 64 true 74 (.slice p.ca p.C.length p.cc) ?_ (hr := fun _ H' => (Z2 rfl (by kernel_rfl) (H'.cell 2 rfl rfl)))
   refine qy 2 64 true 75 (.int .i64 ((i : Int))) ?_
   obtain ⟨g97, o98, c99, e100, R101⟩ := SliceOf.atD hC ce0 (show i < p.C.length by omega)
   refine qy 2 64 true 76 (.pointer (some ⟨g97, o98 + ((i : Int)).toNat * 38, none⟩)) ?_ (hr := fun _ H' => (ZC (E := 53) (by kernel_rfl) (by kernel_rfl) (Nat.le_of_ble_eq_true rfl) rfl e100 rfl (by omega) (by omega)))
   refine qy 2 64 true 77 (.pointer (some ⟨g97, o98 + ((i : Int)).toNat * 38, none⟩)) ?_
   refine qy 2 64 true 78 (.pointer (some ⟨g97, o98 + ((i : Int)).toNat * 38, none⟩)) ?_
   refine qy 2 64 true 79 (.agg ⟨(Z1b ((p.C.getD i ce0).x.cl) ((p.C.getD i ce0).x.seq))⟩) ?_ (hr := fun _ H' => (Z0f (vs := (Z1b ((p.C.getD i ce0).x.cl) ((p.C.getD i ce0).x.seq))) rfl (by kernel_rfl) (by kernel_rfl) (Nat.le_of_ble_eq_true (by kernel_rfl)) (H'.runR 0 rfl (Z10 R101 0 (by kernel_rfl) (show o98 + ((i : Int)).toNat * 38 = o98 + i * 38 + 0 by omega)) (fun h => h))))
   refine Z0B (Z01 2 64 true rfl (by kernel_rfl) rfl (by kernel_rfl)) (d := 80) (v := (.bool (decide (((p.C.getD ((i : Int) - 1).toNat ce0).x.cl) < ((p.C.getD i ce0).x.cl)) || decide (((p.C.getD ((i : Int) - 1).toNat ce0).x.cl) = ((p.C.getD i ce0).x.cl)) && decide (((p.C.getD ((i : Int) - 1).toNat ce0).x.seq) < ((p.C.getD i ce0).x.seq))))) rfl (fun _ _ => by kernel_rfl) (fun w' H' => (Z7F w' ((p.C.getD ((i : Int) - 1).toNat ce0).x.cl) ((p.C.getD ((i : Int) - 1).toNat ce0).x.seq) ((p.C.getD i ce0).x.cl) ((p.C.getD i ce0).x.seq)).mono fun _ _ h => ⟨h.1, H'.keepU h.2⟩) ?_
   refine qy 2 64 true 81 (.bool (!(decide (((p.C.getD ((i : Int) - 1).toNat ce0).x.cl) < ((p.C.getD i ce0).x.cl)) || decide (((p.C.getD ((i : Int) - 1).toNat ce0).x.cl) = ((p.C.getD i ce0).x.cl)) && decide (((p.C.getD ((i : Int) - 1).toNat ce0).x.seq) < ((p.C.getD i ce0).x.seq))))) ?_
   refine qv 82 (.bool (!(decide (((p.C.getD ((i : Int) - 1).toNat ce0).x.cl) < ((p.C.getD i ce0).x.cl)) || decide (((p.C.getD ((i : Int) - 1).toNat ce0).x.cl) = ((p.C.getD i ce0).x.cl)) && decide (((p.C.getD ((i : Int) - 1).toNat ce0).x.seq) < ((p.C.getD i ce0).x.seq))))) ?_
   refine qv 83 (.bool (!(decide (((p.C.getD ((i : Int) - 1).toNat ce0).x.cl) < ((p.C.getD i ce0).x.cl)) || decide (((p.C.getD ((i : Int) - 1).toNat ce0).x.cl) = ((p.C.getD i ce0).x.cl)) && decide (((p.C.getD ((i : Int) - 1).toNat ce0).x.seq) < ((p.C.getD i ce0).x.seq))))) ?_
   refine (Zl (!(decide (((p.C.getD ((i : Int) - 1).toNat ce0).x.cl) < ((p.C.getD i ce0).x.cl)) || decide (((p.C.getD ((i : Int) - 1).toNat ce0).x.cl) = ((p.C.getD i ce0).x.cl)) && decide (((p.C.getD ((i : Int) - 1).toNat ce0).x.seq) < ((p.C.getD i ce0).x.seq))))).elim (fun b102 => ?_) (fun b102 => ?_)
   ·have g103 := Zy b102
    refine Z0k 83 (.bool true) (congrArg Value.bool b102) ?_
    iterate 9 refine qn 21 83 false ?_
    refine qv 93 (.bool true) ?_
    refine qv 94 (.bool true) ?_
    iterate 9 refine qn 32 94 false ?_
    refine qv 104 (.bool true) ?_
    refine Z0S ?_
    intro w105 H106
    apply ztn
    refine Z0P rfl ?_
    apply zsl
    refine wv 6 (.bool false) ?_
    apply znt
    apply ZA
    apply ZP
    apply Zr
    apply Z0l
    apply ZP
    apply Zr
    refine ze1 (.bool false) ?_
    have n107 := Zy b102
    have e1 : ((i : Int) - 1).toNat = i - 1 := by omega
    have ho : Z3R f cn L p.f p.C i = false := by unfold Z3R; rw [← e1]; simp only [Z3J, b86, b89, n107, bls]
    exact ⟨by simp only [Z0n, Z0T (show i < p.C.length by omega) ho, Bool.and_false], H106.upd 0 rfl [] (fun _ h => h.elim)⟩
   have g108 := Za b102
   refine Z0k 83 (.bool false) (congrArg Value.bool b102) ?_
   refine qy 21 83 false 84 (.agg ⟨(Z1b f cn)⟩) ?_ (hr := fun _ H' => (Zc (vs := (Z1b f cn)) rfl (by kernel_rfl) (by kernel_rfl) (by exact Nat.le_of_ble_eq_true (by kernel_rfl)) (H'.at 1 rfl) (by kernel_rfl)))
   refine qy 21 83 false 85 (pt r 0) ?_
   refine qy 21 83 false 86 (pt b6 3) ?_
   refine qy 21 83 false 87 (.slice p.ca p.C.length p.cc) ?_ (hr := fun _ H' => (Z2 rfl (by kernel_rfl) (H'.cell 2 rfl rfl)))
   refine qy 21 83 false 88 (.int .i64 ((i : Int))) ?_
   refine qy 21 83 false 89 (.pointer (some ⟨g97, o98 + ((i : Int)).toNat * 38, none⟩)) ?_ (hr := fun _ H' => (ZC (E := 53) (by kernel_rfl) (by kernel_rfl) (Nat.le_of_ble_eq_true rfl) rfl e100 rfl (by omega) (by omega)))
   refine qy 21 83 false 90 (.agg ⟨(Z1W ((p.C.getD i ce0).x) (p.C.getD i ce0) (((p.C.getD i ce0).S).length))⟩) ?_ (hr := fun _ H' => (Z0f (vs := (Z1W ((p.C.getD i ce0).x) (p.C.getD i ce0) (((p.C.getD i ce0).S).length))) rfl (by kernel_rfl) (by kernel_rfl) (Nat.le_of_ble_eq_true (by kernel_rfl)) (H'.runR 0 rfl (Z10 R101 0 (by kernel_rfl) (show o98 + ((i : Int)).toNat * 38 = o98 + i * 38 + 0 by omega)) (fun h => h))))
   refine Z0B (Z01 21 83 false rfl (by kernel_rfl) rfl (by kernel_rfl)) (d := 91) (v := (.bool (Z06 f cn L (p.C.getD i ce0).x (p.C.getD i ce0).S))) rfl (fun _ _ => by kernel_rfl) (fun w' H' => (Z49 w' f cn (by omega) r ra rc L (H'.roCk 0 rfl hb (fun _ _ h => h)) (H'.roCk 0 rfl hr (fun _ _ h => h)) hn hL (p.C.getD i ce0).x ((hB i (by omega)).keep H' 0 rfl).x.1 (p.C.getD i ce0).sa (p.C.getD i ce0).sc (p.C.getD i ce0).S ((hB i (by omega)).keep H' 0 rfl).at_ (fun i_ hi_ => (((hB i (by omega)).keep H' 0 rfl).S i_ hi_).1) (by have q := (hB i (by omega)).len; omega)).mono fun _ _ h => ⟨h.1, H'.keepU h.2⟩) ?_
   refine qy 21 83 false 92 (.bool (!(Z06 f cn L (p.C.getD i ce0).x (p.C.getD i ce0).S))) ?_
   refine qv 93 (.bool (!(Z06 f cn L (p.C.getD i ce0).x (p.C.getD i ce0).S))) ?_
   refine qv 94 (.bool (!(Z06 f cn L (p.C.getD i ce0).x (p.C.getD i ce0).S))) ?_
   refine (Zl (!(Z06 f cn L (p.C.getD i ce0).x (p.C.getD i ce0).S))).elim (fun b110 => ?_) (fun b110 => ?_)
   ·have g111 := Zy b110
    refine Z0k 94 (.bool true) (congrArg Value.bool b110) ?_
    iterate 9 refine qn 32 94 false ?_
    refine qv 104 (.bool true) ?_
    refine Z0S ?_
    intro w113 H114
    apply ztn
    refine Z0P rfl ?_
    apply zsl
    refine wv 6 (.bool false) ?_
    apply znt
    apply ZA
    apply ZP
    apply Zr
    apply Z0l
    apply ZP
    apply Zr
    refine ze1 (.bool false) ?_
    have n115 := Za b102
    have n116 := Zy b110
    have e1 : ((i : Int) - 1).toNat = i - 1 := by omega
    have ho : Z3R f cn L p.f p.C i = false := by unfold Z3R; rw [← e1]; simp only [Z3J, b86, b89, n115, n116, bls]
    exact ⟨by simp only [Z0n, Z0T (show i < p.C.length by omega) ho, Bool.and_false], H114.upd 0 rfl [] (fun _ h => h.elim)⟩
   have g117 := Za b110
   refine Z0k 94 (.bool false) (congrArg Value.bool b110) ?_
   refine qy 32 94 false 95 (pt b6 3) ?_
   refine qy 32 94 false 96 (.slice p.ca p.C.length p.cc) ?_ (hr := fun _ H' => (Z2 rfl (by kernel_rfl) (H'.cell 2 rfl rfl)))
   refine qy 32 94 false 97 (.int .i64 ((i : Int))) ?_
   refine qy 32 94 false 98 (.pointer (some ⟨g97, o98 + ((i : Int)).toNat * 38, none⟩)) ?_ (hr := fun _ H' => (ZC (E := 53) (by kernel_rfl) (by kernel_rfl) (Nat.le_of_ble_eq_true rfl) rfl e100 rfl (by omega) (by omega)))
   refine qy 32 94 false 99 (.agg ⟨(Z1W ((p.C.getD i ce0).x) (p.C.getD i ce0) (((p.C.getD i ce0).S).length))⟩) ?_ (hr := fun _ H' => (Z0f (vs := (Z1W ((p.C.getD i ce0).x) (p.C.getD i ce0) (((p.C.getD i ce0).S).length))) rfl (by kernel_rfl) (by kernel_rfl) (Nat.le_of_ble_eq_true (by kernel_rfl)) (H'.runR 0 rfl (Z10 R101 0 (by kernel_rfl) (show o98 + ((i : Int)).toNat * 38 = o98 + i * 38 + 0 by omega)) (fun h => h))))
   refine Z0B (Z01 32 94 false rfl (by kernel_rfl) rfl (by kernel_rfl)) (d := 100) (v := (.int .u64 ((ZK (p.C.getD i ce0).S)))) rfl (fun _ _ => by kernel_rfl) (fun w' H' => (Z2d w' (p.C.getD i ce0).x (p.C.getD i ce0).sa (p.C.getD i ce0).sc (p.C.getD i ce0).S ((hB i (by omega)).keep H' 0 rfl).at_ (h12 i (by omega) (by assumption))).mono fun _ _ h => ⟨h.1, H'.keepU h.2⟩) ?_
   refine qy 32 94 false 101 (pt b6 2) ?_
   refine qy 32 94 false 102 (.int .u64 (p.f)) ?_ (hr := fun _ H' => (Z2 rfl (by kernel_rfl) (H'.cell 2 rfl rfl)))
   refine qy 32 94 false 103 (.bool (decide ((ZK (p.C.getD i ce0).S) > p.f))) ?_
   refine qv 104 (.bool (decide ((ZK (p.C.getD i ce0).S) > p.f))) ?_
   refine Z0S ?_
   intro w119 H120
   apply ztn
   refine (Zl (decide ((ZK (p.C.getD i ce0).S) > p.f))).elim (fun b121 => ?_) (fun b121 => ?_)
   ·have g122 := of_decide_eq_true b121
    refine Z1o _ b121 ?_
    apply zsl
    refine wv 6 (.bool false) ?_
    apply znt
    apply ZA
    apply ZP
    apply Zr
    apply Z0l
    apply ZP
    apply Zr
    refine ze1 (.bool false) ?_
    have n124 := Za b102
    have n125 := Za b110
    have e1 : ((i : Int) - 1).toNat = i - 1 := by omega
    have ho : Z3R f cn L p.f p.C i = false := by unfold Z3R; rw [← e1]; simp only [Z3J, b86, b89, n124, n125, b121, bls]
    exact ⟨by simp only [Z0n, Z0T (show i < p.C.length by omega) ho, Bool.and_false], H120.upd 0 rfl [] (fun _ h => h.elim)⟩
   have g126 := of_decide_eq_false b121
   refine Z18 _ b121 ?_
   apply ZL
   apply Zq
   apply ztn
   apply ZU
   refine zwi 105 ((i : Int) + 1) ?_
   refine wv 59 (.int .i64 ((i : Int) + 1)) ?_
   apply ZQ
   have n128 := Za b102
   have n129 := Za b110
   have e1 : ((i : Int) - 1).toNat = i - 1 := by omega
   have ho : Z3R f cn L p.f p.C i = true := by unfold Z3R; rw [← e1]; simp only [Z3J, b86, b89, n128, n129, b121, bls]
   refine Zw ?_ _ ⟨(i + 1), rfl, (by omega), (fun j hj => by rcases Nat.lt_or_ge j i with h | h; exact hall j h; rw [show j = i by omega]; exact ho), H120, rfl⟩ (by omega)
   exact zs
  have g130 := of_decide_eq_false b89
  refine Z0k 64 (.bool false) (congrArg Value.bool b89) ?_
  iterate 17 refine qn 2 64 true ?_
  refine qv 82 (.bool false) ?_
  refine qv 83 (.bool false) ?_
  refine qy 21 83 false 84 (.agg ⟨(Z1b f cn)⟩) ?_ (hr := fun _ H' => (Zc (vs := (Z1b f cn)) rfl (by kernel_rfl) (by kernel_rfl) (by exact Nat.le_of_ble_eq_true (by kernel_rfl)) (H'.at 1 rfl) (by kernel_rfl)))
  refine qy 21 83 false 85 (pt r 0) ?_
  refine qy 21 83 false 86 (pt b6 3) ?_
  refine qy 21 83 false 87 (.slice p.ca p.C.length p.cc) ?_ (hr := fun _ H' => (Z2 rfl (by kernel_rfl) (H'.cell 2 rfl rfl)))
  refine qy 21 83 false 88 (.int .i64 ((i : Int))) ?_
  obtain ⟨g132, o133, c134, e135, R136⟩ := SliceOf.atD hC ce0 (show i < p.C.length by omega)
  refine qy 21 83 false 89 (.pointer (some ⟨g132, o133 + ((i : Int)).toNat * 38, none⟩)) ?_ (hr := fun _ H' => (ZC (E := 53) (by kernel_rfl) (by kernel_rfl) (Nat.le_of_ble_eq_true rfl) rfl e135 rfl (by omega) (by omega)))
  refine qy 21 83 false 90 (.agg ⟨(Z1W ((p.C.getD i ce0).x) (p.C.getD i ce0) (((p.C.getD i ce0).S).length))⟩) ?_ (hr := fun _ H' => (Z0f (vs := (Z1W ((p.C.getD i ce0).x) (p.C.getD i ce0) (((p.C.getD i ce0).S).length))) rfl (by kernel_rfl) (by kernel_rfl) (Nat.le_of_ble_eq_true (by kernel_rfl)) (H'.runR 0 rfl (Z10 R136 0 (by kernel_rfl) (show o133 + ((i : Int)).toNat * 38 = o133 + i * 38 + 0 by omega)) (fun h => h))))
  refine Z0B (Z01 21 83 false rfl (by kernel_rfl) rfl (by kernel_rfl)) (d := 91) (v := (.bool (Z06 f cn L (p.C.getD i ce0).x (p.C.getD i ce0).S))) rfl (fun _ _ => by kernel_rfl) (fun w' H' => (Z49 w' f cn (by omega) r ra rc L (H'.roCk 0 rfl hb (fun _ _ h => h)) (H'.roCk 0 rfl hr (fun _ _ h => h)) hn hL (p.C.getD i ce0).x ((hB i (by omega)).keep H' 0 rfl).x.1 (p.C.getD i ce0).sa (p.C.getD i ce0).sc (p.C.getD i ce0).S ((hB i (by omega)).keep H' 0 rfl).at_ (fun i_ hi_ => (((hB i (by omega)).keep H' 0 rfl).S i_ hi_).1) (by have q := (hB i (by omega)).len; omega)).mono fun _ _ h => ⟨h.1, H'.keepU h.2⟩) ?_
  refine qy 21 83 false 92 (.bool (!(Z06 f cn L (p.C.getD i ce0).x (p.C.getD i ce0).S))) ?_
  refine qv 93 (.bool (!(Z06 f cn L (p.C.getD i ce0).x (p.C.getD i ce0).S))) ?_
  refine qv 94 (.bool (!(Z06 f cn L (p.C.getD i ce0).x (p.C.getD i ce0).S))) ?_
  refine (Zl (!(Z06 f cn L (p.C.getD i ce0).x (p.C.getD i ce0).S))).elim (fun b137 => ?_) (fun b137 => ?_)
  ·have g138 := Zy b137
   refine Z0k 94 (.bool true) (congrArg Value.bool b137) ?_
   iterate 9 refine qn 32 94 false ?_
   refine qv 104 (.bool true) ?_
   refine Z0S ?_
   intro w140 H141
   apply ztn
   refine Z0P rfl ?_
   apply zsl
   refine wv 6 (.bool false) ?_
   apply znt
   apply ZA
   apply ZP
   apply Zr
   apply Z0l
   apply ZP
   apply Zr
   refine ze1 (.bool false) ?_
   have n142 := Zy b137
   have e1 : ((i : Int) - 1).toNat = i - 1 := by omega
   have ho : Z3R f cn L p.f p.C i = false := by unfold Z3R; rw [← e1]; simp only [Z3J, b86, b89, n142, bls]
   exact ⟨by simp only [Z0n, Z0T (show i < p.C.length by omega) ho, Bool.and_false], H141.upd 0 rfl [] (fun _ h => h.elim)⟩
  have g143 := Za b137
  refine Z0k 94 (.bool false) (congrArg Value.bool b137) ?_
  refine qy 32 94 false 95 (pt b6 3) ?_
  refine qy 32 94 false 96 (.slice p.ca p.C.length p.cc) ?_ (hr := fun _ H' => (Z2 rfl (by kernel_rfl) (H'.cell 2 rfl rfl)))
  refine qy 32 94 false 97 (.int .i64 ((i : Int))) ?_
  refine qy 32 94 false 98 (.pointer (some ⟨g132, o133 + ((i : Int)).toNat * 38, none⟩)) ?_ (hr := fun _ H' => (ZC (E := 53) (by kernel_rfl) (by kernel_rfl) (Nat.le_of_ble_eq_true rfl) rfl e135 rfl (by omega) (by omega)))
  refine qy 32 94 false 99 (.agg ⟨(Z1W ((p.C.getD i ce0).x) (p.C.getD i ce0) (((p.C.getD i ce0).S).length))⟩) ?_ (hr := fun _ H' => (Z0f (vs := (Z1W ((p.C.getD i ce0).x) (p.C.getD i ce0) (((p.C.getD i ce0).S).length))) rfl (by kernel_rfl) (by kernel_rfl) (Nat.le_of_ble_eq_true (by kernel_rfl)) (H'.runR 0 rfl (Z10 R136 0 (by kernel_rfl) (show o133 + ((i : Int)).toNat * 38 = o133 + i * 38 + 0 by omega)) (fun h => h))))
  refine Z0B (Z01 32 94 false rfl (by kernel_rfl) rfl (by kernel_rfl)) (d := 100) (v := (.int .u64 ((ZK (p.C.getD i ce0).S)))) rfl (fun _ _ => by kernel_rfl) (fun w' H' => (Z2d w' (p.C.getD i ce0).x (p.C.getD i ce0).sa (p.C.getD i ce0).sc (p.C.getD i ce0).S ((hB i (by omega)).keep H' 0 rfl).at_ (h12 i (by omega) (by assumption))).mono fun _ _ h => ⟨h.1, H'.keepU h.2⟩) ?_
  refine qy 32 94 false 101 (pt b6 2) ?_
  refine qy 32 94 false 102 (.int .u64 (p.f)) ?_ (hr := fun _ H' => (Z2 rfl (by kernel_rfl) (H'.cell 2 rfl rfl)))
  refine qy 32 94 false 103 (.bool (decide ((ZK (p.C.getD i ce0).S) > p.f))) ?_
  refine qv 104 (.bool (decide ((ZK (p.C.getD i ce0).S) > p.f))) ?_
  refine Z0S ?_
  intro w145 H146
  apply ztn
  refine (Zl (decide ((ZK (p.C.getD i ce0).S) > p.f))).elim (fun b147 => ?_) (fun b147 => ?_)
  ·have g148 := of_decide_eq_true b147
   refine Z1o _ b147 ?_
   apply zsl
   refine wv 6 (.bool false) ?_
   apply znt
   apply ZA
   apply ZP
   apply Zr
   apply Z0l
   apply ZP
   apply Zr
   refine ze1 (.bool false) ?_
   have n150 := Za b137
   have e1 : ((i : Int) - 1).toNat = i - 1 := by omega
   have ho : Z3R f cn L p.f p.C i = false := by unfold Z3R; rw [← e1]; simp only [Z3J, b86, b89, n150, b147, bls]
   exact ⟨by simp only [Z0n, Z0T (show i < p.C.length by omega) ho, Bool.and_false], H146.upd 0 rfl [] (fun _ h => h.elim)⟩
  have g151 := of_decide_eq_false b147
  refine Z18 _ b147 ?_
  apply ZL
  apply Zq
  apply ztn
  apply ZU
  refine zwi 105 ((i : Int) + 1) ?_
  refine wv 59 (.int .i64 ((i : Int) + 1)) ?_
  apply ZQ
  have n153 := Za b137
  have e1 : ((i : Int) - 1).toNat = i - 1 := by omega
  have ho : Z3R f cn L p.f p.C i = true := by unfold Z3R; rw [← e1]; simp only [Z3J, b86, b89, n153, b147, bls]
  refine Zw ?_ _ ⟨(i + 1), rfl, (by omega), (fun j hj => by rcases Nat.lt_or_ge j i with h | h; exact hall j h; rw [show j = i by omega]; exact ho), H146, rfl⟩ (by omega)
  exact zs
 have g154 := of_decide_eq_false b86
 refine Z18 _ b86 ?_
 apply zxb
 apply ztn
 apply zsl
 refine wv 6 (.bool true) ?_
 apply znt
 apply ZA
 refine ze1 (.bool true) ?_
 have hn0 : i = p.C.length := by omega
 subst hn0
 exact ⟨by simp only [Z0n, Z5e hall, b12, b22, b27, b32, b37, b42, n79, n80, hin, bls], H83.upd 0 rfl [] (fun _ h => h.elim)⟩
end Go.Proofs.YtoaifondpohniaaGreat
