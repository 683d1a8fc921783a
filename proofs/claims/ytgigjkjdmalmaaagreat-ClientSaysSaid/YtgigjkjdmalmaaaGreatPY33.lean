/- WHAT IS PROVED: contracts and plain laws of ClZ. Conditions: stated with each. -/
import Derived.Test.YtgigjkjdmalmaaaGreatPY05
import Derived.Test.YtgigjkjdmalmaaaGreatPY14
import Derived.Test.YtgigjkjdmalmaaaGreatPY23
import Derived.Test.YtgigjkjdmalmaaaGreatPY29
import Derived.Test.YtgigjkjdmalmaaaGreatPY32
set_option maxHeartbeats 4000000
set_option maxRecDepth 100000
namespace Go.Proofs.YtgigjkjdmalmaaaGreat
open Go.RowKit
abbrev Z1T (p0 : Nat) (p1 : List Z4) : Ck := ZI p0 ZK (Value.int .i64) (ZU p1)
abbrev Z9A (p0 : Option Addr) (p1 : List Zk) (p2 : Nat) : Ck := Zc 49 38 (.slice p0 p1.length p2) p1.length (p1.flatMap ZV)
abbrev Z82 (p0 : Int) (p1 : Int) (p2 : Int) (p3 : Nat) (p4 : Nat) (p5 : Nat) (p6 : Nat) : List Value := ([(.int .i64 p0), (.int .i64 p1), (.int .i64 p2), (pt p3 0), (.slice (some ⟨p4, 0, none⟩) p5 p6)] : List Value)
abbrev Z57 (p0 : Nat) : List Value := ([(.map (some p0))] : List Value)
abbrev Z39 (p0 : Int) (p1 : Int) (p2 : Int) (p3 : Z1e) (p4 : Int) (p5 : Int) (p6 : Int) : List Value := ([(.int .i64 p0), (.int .i64 p1), (.int .i64 p2)] : List Value) ++ hc p3 ++ ([(.int .u64 p4), (.int .i64 p5), (.int .i64 p6)] : List Value)
abbrev Z4n (p0 : Int) (p1 : Int) : List Value := ([(.int .i64 p0), (.int .i64 p1)] : List Value)
abbrev Z3a (p0 : Zk) : List Value := ([(.int .i64 p0.r), (.int .i64 p0.cl), (.int .i64 p0.seq)] : List Value) ++ hc p0.h ++ ([(.int .u64 p0.t), (.int .i64 p0.sb), (.int .i64 p0.sm)] : List Value)
abbrev Zbx : List Value := ([(.int .i64 (0)), (.int .i64 (0)), (.int .i64 (0))] : List Value) ++ hc Zx ++ ([(.int .u64 (0)), (.int .i64 (0)), (.int .i64 (0))] : List Value)
abbrev Zby (p0 : Option Addr) (p1 : List Int) (p2 : Nat) : Ck := Zc 3 1 (.slice p0 p1.length p2) p1.length (p1.flatMap encI)
abbrev Z3J (p0 : Z0) (p1 : Nat) (p2 : Nat) (p3 : Nat) : List Value := ([(.int .i64 p0.cl), (.int .i64 p0.seq)] : List Value) ++ hc p0.h ++ ([(.int .i64 p0.len), (.int .i64 p0.sb), (.int .i64 p0.sm), (.slice (some ⟨p1, 0, none⟩) p2 p3)] : List Value)
abbrev Z9B : List Value := ([(.int .i64 (0)), (.int .i64 (0))] : List Value) ++ hc Zx ++ ([(.int .i64 (0)), (.int .i64 (0)), (.int .i64 (0)), (.slice none 0 0)] : List Value)
abbrev Z9C (p0 : Z0) (p1 : Nat) (p2 : Nat) (p3 : Nat) (p4 : Value) : List Value := ([(.int .i64 (3)), (.int .i64 (0)), (.int .i64 (0)), (.int .i64 (0)), (.int .i64 (0))] : List Value) ++ hc Zx ++ ([(.int .i64 (0)), (.int .i64 (0)), (.int .i64 (0)), (.int .i64 (0)), (.int .i64 (0)), (.int .i64 (0))] : List Value) ++ hc Zx ++ ([(.int .u64 (0)), (.int .i64 (0)), (.int .i64 (0)), (.int .i64 p0.cl), (.int .i64 p0.seq)] : List Value) ++ hc p0.h ++ ([(.int .i64 p0.len), (.int .i64 p0.sb), (.int .i64 p0.sm), (.slice (some ⟨p1, 0, none⟩) p2 p3), (.int .i64 (0)), (.int .i64 (0)), (.int .i64 (0))] : List Value) ++ hc Zx ++ ([(.int .u64 (0)), (.int .i64 (0)), (.int .i64 (0)), (.int .i64 (0)), (.int .i64 (0)), (.int .u64 (0)), (.int .i64 (0)), (.int .i64 (0)), (.int .u64 (0)), (.slice none 0 0), (.int .i64 (0)), (.int .i64 (0)), (.int .i64 (0)), (.int .i64 (0)), (.int .i64 (0)), (.int .i64 (0)), (.int .i64 (0)), (.int .u64 (0)), (.slice none 0 0), (.slice none 0 0), (.slice none 0 0), (.int .i64 (0)), (.int .i64 (0)), (.int .i64 (0))] : List Value) ++ ([(.int .i64 (0)), (.int .i64 (0)), (.int .i64 (0))] : List Value) ++ hc Zx ++ ([(.int .i64 (0)), (.int .i64 (0)), (.int .i64 (0)), (.int .i64 (0)), (.int .i64 (0))] : List Value) ++ hc Zx ++ ([(.int .u64 (0)), (.int .i64 (0)), (.slice none 0 0)] : List Value) ++ hc Zx ++ ([(.int .i64 (0)), (.int .i64 (0)), (.int .i64 (0)), (.int .i64 (0)), p4, (.int .i64 (0)), (.int .i64 (0)), (.int .i64 (0)), (.int .u64 (0)), (.slice none 0 0), (.slice none 0 0), (.slice none 0 0), (.slice none 0 0)] : List Value)
theorem Zaj (w : World) : (zeroValue 49).run Tryz.prog w = .ok (Z0h Zr) w := by kernel_rfl
def StPost (w w' : World) (e : Ending) (c bb mb g lc : Nat) (F Cn id : Int) (Q : List Zq) (k : Nat) (q : Zq) (L : List Z4) (M : List (Int × Zk)) (fr sq tm sb sm : Int) : Prop :=
 (Z1s F L (⟨fr, id, sq, q.x.h, tm, sb, sm⟩ : Zk) = false ∧ e = .returned (.slice none 0 0) ∧ Sat w [Z3 c 112 [.int .i64 F, .int .i64 Cn, .int .i64 id, .pointer (some ⟨bb, 0, none⟩), .slice (some ⟨g, 0, none⟩) Q.length lc], Zc 119 79 (.slice (some ⟨g, 0, none⟩) Q.length lc) Q.length (Q.flatMap Zh), ZI q.ms (Value.int .i64) Z0h M, Z3 bb 108 [.map (some mb)], (Z1T mb L), Z7 w (ZL [Z3 c 112 [.int .i64 F, .int .i64 Cn, .int .i64 id, .pointer (some ⟨bb, 0, none⟩), .slice (some ⟨g, 0, none⟩) Q.length lc], Zc 119 79 (.slice (some ⟨g, 0, none⟩) Q.length lc) Q.length (Q.flatMap Zh), ZI q.ms (Value.int .i64) Z0h M, Z3 bb 108 [.map (some mb)], (Z1T mb L)]).fp] w') ∨
 (Z1s F L (⟨fr, id, sq, q.x.h, tm, sb, sm⟩ : Zk) = true ∧ ((q.cb.isSome = true ∨ ((Z0U M fr (⟨fr, id, sq, q.x.h, tm, sb, sm⟩ : Zk)).length : Int) < 2 * F + 1) ∧ e = .returned (.slice none 0 0) ∧ Sat w [Z3 c 112 [.int .i64 F, .int .i64 Cn, .int .i64 id, .pointer (some ⟨bb, 0, none⟩), .slice (some ⟨g, 0, none⟩) Q.length lc], Zc 119 79 (.slice (some ⟨g, 0, none⟩) Q.length lc) Q.length (Q.flatMap Zh), ZI q.ms (Value.int .i64) Z0h (Z0U M fr (⟨fr, id, sq, q.x.h, tm, sb, sm⟩ : Zk)), Z3 bb 108 [.map (some mb)], (Z1T mb L), Z7 w (ZL [Z3 c 112 [.int .i64 F, .int .i64 Cn, .int .i64 id, .pointer (some ⟨bb, 0, none⟩), .slice (some ⟨g, 0, none⟩) Q.length lc], Zc 119 79 (.slice (some ⟨g, 0, none⟩) Q.length lc) Q.length (Q.flatMap Zh), ZI q.ms (Value.int .i64) Z0h M, Z3 bb 108 [.map (some mb)], (Z1T mb L)]).fp] w')) ∨
 (Z1s F L (⟨fr, id, sq, q.x.h, tm, sb, sm⟩ : Zk) = true ∧ (q.cb.isSome = false ∧ 2 * F + 1 ≤ ((Z0U M fr (⟨fr, id, sq, q.x.h, tm, sb, sm⟩ : Zk)).length : Int)) ∧ ∃ (z : Nat) (sa : Option Addr) (sc : Nat) (S3 T : List Zk) (da : Option Addr) (dc : Nat) (D : List OmR) (B : List Ck), e = .returned (.slice da D.length dc) ∧ (D.length : Int) = 3 * F + 1 ∧ (∀ j, j < D.length → Z6g (1000 + id) (⟨3, 0, 0, co0, q.x, sa, sc, S3, 0, none, 0, [], Zx⟩ : OmR) B j (D.getD j om0)) ∧ (S3 = T.take S3.length ∧ S3.length ≤ T.length ∧ T.length ≤ 64 ∧ (S3.length : Int) = 2 * F + 1) ∧ Sat w [Z3 c 112 [.int .i64 F, .int .i64 Cn, .int .i64 id, .pointer (some ⟨bb, 0, none⟩), .slice (some ⟨g, 0, none⟩) Q.length lc], Zc 119 79 (.slice (some ⟨g, 0, none⟩) Q.length lc) Q.length ((Q.set k (⟨q.x, q.pa, q.pc, q.P, q.no, q.ms, some z, q.ma, q.mr, q.op, q.pl, q.mp, q.dn, q.rp⟩ : Zq)).flatMap Zh), ZI q.ms (Value.int .i64) Z0h (Z0U M fr (⟨fr, id, sq, q.x.h, tm, sb, sm⟩ : Zk)), Z3 bb 108 [.map (some mb)], (Z1T mb L), Z3 z 57 (Z1E q.x ++ [.slice sa S3.length sc]), (Z9A sa T sc), Zc 82 295 (.slice da D.length dc) D.length (D.flatMap Z0d), Z0j B, Z7 w (ZL [Z3 c 112 [.int .i64 F, .int .i64 Cn, .int .i64 id, .pointer (some ⟨bb, 0, none⟩), .slice (some ⟨g, 0, none⟩) Q.length lc], Zc 119 79 (.slice (some ⟨g, 0, none⟩) Q.length lc) Q.length (Q.flatMap Zh), ZI q.ms (Value.int .i64) Z0h M, Z3 bb 108 [.map (some mb)], (Z1T mb L)]).fp] w')
theorem Z6x (w : World) (c bb mb g lc : Nat) (F Cn id : Int) (Q : List Zq) (k : Nat) (q : Zq) (hq : Q[k]? = some q) (L : List Z4) (M : List (Int × Zk)) (hA : (ZL [Z3 c 112 [.int .i64 F, .int .i64 Cn, .int .i64 id, .pointer (some ⟨bb, 0, none⟩), .slice (some ⟨g, 0, none⟩) Q.length lc], Zc 119 79 (.slice (some ⟨g, 0, none⟩) Q.length lc) Q.length (Q.flatMap Zh), ZI q.ms (Value.int .i64) Z0h M, Z3 bb 108 [.map (some mb)], ZI mb ZK (Value.int .i64) (ZU L)]).ok w) (hlQ : Q.length ≤ 64) (hM : StM F q.x M) (hF : 1 ≤ F ∧ F ≤ 3) (hid : 0 ≤ id ∧ id ≤ 1000000) (fr sq tm sb sm : Int) (hsq : sq = (k : Int) + 1) (hx : q.x.cl = id ∧ q.x.seq = sq) (hs : Z3V (⟨fr, id, sq, q.x.h, tm, sb, sm⟩ : Zk)) :
  Calls Tryz.prog 37 #[(.pointer (some ⟨c, 0, none⟩)), (.int .i64 (fr)), (.agg ⟨(([(.int .i64 (fr)), (.int .i64 (id)), (.int .i64 (sq))] : List Value) ++ hc q.x.h ++ ([(.int .u64 (tm)), (.int .i64 (sb)), (.int .i64 (sm))] : List Value))⟩)] w fun e w' => StPost w w' e c bb mb g lc F Cn id Q k q L M fr sq tm sb sm := by
 have hkl : k < Q.length := (List.getElem?_eq_some_iff.1 hq).1
 have H := Sat.start _ hA
 refine Zg Tryz.func37 rfl 120 rfl (Nat.le_of_ble_eq_true rfl) ?_
 apply zsl
 refine zwd fun Kq kq => ?_
 refine zdb (Z39 fr id sq q.x.h tm sb sm) H ?_
 intro b2 w3 H4
 refine kq _ _ ?_
 clear kq Kq
 refine wv 6 (.slice none 0 0) ?_
 apply Z0N
 refine wv 15 (pt c 0) ?_
 refine wv 16 (pt b2 1) ?_
 refine zwN 17 (Z4n id sq) (H4.at 6 rfl) ?_
 refine wv 18 (pt b2 3) ?_
 refine zwN 19 (hc q.x.h) (H4.at 6 rfl) ?_
 refine zwd fun Kq kq => ?_
 refine zdq 20 (Z1J w3 c bb g lc F Cn id Q (H4.at 0 rfl) (H4.at 1 rfl) hlQ k q hq sq (by omega)) H4 ?_
 intro w6 H7
 refine kq _ _ ?_
 clear kq Kq
 refine wv 7 (.pointer (some ⟨g, 0 + ((k : Int)).toNat * 79, none⟩)) ?_
 apply znt
 apply Zf
 apply Zf
 refine zqs H7 ?_
 refine qv 21 (.pointer (some ⟨g, 0 + ((k : Int)).toNat * 79, none⟩)) ?_
 refine qv 22 (.bool false) ?_
 refine qv 23 (.bool false) ?_
 refine qy 2 23 false 24 (pt b2 0) ?_
 refine qy 2 23 false 25 (.int .i64 (fr)) ?_ (hr := fun _ H' => (Zi rfl (by kernel_rfl) (H'.cell 6 rfl (by kernel_rfl))))
 refine qy 2 23 false 26 (.int .i64 (fr)) ?_
 refine qy 2 23 false 27 (.bool (!(decide (fr = fr)))) ?_
 refine qv 28 (.bool (!(decide (fr = fr)))) ?_
 refine qv 29 (.bool (!(decide (fr = fr)))) ?_
 have b9 : (!(decide (fr = fr))) = false := by rw [decide_eq_true rfl]; rfl
 refine Z17 29 (.bool false) (congrArg Value.bool b9) ?_
 have g10 := Z03 b9
 have g11 := of_decide_eq_true g10
 refine qy 8 29 false 30 (pt c 0) ?_
 refine qy 8 29 false 31 (pt c 0) ?_
 refine qy 8 29 false 32 (pt c 0) ?_
 refine qy 8 29 false 33 (.agg ⟨(Z4n F Cn)⟩) ?_ (hr := fun _ H' => (ZG (vs := (Z4n F Cn)) rfl (by kernel_rfl) (by kernel_rfl) (by exact Nat.le_of_ble_eq_true (by kernel_rfl)) (H'.at 0 rfl) (by kernel_rfl)))
 refine qy 8 29 false 34 (pt c 0) ?_
 refine qy 8 29 false 35 (pt c 0) ?_
 refine qy 8 29 false 36 (pt c 3) ?_
 refine qy 8 29 false 37 (pt bb 0) ?_ (hr := fun _ H' => (Zi rfl (by kernel_rfl) (H'.cell 0 rfl rfl)))
 refine qy 8 29 false 38 (.agg ⟨(Z39 fr id sq q.x.h tm sb sm)⟩) ?_ (hr := fun _ H' => (ZG (vs := (Z39 fr id sq q.x.h tm sb sm)) rfl (by kernel_rfl) (by kernel_rfl) (by exact Nat.le_of_ble_eq_true (by kernel_rfl)) (H'.at 6 rfl) (by kernel_rfl)))
 refine Z4s (Z0k 8 29 false rfl (by kernel_rfl) rfl (by kernel_rfl)) (d := 39) (v := (.bool (Z1s F L (⟨fr, id, sq, q.x.h, tm, sb, sm⟩ : Zk)))) rfl (fun _ _ => by kernel_rfl) (fun w' H' => (Z7K w' F Cn (by omega) bb mb L (H'.at 3 rfl) (H'.at 4 rfl) (⟨fr, id, sq, q.x.h, tm, sb, sm⟩ : Zk) hs).mono fun _ _ h => ⟨h.1, H'.keepU h.2⟩) ?_
 refine qy 8 29 false 40 (.bool (!(Z1s F L (⟨fr, id, sq, q.x.h, tm, sb, sm⟩ : Zk)))) ?_
 refine qv 41 (.bool (!(Z1s F L (⟨fr, id, sq, q.x.h, tm, sb, sm⟩ : Zk)))) ?_
 refine Z1A ?_
 intro w12 H13
 apply ztn
 refine (ZC (!(Z1s F L (⟨fr, id, sq, q.x.h, tm, sb, sm⟩ : Zk)))).elim (fun b14 => ?_) (fun b14 => ?_)
 ·have g15 := Z12 b14
  refine Z1q _ b14 ?_
  apply zsl
  refine wv 6 (.slice none 0 0) ?_
  apply znt
  apply Zz
  apply ZY
  refine ze1 (.slice none 0 0) ?_
  exact .inl ⟨by have q_ := b14; simpa using q_, rfl, H13.pk [0, 1, 2, 3, 4, 5]⟩
 have g17 := Z03 b14
 refine Z1a _ b14 ?_
 apply ZF
 apply ztn
 have hrs : Z1s F L (⟨fr, id, sq, q.x.h, tm, sb, sm⟩ : Zk) = true := by have q_ := b14; simpa using q_
 have hin : 0 ≤ fr ∧ fr < 3 * F + 1 := by have q_ := hrs; simp only [Z1s, inB, Bool.and_eq_true, decide_eq_true_eq] at q_; exact q_.1.1.1.1
 have hsn : Z3x (⟨fr, id, sq, q.x.h, tm, sb, sm⟩ : Zk) q.x = true := by unfold Z3x; simp [hx.1, hx.2]
 refine Z0v ([8, 9] ++ List.range' 42 17) (fun G_ W_ => ∃ (M2 : List (Int × Zk)), (M2 = (Z0U M fr (⟨fr, id, sq, q.x.h, tm, sb, sm⟩ : Zk))) ∧ Sat w [Z3 c 112 (Z82 F Cn id bb g Q.length lc), Zc 119 79 (.slice (some ⟨g, 0, none⟩) Q.length lc) Q.length (Q.flatMap Zh), ZI q.ms (Value.int .i64) Z0h M2, Z3 bb 108 (Z57 mb), (Z1T mb L), Z7 w (ZL [Z3 c 112 [.int .i64 F, .int .i64 Cn, .int .i64 id, .pointer (some ⟨bb, 0, none⟩), .slice (some ⟨g, 0, none⟩) Q.length lc], Zc 119 79 (.slice (some ⟨g, 0, none⟩) Q.length lc) Q.length (Q.flatMap Zh), ZI q.ms (Value.int .i64) Z0h M, Z3 bb 108 [.map (some mb)], (Z1T mb L)]).fp, Z3 b2 49 (Z39 fr id sq q.x.h tm sb sm)] W_) ?_ ?_
 ·apply zsl
  refine wv 43 (.pointer (some ⟨g, 0 + ((k : Int)).toNat * 79, none⟩)) ?_
  refine wv 44 (.pointer (some ⟨g, 0 + ((k : Int)).toNat * 79, none⟩)) ?_
  refine wv 45 (.pointer (some ⟨g, 0 + ((k : Int)).toNat * 79 + 70, none⟩)) ?_
  refine zw1 46 (.map (some q.ms)) (ZS (H13.at 1 rfl) rfl ZB hq 70 rfl (show 0 + ((k : Int)).toNat * 79 + 70 = k * 79 + 70 by omega) (by kernel_rfl)) ?_
  refine wv 47 (.int .i64 (fr)) ?_
  refine wv 48 (.tuple #[(.agg ⟨(Z3a ((Zn M fr).getD Zr))⟩), (.bool ((Zn M fr).isSome))]) ?_ (hr := Z4d (kt := 3) (et := 49) (KeyTy.int (by kernel_rfl)) (by kernel_rfl) Zaj rfl fr rfl (H13.at 2 rfl) (Z8P Z0h _ _) rfl)
  refine wv 42 (.tuple #[(.agg ⟨(Z3a ((Zn M fr).getD Zr))⟩), (.bool ((Zn M fr).isSome))]) ?_
  refine wv 49 (.agg ⟨(Z3a ((Zn M fr).getD Zr))⟩) ?_
  refine wv 50 (.bool ((Zn M fr).isSome)) ?_
  refine zwd fun Kq kq => ?_
  refine zda (Zbx) H13 ?_
  intro b21 w22 H23
  refine kq _ _ ?_
  clear kq Kq
  refine zwd fun Kq kq => ?_
  refine Z21 (Z3a ((Zn M fr).getD Zr)) H23 7 ?_
  intro w25 H26
  refine kq _ _ ?_
  clear kq Kq
  refine wv 9 (.bool ((Zn M fr).isSome)) ?_
  apply Z0N
  refine wv 51 (.bool ((Zn M fr).isSome)) ?_
  refine wv 52 (.bool (!((Zn M fr).isSome))) ?_
  apply znt
  refine (ZC (!((Zn M fr).isSome))).elim (fun b28 => ?_) (fun b28 => ?_)
  ·have g29 := Z12 b28
   refine Z1q _ b28 ?_
   refine Z0b H26 [Z3 c 112 (Z82 F Cn id bb g Q.length lc), Zc 119 79 (.slice (some ⟨g, 0, none⟩) Q.length lc) Q.length (Q.flatMap Zh), Z3 bb 108 (Z57 mb), (Z1T mb L), Z7 w (ZL [Z3 c 112 [.int .i64 F, .int .i64 Cn, .int .i64 id, .pointer (some ⟨bb, 0, none⟩), .slice (some ⟨g, 0, none⟩) Q.length lc], Zc 119 79 (.slice (some ⟨g, 0, none⟩) Q.length lc) Q.length (Q.flatMap Zh), ZI q.ms (Value.int .i64) Z0h M, Z3 bb 108 [.map (some mb)], (Z1T mb L)]).fp, Z3 b2 49 (Z39 fr id sq q.x.h tm sb sm), Z3 b21 49 (Z3a ((Zn M fr).getD Zr))] 7 rfl (by kernel_rfl) (fun Hx => (Hx.pk [0, 1, 3, 4, 5, 6, 7])) ?_
   intro w31 H32 S33
   refine hv0 0 S33 53 (.pointer (some ⟨g, 0 + ((k : Int)).toNat * 79, none⟩)) ?_
   refine hv0 1 S33 54 (.pointer (some ⟨g, 0 + ((k : Int)).toNat * 79, none⟩)) ?_
   refine hv0 2 S33 55 (.pointer (some ⟨g, 0 + ((k : Int)).toNat * 79 + 70, none⟩)) ?_
   refine hv0 3 S33 56 (.map (some q.ms)) ?_ (he := fun _ H' => (Zi rfl (by kernel_rfl) (ZS (H'.at 1 rfl) rfl ZB hq 70 rfl (show 0 + ((k : Int)).toNat * 79 + 70 = k * 79 + 70 by omega) (by kernel_rfl))))
   refine hv0 4 S33 57 (.int .i64 (fr)) ?_
   refine hv0 5 S33 58 (.agg ⟨(Z39 fr id sq q.x.h tm sb sm)⟩) ?_ (he := fun _ H' => (ZG (vs := (Z39 fr id sq q.x.h tm sb sm)) rfl (by kernel_rfl) (by kernel_rfl) (by exact Nat.le_of_ble_eq_true (by kernel_rfl)) (H'.at 5 rfl) (by kernel_rfl)))
   refine Z0H 6 fun Kq kq => ?_
   refine Z1K (kt := 3) (et := 49) rfl H32 2 rfl (KeyTy.int (by kernel_rfl)) (by kernel_rfl) rfl fr rfl (⟨fr, id, sq, q.x.h, tm, sb, sm⟩ : Zk) rfl ?_
   intro w35 H36
   have S37 := H36.pk [0, 1, 3, 4, 5, 6, 7]
   refine kq _ _ S37 ?_
   clear kq Kq
   refine zhf ?_
   have H38 := H36.pk [0, 1, 2, 3, 4, 5, 6]
   have hno : fr ∉ M.map (·.1) := Z1h.1 (by have q_ := b28; simpa using q_)
   refine ZJ ?_ ⟨(Z2Y M fr (⟨fr, id, sq, q.x.h, tm, sb, sm⟩ : Zk)), (Z65 hno), H38⟩
   exact zs
  have g39 := Z03 b28
  refine Z1a _ b28 ?_
  apply ZF
  have H41 := H26.pk [0, 1, 2, 3, 4, 5, 6]
  have hin_ : fr ∈ M.map (·.1) := Decidable.byContradiction fun h_ => by have q_ := b28; rw [Z1h.2 h_] at q_; simp at q_
  refine ZJ ?_ ⟨M, (Z45 hin_).symm, H41⟩
  exact zs
 rintro f42 w43 ⟨M2, hM2e, H44⟩
 apply Zf
 apply Zf
 have hM2 : StM F q.x M2 := by rw [hM2e]; exact hM.add hin hsn
 have hM2l := hM2.len (by omega)
 refine zqs H44 ?_
 refine qv 59 (.pointer (some ⟨g, 0 + ((k : Int)).toNat * 79, none⟩)) ?_
 refine qv 60 (.pointer (some ⟨g, 0 + ((k : Int)).toNat * 79, none⟩)) ?_
 refine qv 61 (.pointer (some ⟨g, 0 + ((k : Int)).toNat * 79 + 71, none⟩)) ?_
 refine qv 62 ((.pointer (q.cb.map fun z => ⟨z, 0, none⟩))) ?_ (hr := fun _ H' => (Zi rfl (by kernel_rfl) (ZS (H'.at 1 rfl) rfl ZB hq 71 rfl (show 0 + ((k : Int)).toNat * 79 + 71 = k * 79 + 71 by omega) (by kernel_rfl))))
 refine qv 63 (.bool (q.cb.isSome)) ?_ (hr := fun _ H' => (ZbW q.cb rfl rfl))
 refine qv 64 (.bool (q.cb.isSome)) ?_
 refine (ZC (q.cb.isSome)).elim (fun b45 => ?_) (fun b45 => ?_)
 ·refine Z17 64 (.bool true) (congrArg Value.bool b45) ?_
  iterate 11 refine qn 5 64 false ?_
  refine qv 76 (.bool true) ?_
  refine Z1A ?_
  intro w46 H47
  apply ztn
  refine Z0R rfl ?_
  apply zsl
  refine wv 6 (.slice none 0 0) ?_
  apply znt
  apply Zz
  apply ZY
  refine ze1 (.slice none 0 0) ?_
  subst hM2e
  exact .inr (.inl ⟨hrs, by first | (left; assumption) | (right; omega), rfl, H47.pk [0, 1, 2, 3, 4, 5]⟩)
 refine Z17 64 (.bool false) (congrArg Value.bool b45) ?_
 refine qy 5 64 false 65 (.pointer (some ⟨g, 0 + ((k : Int)).toNat * 79, none⟩)) ?_
 refine qy 5 64 false 66 (.pointer (some ⟨g, 0 + ((k : Int)).toNat * 79, none⟩)) ?_
 refine qy 5 64 false 67 (.pointer (some ⟨g, 0 + ((k : Int)).toNat * 79 + 70, none⟩)) ?_
 refine qy 5 64 false 68 (.map (some q.ms)) ?_ (hr := fun _ H' => (Zi rfl (by kernel_rfl) (ZS (H'.at 1 rfl) rfl ZB hq 70 rfl (show 0 + ((k : Int)).toNat * 79 + 70 = k * 79 + 70 by omega) (by kernel_rfl))))
 refine qy 5 64 false 69 (.int .i64 (((M2).length : Int))) ?_ (hr := fun _ H' => (e_len (kt := 3) (et := 49) (by kernel_rfl) (H'.at 2 rfl) rfl))
 refine qy 5 64 false 70 (pt c 0) ?_
 refine qy 5 64 false 71 (pt c 0) ?_
 refine qy 5 64 false 72 (pt c 0) ?_
 refine qy 5 64 false 73 (.agg ⟨(Z4n F Cn)⟩) ?_ (hr := fun _ H' => (ZG (vs := (Z4n F Cn)) rfl (by kernel_rfl) (by kernel_rfl) (by exact Nat.le_of_ble_eq_true (by kernel_rfl)) (H'.at 0 rfl) (by kernel_rfl)))
 refine Z4s (Z0k 5 64 false rfl (by kernel_rfl) rfl (by kernel_rfl)) (d := 74) (v := (.int .i64 (2 * F + 1))) rfl (fun _ _ => by kernel_rfl) (fun w' H' => (wQ_any w' F Cn (by omega)).mono fun _ _ h => ⟨h.1, H'.keepU h.2⟩) ?_
 refine qy 5 64 false 75 (.bool (decide (((M2).length : Int) < (2 * F + 1)))) ?_
 refine qv 76 (.bool (decide (((M2).length : Int) < (2 * F + 1)))) ?_
 refine Z1A ?_
 intro w48 H49
 apply ztn
 refine (ZC (decide (((M2).length : Int) < (2 * F + 1)))).elim (fun b50 => ?_) (fun b50 => ?_)
 ·have g51 := of_decide_eq_true b50
  refine Z1q _ b50 ?_
  apply zsl
  refine wv 6 (.slice none 0 0) ?_
  apply znt
  apply Zz
  apply ZY
  refine ze1 (.slice none 0 0) ?_
  subst hM2e
  exact .inr (.inl ⟨hrs, by first | (left; assumption) | (right; omega), rfl, H49.pk [0, 1, 2, 3, 4, 5]⟩)
 have g53 := of_decide_eq_false b50
 refine Z1a _ b50 ?_
 apply ZF
 apply ztn
 apply Zf
 obtain ⟨N, hN⟩ : ∃ N : Nat, (N : Int) = 3 * F + 1 := ⟨(3 * F + 1).toNat, by omega⟩
 obtain ⟨Qn, hQn⟩ : ∃ Qn : Nat, (Qn : Int) = 2 * F + 1 := ⟨(2 * F + 1).toNat, by omega⟩
 have hge : 2 * F + 1 ≤ (M2.length : Int) := by have q_ := b50; simp only [decide_eq_false_iff_not] at q_; omega
 have hsl : (Z1t M2).length = M2.length := Z71 M2
 apply Zt
 refine wv 10 (.slice none 0 0) ?_
 apply znt
 apply Zf
 apply zsl
 refine wv 77 (.pointer (some ⟨g, 0 + ((k : Int)).toNat * 79, none⟩)) ?_
 refine wv 78 (.pointer (some ⟨g, 0 + ((k : Int)).toNat * 79, none⟩)) ?_
 refine wv 79 (.pointer (some ⟨g, 0 + ((k : Int)).toNat * 79 + 70, none⟩)) ?_
 refine zw1 80 (.map (some q.ms)) (ZS (H49.at 1 rfl) rfl ZB hq 70 rfl (show 0 + ((k : Int)).toNat * 79 + 70 = k * 79 + 70 by omega) (by kernel_rfl)) ?_
 refine zwd fun Kq kq => ?_
 refine zdc 81 (Z8D w48 q.ms) ?_
 rintro _ w56 ⟨rfl, hww56⟩
 obtain ⟨b57, hbb57⟩ : ∃ q_, q_ = (w48).heap.size := ⟨_, rfl⟩
 have H58 : Sat w [Z3 c 112 ([(.int .i64 (F)), (.int .i64 (Cn)), (.int .i64 (id)), (pt bb 0), (.slice (some ⟨g, 0, none⟩) Q.length lc)] : List Value), Zc 119 79 (.slice (some ⟨g, 0, none⟩) Q.length lc) Q.length (Q.flatMap Zh), ZI q.ms (Value.int .i64) Z0h M2, Z3 bb 108 ([(.map (some mb))] : List Value), ZI mb ZK (Value.int .i64) (ZU L), Z7 w (ZL [Z3 c 112 [.int .i64 F, .int .i64 Cn, .int .i64 id, .pointer (some ⟨bb, 0, none⟩), .slice (some ⟨g, 0, none⟩) Q.length lc], Zc 119 79 (.slice (some ⟨g, 0, none⟩) Q.length lc) Q.length (Q.flatMap Zh), ZI q.ms (Value.int .i64) Z0h M, Z3 bb 108 [.map (some mb)], ZI mb ZK (Value.int .i64) (ZU L)]).fp, Z3 b2 49 (([(.int .i64 (fr)), (.int .i64 (id)), (.int .i64 (sq))] : List Value) ++ hc q.x.h ++ ([(.int .u64 (tm)), (.int .i64 (sb)), (.int .i64 (sm))] : List Value)), Z3 b57 115 ([(.map (some q.ms))] : List Value)] w56 := by rw [hww56, hbb57]; exact H49.addU ((Upd.refl _ _).alloc _) (Z13 _ _) (fun _ h => h ▸ Nat.le_refl _)
 rw [← hbb57]
 refine ⟨_, rfl, ?_⟩
 refine kq _ _ ?_
 clear kq Kq
 refine zwd fun Kq kq => ?_
 refine zdc 82 (Z8E (encV := Z0h) w56 q.ms b57 M2 (H58.cell 7 rfl rfl) (H58.at 2 rfl) (by omega) (fun y_ hy_ => by have q_ := hM2.b y_ hy_; unfold I64; omega)) ?_
 rintro _ w60 ⟨u61, rfl, k62, p63, q64⟩
 have H65 := H58.addU p63 k62 q64
 obtain ⟨a66, c67, rfl⟩ := Ze (H65.at 8 rfl)
 refine ⟨_, rfl, ?_⟩
 refine kq _ _ ?_
 clear kq Kq
 refine wv 83 (.int .i64 (((Z1t M2).length : Int))) ?_
 refine wv 84 (.int .i64 (0)) ?_
 apply znt
 apply ZA
 have H68 := H65.addNil 49 38
 refine ZW ([10, 12] ++ List.range' 84 14) (fun F_ W_ m_ => ∃ (i : Nat) (da : Option Addr) (dc : Nat) (D : List Zk), F_ 84 = (.int .i64 ((i : Int))) ∧ F_ 10 = (.slice da D.length dc) ∧ (i ≤ (Z1t M2).length) ∧ (D = ((Z1t M2).take i).map (Z6I M2)) ∧ (D.length = i) ∧ Sat w [Z3 c 112 (Z82 F Cn id bb g Q.length lc), Zc 119 79 (.slice (some ⟨g, 0, none⟩) Q.length lc) Q.length (Q.flatMap Zh), ZI q.ms (Value.int .i64) Z0h M2, Z3 bb 108 (Z57 mb), (Z1T mb L), Z7 w (ZL [Z3 c 112 [.int .i64 F, .int .i64 Cn, .int .i64 id, .pointer (some ⟨bb, 0, none⟩), .slice (some ⟨g, 0, none⟩) Q.length lc], Zc 119 79 (.slice (some ⟨g, 0, none⟩) Q.length lc) Q.length (Q.flatMap Zh), ZI q.ms (Value.int .i64) Z0h M, Z3 bb 108 [.map (some mb)], (Z1T mb L)]).fp, Z3 b2 49 (Z39 fr id sq q.x.h tm sb sm), Z3 b57 115 (Z57 q.ms), (Zby a66 (Z1t M2) c67), (Z9A da D dc)] W_ ∧ m_ = (Z1t M2).length - i) _ ⟨0, none, 0, [], (show ((.int .i64 (0)) : Value) = _ by first | rfl | go_num), (by first | rfl | go_num), (Nat.zero_le _), rfl, rfl, H68, rfl⟩ ?_
 rintro g69 w70 _ ⟨i, da, dc, D, v72, v73, hi, hD, hDn, H71, rfl⟩
 refine Zo 84 _ v72 ?_
 refine Zo 10 _ v73 ?_
 apply zsl
 refine wv 85 (.bool (decide ((i : Int) < ((Z1t M2).length : Int)))) ?_
 apply znt
 apply Zf
 refine (ZC (decide ((i : Int) < ((Z1t M2).length : Int)))).elim (fun b75 => ?_) (fun b75 => ?_)
 ·have g76 := of_decide_eq_true b75
  refine Z1q _ b75 ?_
  apply ZF
  apply ztn
  apply Zf
  apply ZA
  apply zsl
  obtain ⟨g78, c79, e80⟩ := Z18 (H71.at 8 rfl) (by omega)
  obtain ⟨x81, h82⟩ := Z4X (show i < (Z1t M2).length by omega)
  refine wv 86 (.pointer (some ⟨g78, 0 + ((i : Int)).toNat * 1, none⟩)) ?_ (hr := Z1R (E := 3) (by kernel_rfl) (by kernel_rfl) (Nat.le_of_ble_eq_true rfl) rfl e80 rfl (by omega) (by omega))
  refine zw1 87 (.int .i64 (x81)) (ZS (H71.at 8 rfl) e80 Zaz h82 0 rfl (show 0 + ((i : Int)).toNat * 1 = i * 1 + 0 by omega) (by kernel_rfl)) ?_
  refine wv 12 (.int .i64 (x81)) ?_
  apply znt
  apply Zt
  refine wv 88 (.slice da D.length dc) ?_
  refine wv 89 (.pointer (some ⟨g, 0 + ((k : Int)).toNat * 79, none⟩)) ?_
  refine wv 90 (.pointer (some ⟨g, 0 + ((k : Int)).toNat * 79, none⟩)) ?_
  refine wv 91 (.pointer (some ⟨g, 0 + ((k : Int)).toNat * 79 + 70, none⟩)) ?_
  refine zw1 92 (.map (some q.ms)) (ZS (H71.at 1 rfl) rfl ZB hq 70 rfl (show 0 + ((k : Int)).toNat * 79 + 70 = k * 79 + 70 by omega) (by kernel_rfl)) ?_
  refine wv 93 (.int .i64 (x81)) ?_
  refine wv 94 (.agg ⟨(Z3a ((Zn M2 x81).getD Zr))⟩) ?_ (hr := Z1D (kt := 3) (et := 49) (KeyTy.int (by kernel_rfl)) (by kernel_rfl) Zaj rfl x81 rfl (H71.at 2 rfl) (Z8P Z0h _ _))
  refine zwd fun Kq kq => ?_
  refine Z3U 49 38 80 (.agg ⟨(Zbx)⟩) [(0, (.agg ⟨(Z3a ((Zn M2 x81).getD Zr))⟩))] (Z3a ((Zn M2 x81).getD Zr)) H71 ?_
  intro b84 w85 H86
  have H87 := H86.ct 10 rfl (Zc 49 38 (.slice (some ⟨b84, 0, none⟩) 1 1) 1 ([((Zn M2 x81).getD Zr)].flatMap ZV)) (by rw [(show ((Z3a ((Zn M2 x81).getD Zr)) : List Value) = ([((Zn M2 x81).getD Zr)] : List Zk).flatMap ZV by kernel_rfl)])
  refine kq _ _ ?_
  clear kq Kq
  refine zwd fun Kq kq => ?_
  refine Z0n (T := 55) (e := 49) (size := 38) (bytes := 80) rfl H87 (by kernel_rfl) 9 10 rfl rfl rfl rfl (Z0e ZV Z2m [((Zn M2 x81).getD Zr)]) (by omega) (by omega) ?_
  intro v89 w90 H91
  have H94 := H91.ct 9 rfl (Zc 49 38 v89 ((D ++ [((Zn M2 x81).getD Zr)]).length) ((D ++ [((Zn M2 x81).getD Zr)]).flatMap ZV)) ja
  obtain ⟨a92, c93, rfl⟩ := Ze (H94.at 9 rfl)
  refine kq _ _ ?_
  clear kq Kq
  refine wv 10 (.slice a92 ((D ++ [((Zn M2 x81).getD Zr)]).length) c93) ?_
  apply Zu
  apply Zw
  apply ztn
  apply Zt
  refine zwi 97 ((i : Int) + 1) ?_
  refine wv 84 (.int .i64 ((i : Int) + 1)) ?_
  apply Zu
  have H95 := H94.pk [0, 1, 2, 3, 4, 5, 6, 7, 8, 9]
  refine ZE ?_ _ ⟨(i + 1), a92, c93, (D ++ [((Zn M2 x81).getD Zr)]), rfl, (show ((.slice a92 ((D ++ [((Zn M2 x81).getD Zr)]).length) c93) : Value) = _ by first | rfl | go_num), (by omega), (Z9l h82 hD), (by simp only [List.length_append, List.length_cons, List.length_nil]; omega), H95, rfl⟩ (by omega)
  exact zs
 have g96 := of_decide_eq_false b75
 refine Z1a _ b75 ?_
 apply zxb
 apply ztn
 apply Zf
 have hDT : D = (Z1t M2).map (Z6I M2) := by rw [hD, List.take_of_length_le (by omega)]
 obtain ⟨hRef, hDl⟩ := hM2.ref hDT hN
 have hlo : (Z6f F q.x D).length ≤ 12 := Nat.le_trans (Z89 F q.x D) (by omega)
 refine Z0b H71 [Z3 c 112 (Z82 F Cn id bb g Q.length lc), Zc 119 79 (.slice (some ⟨g, 0, none⟩) Q.length lc) Q.length (Q.flatMap Zh), ZI q.ms (Value.int .i64) Z0h M2, Z3 bb 108 (Z57 mb), (Z1T mb L), Z7 w (ZL [Z3 c 112 [.int .i64 F, .int .i64 Cn, .int .i64 id, .pointer (some ⟨bb, 0, none⟩), .slice (some ⟨g, 0, none⟩) Q.length lc], Zc 119 79 (.slice (some ⟨g, 0, none⟩) Q.length lc) Q.length (Q.flatMap Zh), ZI q.ms (Value.int .i64) Z0h M, Z3 bb 108 [.map (some mb)], (Z1T mb L)]).fp, Z3 b2 49 (Z39 fr id sq q.x.h tm sb sm), Z3 b57 115 (Z57 q.ms), (Zby a66 (Z1t M2) c67), (Z9A da D dc)] 16 rfl (by kernel_rfl) (fun Hx => (Hx.pk [0, 1, 2, 3, 4, 5, 6, 7, 8, 9])) ?_
 intro w98 H99 S100
 refine hv0 0 S100 99 (pt c 0) ?_
 refine hv0 1 S100 100 (pt c 0) ?_
 refine hv0 2 S100 101 (pt c 0) ?_
 refine hv0 3 S100 102 (.agg ⟨(Z4n F Cn)⟩) ?_ (he := fun _ H' => (ZG (vs := (Z4n F Cn)) rfl (by kernel_rfl) (by kernel_rfl) (by exact Nat.le_of_ble_eq_true (by kernel_rfl)) (H'.at 0 rfl) (by kernel_rfl)))
 refine hv0 4 S100 103 (.pointer (some ⟨g, 0 + ((k : Int)).toNat * 79, none⟩)) ?_
 refine hv0 5 S100 104 (.pointer (some ⟨g, 0 + ((k : Int)).toNat * 79, none⟩)) ?_
 refine hv0 6 S100 105 (.pointer (some ⟨g, 0 + ((k : Int)).toNat * 79, none⟩)) ?_
 refine hv0 7 S100 106 (.agg ⟨(([(.int .i64 (q.x.cl)), (.int .i64 (q.x.seq))] : List Value) ++ hc q.x.h ++ ([(.int .i64 (q.x.len)), (.int .i64 (q.x.sb)), (.int .i64 (q.x.sm))] : List Value))⟩) ?_ (he := fun _ H' => (Z0a (vs := (([(.int .i64 (q.x.cl)), (.int .i64 (q.x.seq))] : List Value) ++ hc q.x.h ++ ([(.int .i64 (q.x.len)), (.int .i64 (q.x.sb)), (.int .i64 (q.x.sm))] : List Value))) rfl (by kernel_rfl) (by kernel_rfl) (Nat.le_of_ble_eq_true (by kernel_rfl)) (Z1d (H'.at 1 rfl) rfl ZB hq 0 (show 0 + ((k : Int)).toNat * 79 = k * 79 + 0 by omega) (by kernel_rfl) (by kernel_rfl))))
 refine hv0 8 S100 107 (.slice da D.length dc) ?_
 refine Z3W 9 13 rfl rfl (by kernel_rfl) (Z5 rfl) (Z5 rfl) (fun Kq kq => ?_) (fun Kq kq => ?_)
 ·refine zdc 108 (Z5l w98 F Cn q.x N Qn hN hQn (by omega) da dc D (ListAt.row (enc := ZV) (sz := 38) Z0W (by decide) (H99.at 9 rfl)) (by omega) hlo) ?_
  rintro _ w102 (⟨rfl, l103, u104⟩ | ⟨g105, c106, rfl, l103, k107, u104, q108⟩)
  ·exact absurd l103 (by rw [hRef]; omega)
  rw [hRef] at k107
  obtain ⟨S3, hS3e⟩ : ∃ S3, S3 = D.take Qn := ⟨_, rfl⟩
  have hS3l : S3.length = Qn := by rw [hS3e, List.length_take]; omega
  subst hS3l
  have hS3d : S3.length ≤ D.length := by omega
  have H109 := H99.addU u104 k107 (fun b_ hb_ => by cases hb_; exact q108)
  refine ⟨_, rfl, ?_⟩
  have S111 := H109.pk [0, 1, 2, 3, 4, 5, 6, 7, 8, 9]
  refine kq _ _ S111 ?_
  clear kq Kq
  refine hv0 10 S111 98 (.tuple #[(.agg ⟨(Z3J q.x g105 S3.length c106)⟩), (.int .i64 (0))]) ?_
  refine hv0 11 S111 109 (.agg ⟨(Z3J q.x g105 S3.length c106)⟩) ?_
  refine hv0 12 S111 110 (.int .i64 (0)) ?_
  refine Z0H 13 fun Kq kq => ?_
  refine zda (Z9B) H109 ?_
  intro b113 w114 H115
  have S116 := H115.pk [0, 1, 2, 3, 4, 5, 6, 7, 8, 9]
  refine kq _ _ S116 ?_
  clear kq Kq
  refine Z0H 14 fun Kq kq => ?_
  refine Z21 (Z3J q.x g105 S3.length c106) H115 11 ?_
  intro w118 H119
  have S121 := H119.pk [0, 1, 2, 3, 4, 5, 6, 7, 8, 9]
  refine kq _ _ S121 ?_
  clear kq Kq
  refine hv0 15 S121 14 (.int .i64 (0)) ?_
  refine zhf ?_
  apply ztn
  apply Zf
  apply zsl
  refine wv 111 (.int .i64 (0)) ?_
  refine wv 112 (.bool false) ?_
  apply znt
  refine Z0y rfl ?_
  apply ZF
  apply ztn
  apply zsl
  refine wv 113 (.pointer (some ⟨g, 0 + ((k : Int)).toNat * 79, none⟩)) ?_
  refine wv 114 (.pointer (some ⟨g, 0 + ((k : Int)).toNat * 79, none⟩)) ?_
  refine wv 115 (.pointer (some ⟨g, 0 + ((k : Int)).toNat * 79 + 71, none⟩)) ?_
  refine zwd fun Kq kq => ?_
  refine Z2B (size := 79) (vs := ([(pt b113 0)] : List Value)) ZB rfl H119 1 rfl rfl rfl rfl (by kernel_rfl) (Nat.le_of_ble_eq_true (by kernel_rfl)) (by kernel_rfl) k 71 (⟨q.x, q.pa, q.pc, q.P, q.no, q.ms, (some b113), q.ma, q.mr, q.op, q.pl, q.mp, q.dn, q.rp⟩ : Zq) hq (show 0 + ((k : Int)).toNat * 79 + 71 = k * 79 + 71 by omega) (Nat.le_of_ble_eq_true (by kernel_rfl)) (by kernel_rfl) ?_
  intro w123 H124
  have hlw123 : (Q.set k (⟨q.x, q.pa, q.pc, q.P, q.no, q.ms, (some b113), q.ma, q.mr, q.op, q.pl, q.mp, q.dn, q.rp⟩ : Zq)).length = Q.length := List.length_set
  have h125 : (Q.set k (⟨q.x, q.pa, q.pc, q.P, q.no, q.ms, (some b113), q.ma, q.mr, q.op, q.pl, q.mp, q.dn, q.rp⟩ : Zq))[k]? = some (⟨q.x, q.pa, q.pc, q.P, q.no, q.ms, (some b113), q.ma, q.mr, q.op, q.pl, q.mp, q.dn, q.rp⟩ : Zq) := List.getElem?_set_self (by omega)
  refine kq _ _ ?_
  clear kq Kq
  apply Z0N
  refine wv 116 (pt c 0) ?_
  refine zwN 117 (Z3J q.x g105 S3.length c106) (H124.at 11 rfl) ?_
  refine wv 118 (.agg ⟨(Z9C q.x g105 S3.length c106 (ZD ([] : List UInt8)))⟩) ?_
  refine zwd fun Kq kq => ?_
  refine zdc 119 (Z22 w123 c bb F Cn id (.slice (some ⟨g, 0, none⟩) Q.length lc) (H124.at 0 rfl) (by omega) hid (⟨3, 0, 0, co0, q.x, (some ⟨g105, 0, none⟩), c106, S3, 0, none, 0, [], Zx⟩ : OmR) (by have q_ := ListAt.take (k := S3.length) (ListAt.row (enc := ZV) (sz := 38) Z0W (by decide) (H124.at 10 rfl)) hS3d; rw [← hS3e] at q_; exact q_) (by show S3.length ≤ 1000; omega) ListAt.nil (Nat.zero_le _)) ?_
  rintro _ w127 ⟨a128, c129, D130, B131, rfl, n132, o133, k134, p135, q136⟩
  have H137 := H124.addU p135 k134 q136
  have H138 := H137.open 12 rfl
  refine ⟨_, rfl, ?_⟩
  refine kq _ _ ?_
  clear kq Kq
  refine wv 6 (.slice a128 D130.length c129) ?_
  apply znt
  apply Zz
  refine ze1 (.slice a128 D130.length c129) ?_
  have hfin := H138.pk [0, 1, 2, 3, 4, 11, 10, 12, 13, 5]
  subst hM2e
  exact .inr (.inr ⟨hrs, ⟨by first | assumption | simp_all, hge⟩, b113, (some ⟨g105, 0, none⟩), c106, S3, D, a128, c129, D130, B131, rfl, n132, o133, ⟨hS3e, hS3d, by omega, hQn⟩, hfin⟩)
 refine zda (Z9B) H99 ?_
 intro b139 w140 H141
 have S142 := H141.pk [0, 1, 2, 3, 4, 5, 6, 7, 8, 9]
 refine kq _ _ S142 ?_
 clear kq Kq
 refine Z0H 9 fun Kq kq => ?_
 refine zdc 108 (Z5l w140 F Cn q.x N Qn hN hQn (by omega) da dc D (ListAt.row (enc := ZV) (sz := 38) Z0W (by decide) (H141.at 9 rfl)) (by omega) hlo) ?_
 rintro _ w144 (⟨rfl, l145, u146⟩ | ⟨g147, c148, rfl, l145, k149, u146, q150⟩)
 ·exact absurd l145 (by rw [hRef]; omega)
 rw [hRef] at k149
 obtain ⟨S3, hS3e⟩ : ∃ S3, S3 = D.take Qn := ⟨_, rfl⟩
 have hS3l : S3.length = Qn := by rw [hS3e, List.length_take]; omega
 subst hS3l
 have hS3d : S3.length ≤ D.length := by omega
 have H151 := H141.addU u146 k149 (fun b_ hb_ => by cases hb_; exact q150)
 refine ⟨_, rfl, ?_⟩
 have S153 := H151.pk [0, 1, 2, 3, 4, 5, 6, 7, 8, 9]
 refine kq _ _ S153 ?_
 clear kq Kq
 refine hv0 10 S153 98 (.tuple #[(.agg ⟨(Z3J q.x g147 S3.length c148)⟩), (.int .i64 (0))]) ?_
 refine hv0 11 S153 109 (.agg ⟨(Z3J q.x g147 S3.length c148)⟩) ?_
 refine hv0 12 S153 110 (.int .i64 (0)) ?_
 refine Z0H 14 fun Kq kq => ?_
 refine Z21 (Z3J q.x g147 S3.length c148) H151 10 ?_
 intro w155 H156
 have S158 := H156.pk [0, 1, 2, 3, 4, 5, 6, 7, 8, 9]
 refine kq _ _ S158 ?_
 clear kq Kq
 refine hv0 15 S158 14 (.int .i64 (0)) ?_
 refine zhf ?_
 apply ztn
 apply Zf
 apply zsl
 refine wv 111 (.int .i64 (0)) ?_
 refine wv 112 (.bool false) ?_
 apply znt
 refine Z0y rfl ?_
 apply ZF
 apply ztn
 apply zsl
 refine wv 113 (.pointer (some ⟨g, 0 + ((k : Int)).toNat * 79, none⟩)) ?_
 refine wv 114 (.pointer (some ⟨g, 0 + ((k : Int)).toNat * 79, none⟩)) ?_
 refine wv 115 (.pointer (some ⟨g, 0 + ((k : Int)).toNat * 79 + 71, none⟩)) ?_
 refine zwd fun Kq kq => ?_
 refine Z2B (size := 79) (vs := ([(pt b139 0)] : List Value)) ZB rfl H156 1 rfl rfl rfl rfl (by kernel_rfl) (Nat.le_of_ble_eq_true (by kernel_rfl)) (by kernel_rfl) k 71 (⟨q.x, q.pa, q.pc, q.P, q.no, q.ms, (some b139), q.ma, q.mr, q.op, q.pl, q.mp, q.dn, q.rp⟩ : Zq) hq (show 0 + ((k : Int)).toNat * 79 + 71 = k * 79 + 71 by omega) (Nat.le_of_ble_eq_true (by kernel_rfl)) (by kernel_rfl) ?_
 intro w160 H161
 have hlw160 : (Q.set k (⟨q.x, q.pa, q.pc, q.P, q.no, q.ms, (some b139), q.ma, q.mr, q.op, q.pl, q.mp, q.dn, q.rp⟩ : Zq)).length = Q.length := List.length_set
 have h162 : (Q.set k (⟨q.x, q.pa, q.pc, q.P, q.no, q.ms, (some b139), q.ma, q.mr, q.op, q.pl, q.mp, q.dn, q.rp⟩ : Zq))[k]? = some (⟨q.x, q.pa, q.pc, q.P, q.no, q.ms, (some b139), q.ma, q.mr, q.op, q.pl, q.mp, q.dn, q.rp⟩ : Zq) := List.getElem?_set_self (by omega)
 refine kq _ _ ?_
 clear kq Kq
 apply Z0N
 refine wv 116 (pt c 0) ?_
 refine zwN 117 (Z3J q.x g147 S3.length c148) (H161.at 10 rfl) ?_
 refine wv 118 (.agg ⟨(Z9C q.x g147 S3.length c148 (ZD ([] : List UInt8)))⟩) ?_
 refine zwd fun Kq kq => ?_
 refine zdc 119 (Z22 w160 c bb F Cn id (.slice (some ⟨g, 0, none⟩) Q.length lc) (H161.at 0 rfl) (by omega) hid (⟨3, 0, 0, co0, q.x, (some ⟨g147, 0, none⟩), c148, S3, 0, none, 0, [], Zx⟩ : OmR) (by have q_ := ListAt.take (k := S3.length) (ListAt.row (enc := ZV) (sz := 38) Z0W (by decide) (H161.at 11 rfl)) hS3d; rw [← hS3e] at q_; exact q_) (by show S3.length ≤ 1000; omega) ListAt.nil (Nat.zero_le _)) ?_
 rintro _ w164 ⟨a165, c166, D167, B168, rfl, n169, o170, k171, p172, q173⟩
 have H174 := H161.addU p172 k171 q173
 have H175 := H174.open 12 rfl
 refine ⟨_, rfl, ?_⟩
 refine kq _ _ ?_
 clear kq Kq
 refine wv 6 (.slice a165 D167.length c166) ?_
 apply znt
 apply Zz
 refine ze1 (.slice a165 D167.length c166) ?_
 have hfin := H175.pk [0, 1, 2, 3, 4, 10, 11, 12, 13, 5]
 subst hM2e
 exact .inr (.inr ⟨hrs, ⟨by first | assumption | simp_all, hge⟩, b139, (some ⟨g147, 0, none⟩), c148, S3, D, a165, c166, D167, B168, rfl, n169, o170, ⟨hS3e, hS3d, by omega, hQn⟩, hfin⟩)
end Go.Proofs.YtgigjkjdmalmaaaGreat
