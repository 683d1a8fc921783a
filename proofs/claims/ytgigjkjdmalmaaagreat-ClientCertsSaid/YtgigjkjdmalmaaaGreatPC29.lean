/- WHAT IS PROVED: contracts and plain laws of ClZ. Conditions: stated with each. -/
import Derived.Test.YtgigjkjdmalmaaaGreatPC04
import Derived.Test.YtgigjkjdmalmaaaGreatPC13
import Derived.Test.YtgigjkjdmalmaaaGreatPC24
import Derived.Test.YtgigjkjdmalmaaaGreatPC27
import Derived.Test.YtgigjkjdmalmaaaGreatPC28
set_option maxHeartbeats 4000000
set_option maxRecDepth 100000
namespace Go.Proofs.YtgigjkjdmalmaaaGreat
open Go.RowKit
abbrev Z1g (p0 : Nat) (p1 : List Z4) : Ck := Zn p0 Zc (Value.int .i64) (Zk p1)
abbrev Z5j (p0 : Option Addr) (p1 : List Zl) (p2 : Nat) : Ck := Ze 49 38 (.slice p0 p1.length p2) p1.length (p1.flatMap ZT)
abbrev Z3a (p0 : Int) (p1 : Int) (p2 : Int) (p3 : Nat) (p4 : Nat) (p5 : Nat) (p6 : Nat) : List Value := ([(.int .i64 p0), (.int .i64 p1), (.int .i64 p2), (pt p3 0), (.slice (some ⟨p4, 0, none⟩) p5 p6)] : List Value)
abbrev Z2l (p0 : Nat) : List Value := ([(.map (some p0))] : List Value)
abbrev Z23 (p0 : Int) (p1 : Int) (p2 : Int) (p3 : Z1H) (p4 : Int) (p5 : Int) (p6 : Int) : List Value := ([(.int .i64 p0), (.int .i64 p1), (.int .i64 p2)] : List Value) ++ hc p3 ++ ([(.int .u64 p4), (.int .i64 p5), (.int .i64 p6)] : List Value)
abbrev Z2m (p0 : Int) (p1 : Int) : List Value := ([(.int .i64 p0), (.int .i64 p1)] : List Value)
abbrev Z2n (p0 : Zl) : List Value := ([(.int .i64 p0.r), (.int .i64 p0.cl), (.int .i64 p0.seq)] : List Value) ++ hc p0.h ++ ([(.int .u64 p0.t), (.int .i64 p0.sb), (.int .i64 p0.sm)] : List Value)
abbrev Z7E : List Value := ([(.int .i64 (0)), (.int .i64 (0)), (.int .i64 (0))] : List Value) ++ hc Zb ++ ([(.int .u64 (0)), (.int .i64 (0)), (.int .i64 (0))] : List Value)
abbrev Z7F (p0 : Option Addr) (p1 : List Int) (p2 : Nat) : Ck := Ze 3 1 (.slice p0 p1.length p2) p1.length (p1.flatMap encI)
abbrev Z2Q (p0 : Z0) (p1 : Nat) (p2 : Nat) (p3 : Nat) : List Value := ([(.int .i64 p0.cl), (.int .i64 p0.seq)] : List Value) ++ hc p0.h ++ ([(.int .i64 p0.len), (.int .i64 p0.sb), (.int .i64 p0.sm), (.slice (some ⟨p1, 0, none⟩) p2 p3)] : List Value)
abbrev Z6o : List Value := ([(.int .i64 (0)), (.int .i64 (0))] : List Value) ++ hc Zb ++ ([(.int .i64 (0)), (.int .i64 (0)), (.int .i64 (0)), (.slice none 0 0)] : List Value)
abbrev Z6p (p0 : Z0) (p1 : Nat) (p2 : Nat) (p3 : Nat) (p4 : Value) : List Value := ([(.int .i64 (3)), (.int .i64 (0)), (.int .i64 (0)), (.int .i64 (0)), (.int .i64 (0))] : List Value) ++ hc Zb ++ ([(.int .i64 (0)), (.int .i64 (0)), (.int .i64 (0)), (.int .i64 (0)), (.int .i64 (0)), (.int .i64 (0))] : List Value) ++ hc Zb ++ ([(.int .u64 (0)), (.int .i64 (0)), (.int .i64 (0)), (.int .i64 p0.cl), (.int .i64 p0.seq)] : List Value) ++ hc p0.h ++ ([(.int .i64 p0.len), (.int .i64 p0.sb), (.int .i64 p0.sm), (.slice (some ⟨p1, 0, none⟩) p2 p3), (.int .i64 (0)), (.int .i64 (0)), (.int .i64 (0))] : List Value) ++ hc Zb ++ ([(.int .u64 (0)), (.int .i64 (0)), (.int .i64 (0)), (.int .i64 (0)), (.int .i64 (0)), (.int .u64 (0)), (.int .i64 (0)), (.int .i64 (0)), (.int .u64 (0)), (.slice none 0 0), (.int .i64 (0)), (.int .i64 (0)), (.int .i64 (0)), (.int .i64 (0)), (.int .i64 (0)), (.int .i64 (0)), (.int .i64 (0)), (.int .u64 (0)), (.slice none 0 0), (.slice none 0 0), (.slice none 0 0), (.int .i64 (0)), (.int .i64 (0)), (.int .i64 (0))] : List Value) ++ ([(.int .i64 (0)), (.int .i64 (0)), (.int .i64 (0))] : List Value) ++ hc Zb ++ ([(.int .i64 (0)), (.int .i64 (0)), (.int .i64 (0)), (.int .i64 (0)), (.int .i64 (0))] : List Value) ++ hc Zb ++ ([(.int .u64 (0)), (.int .i64 (0)), (.slice none 0 0)] : List Value) ++ hc Zb ++ ([(.int .i64 (0)), (.int .i64 (0)), (.int .i64 (0)), (.int .i64 (0)), p4, (.int .i64 (0)), (.int .i64 (0)), (.int .i64 (0)), (.int .u64 (0)), (.slice none 0 0), (.slice none 0 0), (.slice none 0 0), (.slice none 0 0)] : List Value)
abbrev Z7T (p0 : Int) (p1 : Int) (p2 : Int) (p3 : Int) (p4 : Z1H) (p5 : Int) (p6 : Int) (p7 : Int) (p8 : Value) : List Value := ([(.int .i64 (2)), (.int .i64 p0), (.int .i64 p1), (.int .i64 (0)), (.int .i64 (0))] : List Value) ++ hc Zb ++ ([(.int .i64 (0)), (.int .i64 (0)), (.int .i64 (0)), (.int .i64 p0), (.int .i64 p2), (.int .i64 p3)] : List Value) ++ hc p4 ++ ([(.int .u64 p5), (.int .i64 p6), (.int .i64 p7), (.int .i64 (0)), (.int .i64 (0))] : List Value) ++ hc Zb ++ ([(.int .i64 (0)), (.int .i64 (0)), (.int .i64 (0)), (.slice none 0 0), (.int .i64 (0)), (.int .i64 (0)), (.int .i64 (0))] : List Value) ++ hc Zb ++ ([(.int .u64 (0)), (.int .i64 (0)), (.int .i64 (0)), (.int .i64 (0)), (.int .i64 (0)), (.int .u64 (0)), (.int .i64 (0)), (.int .i64 (0)), (.int .u64 (0)), (.slice none 0 0), (.int .i64 (0)), (.int .i64 (0)), (.int .i64 (0)), (.int .i64 (0)), (.int .i64 (0)), (.int .i64 (0)), (.int .i64 (0)), (.int .u64 (0)), (.slice none 0 0), (.slice none 0 0), (.slice none 0 0), (.int .i64 (0)), (.int .i64 (0)), (.int .i64 (0))] : List Value) ++ ([(.int .i64 (0)), (.int .i64 (0)), (.int .i64 (0))] : List Value) ++ hc Zb ++ ([(.int .i64 (0)), (.int .i64 (0)), (.int .i64 (0)), (.int .i64 (0)), (.int .i64 (0))] : List Value) ++ hc Zb ++ ([(.int .u64 (0)), (.int .i64 (0)), (.slice none 0 0)] : List Value) ++ hc Zb ++ ([(.int .i64 (0)), (.int .i64 (0)), (.int .i64 (0)), (.int .i64 (0)), p8, (.int .i64 (0)), (.int .i64 (0)), (.int .i64 (0)), (.int .u64 (0)), (.slice none 0 0), (.slice none 0 0), (.slice none 0 0), (.slice none 0 0)] : List Value)
theorem Z6Y (w : World) : (zeroValue 49).run Tryz.prog w = .ok (ZO Zf) w := by kernel_rfl
def Z7B (w w' : World) (e : Ending) (c bb mb g lc : Nat) (F Cn id : Int) (Q : List Zq) (k : Nat) (q : Zq) (L : List Z4) (M : List (Int × Zl)) (fr sq tm sb sm : Int) : Prop :=
 (Z0W F L (⟨fr, id, sq, q.x.h, tm, sb, sm⟩ : Zl) = false ∧ e = .returned (.slice none 0 0) ∧ Sat w [Z3 c 112 [.int .i64 F, .int .i64 Cn, .int .i64 id, .pointer (some ⟨bb, 0, none⟩), .slice (some ⟨g, 0, none⟩) Q.length lc], Ze 119 79 (.slice (some ⟨g, 0, none⟩) Q.length lc) Q.length (Q.flatMap Zm), Zn q.ms (Value.int .i64) ZO M, Z3 bb 108 [.map (some mb)], (Z1g mb L), Za w (ZP [Z3 c 112 [.int .i64 F, .int .i64 Cn, .int .i64 id, .pointer (some ⟨bb, 0, none⟩), .slice (some ⟨g, 0, none⟩) Q.length lc], Ze 119 79 (.slice (some ⟨g, 0, none⟩) Q.length lc) Q.length (Q.flatMap Zm), Zn q.ms (Value.int .i64) ZO M, Z3 bb 108 [.map (some mb)], (Z1g mb L)]).fp] w') ∨
 (Z0W F L (⟨fr, id, sq, q.x.h, tm, sb, sm⟩ : Zl) = true ∧ ((q.cb.isSome = true ∨ ((Z1k M fr (⟨fr, id, sq, q.x.h, tm, sb, sm⟩ : Zl)).length : Int) < 2 * F + 1) ∧ e = .returned (.slice none 0 0) ∧ Sat w [Z3 c 112 [.int .i64 F, .int .i64 Cn, .int .i64 id, .pointer (some ⟨bb, 0, none⟩), .slice (some ⟨g, 0, none⟩) Q.length lc], Ze 119 79 (.slice (some ⟨g, 0, none⟩) Q.length lc) Q.length (Q.flatMap Zm), Zn q.ms (Value.int .i64) ZO (Z1k M fr (⟨fr, id, sq, q.x.h, tm, sb, sm⟩ : Zl)), Z3 bb 108 [.map (some mb)], (Z1g mb L), Za w (ZP [Z3 c 112 [.int .i64 F, .int .i64 Cn, .int .i64 id, .pointer (some ⟨bb, 0, none⟩), .slice (some ⟨g, 0, none⟩) Q.length lc], Ze 119 79 (.slice (some ⟨g, 0, none⟩) Q.length lc) Q.length (Q.flatMap Zm), Zn q.ms (Value.int .i64) ZO M, Z3 bb 108 [.map (some mb)], (Z1g mb L)]).fp] w')) ∨
 (Z0W F L (⟨fr, id, sq, q.x.h, tm, sb, sm⟩ : Zl) = true ∧ (q.cb.isSome = false ∧ 2 * F + 1 ≤ ((Z1k M fr (⟨fr, id, sq, q.x.h, tm, sb, sm⟩ : Zl)).length : Int)) ∧ ∃ (z : Nat) (sa : Option Addr) (sc : Nat) (S3 T : List Zl) (da : Option Addr) (dc : Nat) (D : List OmR) (B : List Ck), e = .returned (.slice da D.length dc) ∧ (D.length : Int) = 3 * F + 1 ∧ (∀ j, j < D.length → Z5B (1000 + id) (⟨3, 0, 0, co0, q.x, sa, sc, S3, 0, none, 0, [], Zb⟩ : OmR) B j (D.getD j om0)) ∧ (S3 = T.take S3.length ∧ S3.length ≤ T.length ∧ T.length ≤ 64 ∧ (S3.length : Int) = 2 * F + 1) ∧ Sat w [Z3 c 112 [.int .i64 F, .int .i64 Cn, .int .i64 id, .pointer (some ⟨bb, 0, none⟩), .slice (some ⟨g, 0, none⟩) Q.length lc], Ze 119 79 (.slice (some ⟨g, 0, none⟩) Q.length lc) Q.length ((Q.set k (⟨q.x, q.pa, q.pc, q.P, q.no, q.ms, some z, q.ma, q.mr, q.op, q.pl, q.mp, q.dn, q.rp⟩ : Zq)).flatMap Zm), Zn q.ms (Value.int .i64) ZO (Z1k M fr (⟨fr, id, sq, q.x.h, tm, sb, sm⟩ : Zl)), Z3 bb 108 [.map (some mb)], (Z1g mb L), Z3 z 57 (Z1I q.x ++ [.slice sa S3.length sc]), (Z5j sa T sc), Ze 82 295 (.slice da D.length dc) D.length (D.flatMap Z0b), Z0u B, Za w (ZP [Z3 c 112 [.int .i64 F, .int .i64 Cn, .int .i64 id, .pointer (some ⟨bb, 0, none⟩), .slice (some ⟨g, 0, none⟩) Q.length lc], Ze 119 79 (.slice (some ⟨g, 0, none⟩) Q.length lc) Q.length (Q.flatMap Zm), Zn q.ms (Value.int .i64) ZO M, Z3 bb 108 [.map (some mb)], (Z1g mb L)]).fp] w')
theorem Z4m (w : World) (c bb mb g lc : Nat) (F Cn id : Int) (Q : List Zq) (k : Nat) (q : Zq) (hq : Q[k]? = some q) (L : List Z4) (M : List (Int × Zl)) (hA : (ZP [Z3 c 112 [.int .i64 F, .int .i64 Cn, .int .i64 id, .pointer (some ⟨bb, 0, none⟩), .slice (some ⟨g, 0, none⟩) Q.length lc], Ze 119 79 (.slice (some ⟨g, 0, none⟩) Q.length lc) Q.length (Q.flatMap Zm), Zn q.ms (Value.int .i64) ZO M, Z3 bb 108 [.map (some mb)], Zn mb Zc (Value.int .i64) (Zk L)]).ok w) (hlQ : Q.length ≤ 64) (hM : StM F q.x M) (hF : 1 ≤ F ∧ F ≤ 3) (hid : 0 ≤ id ∧ id ≤ 1000000) (fr sq tm sb sm : Int) (hsq : sq = (k : Int) + 1) (hx : q.x.cl = id ∧ q.x.seq = sq) (hs : StOk (⟨fr, id, sq, q.x.h, tm, sb, sm⟩ : Zl)) :
  Calls Tryz.prog 37 #[(.pointer (some ⟨c, 0, none⟩)), (.int .i64 (fr)), (.agg ⟨(([(.int .i64 (fr)), (.int .i64 (id)), (.int .i64 (sq))] : List Value) ++ hc q.x.h ++ ([(.int .u64 (tm)), (.int .i64 (sb)), (.int .i64 (sm))] : List Value))⟩)] w fun e w' => Z7B w w' e c bb mb g lc F Cn id Q k q L M fr sq tm sb sm := by
 have hkl : k < Q.length := (List.getElem?_eq_some_iff.1 hq).1
 have H := Sat.start _ hA
 refine Zv Tryz.func37 rfl 120 rfl (Nat.le_of_ble_eq_true rfl) ?_
 apply zsl
 refine zwd fun Kq kq => ?_
 refine zdb (Z23 fr id sq q.x.h tm sb sm) H ?_
 intro b2 w3 H4
 refine kq _ _ ?_
 clear kq Kq
 refine wv 6 (.slice none 0 0) ?_
 apply Z1J
 refine wv 15 (pt c 0) ?_
 refine wv 16 (pt b2 1) ?_
 refine zwN 17 (Z2m id sq) (H4.at 6 rfl) ?_
 refine wv 18 (pt b2 3) ?_
 refine zwN 19 (hc q.x.h) (H4.at 6 rfl) ?_
 refine zwd fun Kq kq => ?_
 refine zdq 20 (Z4V w3 c bb g lc F Cn id Q (H4.at 0 rfl) (H4.at 1 rfl) hlQ k q hq sq (by omega)) H4 ?_
 intro w6 H7
 refine kq _ _ ?_
 clear kq Kq
 refine wv 7 (.pointer (some ⟨g, 0 + ((k : Int)).toNat * 79, none⟩)) ?_
 apply znt
 apply Zh
 apply Zh
 refine zqs H7 ?_
 refine qv 21 (.pointer (some ⟨g, 0 + ((k : Int)).toNat * 79, none⟩)) ?_
 refine qv 22 (.bool false) ?_
 refine qv 23 (.bool false) ?_
 refine qy 2 23 false 24 (pt b2 0) ?_
 refine qy 2 23 false 25 (.int .i64 (fr)) ?_ (hr := fun _ H' => (Zi rfl (by kernel_rfl) (H'.cell 6 rfl (by kernel_rfl))))
 refine qy 2 23 false 26 (.int .i64 (fr)) ?_
 refine qy 2 23 false 27 (.bool (!(decide (fr = fr)))) ?_
 refine qv 28 (.bool (!(decide (fr = fr)))) ?_
 refine qv 29 (.bool (!(decide (fr = fr)))) ?_
 have b9 : (!(decide (fr = fr))) = false := by rw [decide_eq_true rfl]; rfl
 refine Z3f 29 (.bool false) (congrArg Value.bool b9) ?_
 have g10 := Z09 b9
 have g11 := of_decide_eq_true g10
 refine qy 8 29 false 30 (pt c 0) ?_
 refine qy 8 29 false 31 (pt c 0) ?_
 refine qy 8 29 false 32 (pt c 0) ?_
 refine qy 8 29 false 33 (.agg ⟨(Z2m F Cn)⟩) ?_ (hr := fun _ H' => (ZE (vs := (Z2m F Cn)) rfl (by kernel_rfl) (by kernel_rfl) (by exact Nat.le_of_ble_eq_true (by kernel_rfl)) (H'.at 0 rfl) (by kernel_rfl)))
 refine qy 8 29 false 34 (pt c 0) ?_
 refine qy 8 29 false 35 (pt c 0) ?_
 refine qy 8 29 false 36 (pt c 3) ?_
 refine qy 8 29 false 37 (pt bb 0) ?_ (hr := fun _ H' => (Zi rfl (by kernel_rfl) (H'.cell 0 rfl rfl)))
 refine qy 8 29 false 38 (.agg ⟨(Z23 fr id sq q.x.h tm sb sm)⟩) ?_ (hr := fun _ H' => (ZE (vs := (Z23 fr id sq q.x.h tm sb sm)) rfl (by kernel_rfl) (by kernel_rfl) (by exact Nat.le_of_ble_eq_true (by kernel_rfl)) (H'.at 6 rfl) (by kernel_rfl)))
 refine Z25 (Zw 8 29 false rfl (by kernel_rfl) rfl (by kernel_rfl)) (d := 39) (v := (.bool (Z0W F L (⟨fr, id, sq, q.x.h, tm, sb, sm⟩ : Zl)))) rfl (fun _ _ => by kernel_rfl) (fun w' H' => (Z5d w' F Cn (by omega) bb mb L (H'.at 3 rfl) (H'.at 4 rfl) (⟨fr, id, sq, q.x.h, tm, sb, sm⟩ : Zl) hs).mono fun _ _ h => ⟨h.1, H'.keepU h.2⟩) ?_
 refine qy 8 29 false 40 (.bool (!(Z0W F L (⟨fr, id, sq, q.x.h, tm, sb, sm⟩ : Zl)))) ?_
 refine qv 41 (.bool (!(Z0W F L (⟨fr, id, sq, q.x.h, tm, sb, sm⟩ : Zl)))) ?_
 refine Z22 ?_
 intro w12 H13
 apply ztn
 refine (Z00 (!(Z0W F L (⟨fr, id, sq, q.x.h, tm, sb, sm⟩ : Zl)))).elim (fun b14 => ?_) (fun b14 => ?_)
 ·have g15 := Z14 b14
  refine Z2v _ b14 ?_
  apply zsl
  refine wv 6 (.slice none 0 0) ?_
  apply znt
  apply ZU
  apply Z0Y
  refine ze1 (.slice none 0 0) ?_
  exact .inl ⟨by have q_ := b14; simpa using q_, rfl, H13.pk [0, 1, 2, 3, 4, 5]⟩
 have g17 := Z09 b14
 refine Z1K _ b14 ?_
 apply ZW
 apply ztn
 have hrs : Z0W F L (⟨fr, id, sq, q.x.h, tm, sb, sm⟩ : Zl) = true := by have q_ := b14; simpa using q_
 have hin : 0 ≤ fr ∧ fr < 3 * F + 1 := by have q_ := hrs; simp only [Z0W, inB, Bool.and_eq_true, decide_eq_true_eq] at q_; exact q_.1.1.1.1
 have hsn : Z2H (⟨fr, id, sq, q.x.h, tm, sb, sm⟩ : Zl) q.x = true := by unfold Z2H; simp [hx.1, hx.2]
 refine Z0K ([8, 9] ++ List.range' 42 17) (fun G_ W_ => ∃ (M2 : List (Int × Zl)), (M2 = (Z1k M fr (⟨fr, id, sq, q.x.h, tm, sb, sm⟩ : Zl))) ∧ Sat w [Z3 c 112 (Z3a F Cn id bb g Q.length lc), Ze 119 79 (.slice (some ⟨g, 0, none⟩) Q.length lc) Q.length (Q.flatMap Zm), Zn q.ms (Value.int .i64) ZO M2, Z3 bb 108 (Z2l mb), (Z1g mb L), Za w (ZP [Z3 c 112 [.int .i64 F, .int .i64 Cn, .int .i64 id, .pointer (some ⟨bb, 0, none⟩), .slice (some ⟨g, 0, none⟩) Q.length lc], Ze 119 79 (.slice (some ⟨g, 0, none⟩) Q.length lc) Q.length (Q.flatMap Zm), Zn q.ms (Value.int .i64) ZO M, Z3 bb 108 [.map (some mb)], (Z1g mb L)]).fp, Z3 b2 49 (Z23 fr id sq q.x.h tm sb sm)] W_) ?_ ?_
 ·apply zsl
  refine wv 43 (.pointer (some ⟨g, 0 + ((k : Int)).toNat * 79, none⟩)) ?_
  refine wv 44 (.pointer (some ⟨g, 0 + ((k : Int)).toNat * 79, none⟩)) ?_
  refine wv 45 (.pointer (some ⟨g, 0 + ((k : Int)).toNat * 79 + 70, none⟩)) ?_
  refine zw1 46 (.map (some q.ms)) (Z0y (H13.at 1 rfl) rfl Z0r hq 70 rfl (show 0 + ((k : Int)).toNat * 79 + 70 = k * 79 + 70 by omega) (by kernel_rfl)) ?_
  refine wv 47 (.int .i64 (fr)) ?_
  refine wv 48 (.tuple #[(.agg ⟨(Z2n ((Z0f M fr).getD Zf))⟩), (.bool ((Z0f M fr).isSome))]) ?_ (hr := Z6c (kt := 3) (et := 49) (KeyTy.int (by kernel_rfl)) (by kernel_rfl) Z6Y rfl fr rfl (H13.at 2 rfl) (Z8e ZO _ _) rfl)
  refine wv 42 (.tuple #[(.agg ⟨(Z2n ((Z0f M fr).getD Zf))⟩), (.bool ((Z0f M fr).isSome))]) ?_
  refine wv 49 (.agg ⟨(Z2n ((Z0f M fr).getD Zf))⟩) ?_
  refine wv 50 (.bool ((Z0f M fr).isSome)) ?_
  refine zwd fun Kq kq => ?_
  refine zda (Z7E) H13 ?_
  intro b21 w22 H23
  refine kq _ _ ?_
  clear kq Kq
  refine zwd fun Kq kq => ?_
  refine Z4P (Z2n ((Z0f M fr).getD Zf)) H23 7 ?_
  intro w25 H26
  refine kq _ _ ?_
  clear kq Kq
  refine wv 9 (.bool ((Z0f M fr).isSome)) ?_
  apply Z1J
  refine wv 51 (.bool ((Z0f M fr).isSome)) ?_
  refine wv 52 (.bool (!((Z0f M fr).isSome))) ?_
  apply znt
  refine (Z00 (!((Z0f M fr).isSome))).elim (fun b28 => ?_) (fun b28 => ?_)
  ·have g29 := Z14 b28
   refine Z2v _ b28 ?_
   refine Z0g H26 [Z3 c 112 (Z3a F Cn id bb g Q.length lc), Ze 119 79 (.slice (some ⟨g, 0, none⟩) Q.length lc) Q.length (Q.flatMap Zm), Z3 bb 108 (Z2l mb), (Z1g mb L), Za w (ZP [Z3 c 112 [.int .i64 F, .int .i64 Cn, .int .i64 id, .pointer (some ⟨bb, 0, none⟩), .slice (some ⟨g, 0, none⟩) Q.length lc], Ze 119 79 (.slice (some ⟨g, 0, none⟩) Q.length lc) Q.length (Q.flatMap Zm), Zn q.ms (Value.int .i64) ZO M, Z3 bb 108 [.map (some mb)], (Z1g mb L)]).fp, Z3 b2 49 (Z23 fr id sq q.x.h tm sb sm), Z3 b21 49 (Z2n ((Z0f M fr).getD Zf))] 7 rfl (by kernel_rfl) (fun Hx => (Hx.pk [0, 1, 3, 4, 5, 6, 7])) ?_
   intro w31 H32 S33
   refine hv0 0 S33 53 (.pointer (some ⟨g, 0 + ((k : Int)).toNat * 79, none⟩)) ?_
   refine hv0 1 S33 54 (.pointer (some ⟨g, 0 + ((k : Int)).toNat * 79, none⟩)) ?_
   refine hv0 2 S33 55 (.pointer (some ⟨g, 0 + ((k : Int)).toNat * 79 + 70, none⟩)) ?_
   refine hv0 3 S33 56 (.map (some q.ms)) ?_ (he := fun _ H' => (Zi rfl (by kernel_rfl) (Z0y (H'.at 1 rfl) rfl Z0r hq 70 rfl (show 0 + ((k : Int)).toNat * 79 + 70 = k * 79 + 70 by omega) (by kernel_rfl))))
   refine hv0 4 S33 57 (.int .i64 (fr)) ?_
   refine hv0 5 S33 58 (.agg ⟨(Z23 fr id sq q.x.h tm sb sm)⟩) ?_ (he := fun _ H' => (ZE (vs := (Z23 fr id sq q.x.h tm sb sm)) rfl (by kernel_rfl) (by kernel_rfl) (by exact Nat.le_of_ble_eq_true (by kernel_rfl)) (H'.at 5 rfl) (by kernel_rfl)))
   refine Z0L 6 fun Kq kq => ?_
   refine Z1A (kt := 3) (et := 49) rfl H32 2 rfl (KeyTy.int (by kernel_rfl)) (by kernel_rfl) rfl fr rfl (⟨fr, id, sq, q.x.h, tm, sb, sm⟩ : Zl) rfl ?_
   intro w35 H36
   have S37 := H36.pk [0, 1, 3, 4, 5, 6, 7]
   refine kq _ _ S37 ?_
   clear kq Kq
   refine zhf ?_
   have H38 := H36.pk [0, 1, 2, 3, 4, 5, 6]
   have hno : fr ∉ M.map (·.1) := Z2F.1 (by have q_ := b28; simpa using q_)
   refine Z02 ?_ ⟨(Z2q M fr (⟨fr, id, sq, q.x.h, tm, sb, sm⟩ : Zl)), (Z7l hno), H38⟩
   exact zs
  have g39 := Z09 b28
  refine Z1K _ b28 ?_
  apply ZW
  have H41 := H26.pk [0, 1, 2, 3, 4, 5, 6]
  have hin_ : fr ∈ M.map (·.1) := Decidable.byContradiction fun h_ => by have q_ := b28; rw [Z2F.2 h_] at q_; simp at q_
  refine Z02 ?_ ⟨M, (Z61 hin_).symm, H41⟩
  exact zs
 rintro f42 w43 ⟨M2, hM2e, H44⟩
 apply Zh
 apply Zh
 have hM2 : StM F q.x M2 := by rw [hM2e]; exact hM.add hin hsn
 have hM2l := hM2.len (by omega)
 refine zqs H44 ?_
 refine qv 59 (.pointer (some ⟨g, 0 + ((k : Int)).toNat * 79, none⟩)) ?_
 refine qv 60 (.pointer (some ⟨g, 0 + ((k : Int)).toNat * 79, none⟩)) ?_
 refine qv 61 (.pointer (some ⟨g, 0 + ((k : Int)).toNat * 79 + 71, none⟩)) ?_
 refine qv 62 ((.pointer (q.cb.map fun z => ⟨z, 0, none⟩))) ?_ (hr := fun _ H' => (Zi rfl (by kernel_rfl) (Z0y (H'.at 1 rfl) rfl Z0r hq 71 rfl (show 0 + ((k : Int)).toNat * 79 + 71 = k * 79 + 71 by omega) (by kernel_rfl))))
 refine qv 63 (.bool (q.cb.isSome)) ?_ (hr := fun _ H' => (Z7M q.cb rfl rfl))
 refine qv 64 (.bool (q.cb.isSome)) ?_
 refine (Z00 (q.cb.isSome)).elim (fun b45 => ?_) (fun b45 => ?_)
 ·refine Z3f 64 (.bool true) (congrArg Value.bool b45) ?_
  iterate 11 refine qn 5 64 false ?_
  refine qv 76 (.bool true) ?_
  refine Z22 ?_
  intro w46 H47
  apply ztn
  refine Z1j rfl ?_
  apply zsl
  refine wv 6 (.slice none 0 0) ?_
  apply znt
  apply ZU
  apply Z0Y
  refine ze1 (.slice none 0 0) ?_
  subst hM2e
  exact .inr (.inl ⟨hrs, by first | (left; assumption) | (right; omega), rfl, H47.pk [0, 1, 2, 3, 4, 5]⟩)
 refine Z3f 64 (.bool false) (congrArg Value.bool b45) ?_
 refine qy 5 64 false 65 (.pointer (some ⟨g, 0 + ((k : Int)).toNat * 79, none⟩)) ?_
 refine qy 5 64 false 66 (.pointer (some ⟨g, 0 + ((k : Int)).toNat * 79, none⟩)) ?_
 refine qy 5 64 false 67 (.pointer (some ⟨g, 0 + ((k : Int)).toNat * 79 + 70, none⟩)) ?_
 refine qy 5 64 false 68 (.map (some q.ms)) ?_ (hr := fun _ H' => (Zi rfl (by kernel_rfl) (Z0y (H'.at 1 rfl) rfl Z0r hq 70 rfl (show 0 + ((k : Int)).toNat * 79 + 70 = k * 79 + 70 by omega) (by kernel_rfl))))
 refine qy 5 64 false 69 (.int .i64 (((M2).length : Int))) ?_ (hr := fun _ H' => (Z6b (kt := 3) (et := 49) (by kernel_rfl) (H'.at 2 rfl) rfl))
 refine qy 5 64 false 70 (pt c 0) ?_
 refine qy 5 64 false 71 (pt c 0) ?_
 refine qy 5 64 false 72 (pt c 0) ?_
 refine qy 5 64 false 73 (.agg ⟨(Z2m F Cn)⟩) ?_ (hr := fun _ H' => (ZE (vs := (Z2m F Cn)) rfl (by kernel_rfl) (by kernel_rfl) (by exact Nat.le_of_ble_eq_true (by kernel_rfl)) (H'.at 0 rfl) (by kernel_rfl)))
 refine Z25 (Zw 5 64 false rfl (by kernel_rfl) rfl (by kernel_rfl)) (d := 74) (v := (.int .i64 (2 * F + 1))) rfl (fun _ _ => by kernel_rfl) (fun w' H' => (wQ_any w' F Cn (by omega)).mono fun _ _ h => ⟨h.1, H'.keepU h.2⟩) ?_
 refine qy 5 64 false 75 (.bool (decide (((M2).length : Int) < (2 * F + 1)))) ?_
 refine qv 76 (.bool (decide (((M2).length : Int) < (2 * F + 1)))) ?_
 refine Z22 ?_
 intro w48 H49
 apply ztn
 refine (Z00 (decide (((M2).length : Int) < (2 * F + 1)))).elim (fun b50 => ?_) (fun b50 => ?_)
 ·have g51 := of_decide_eq_true b50
  refine Z2v _ b50 ?_
  apply zsl
  refine wv 6 (.slice none 0 0) ?_
  apply znt
  apply ZU
  apply Z0Y
  refine ze1 (.slice none 0 0) ?_
  subst hM2e
  exact .inr (.inl ⟨hrs, by first | (left; assumption) | (right; omega), rfl, H49.pk [0, 1, 2, 3, 4, 5]⟩)
 have g53 := of_decide_eq_false b50
 refine Z1K _ b50 ?_
 apply ZW
 apply ztn
 apply Zh
 obtain ⟨N, hN⟩ : ∃ N : Nat, (N : Int) = 3 * F + 1 := ⟨(3 * F + 1).toNat, by omega⟩
 obtain ⟨Qn, hQn⟩ : ∃ Qn : Nat, (Qn : Int) = 2 * F + 1 := ⟨(2 * F + 1).toNat, by omega⟩
 have hge : 2 * F + 1 ≤ (M2.length : Int) := by have q_ := b50; simp only [decide_eq_false_iff_not] at q_; omega
 have hsl : (Z1i M2).length = M2.length := Z4J M2
 apply Zs
 refine wv 10 (.slice none 0 0) ?_
 apply znt
 apply Zh
 apply zsl
 refine wv 77 (.pointer (some ⟨g, 0 + ((k : Int)).toNat * 79, none⟩)) ?_
 refine wv 78 (.pointer (some ⟨g, 0 + ((k : Int)).toNat * 79, none⟩)) ?_
 refine wv 79 (.pointer (some ⟨g, 0 + ((k : Int)).toNat * 79 + 70, none⟩)) ?_
 refine zw1 80 (.map (some q.ms)) (Z0y (H49.at 1 rfl) rfl Z0r hq 70 rfl (show 0 + ((k : Int)).toNat * 79 + 70 = k * 79 + 70 by omega) (by kernel_rfl)) ?_
 refine zwd fun Kq kq => ?_
 refine zdc 81 (Z5N w48 q.ms) ?_
 rintro _ w56 ⟨rfl, hww56⟩
 obtain ⟨b57, hbb57⟩ : ∃ q_, q_ = (w48).heap.size := ⟨_, rfl⟩
 have H58 : Sat w [Z3 c 112 ([(.int .i64 (F)), (.int .i64 (Cn)), (.int .i64 (id)), (pt bb 0), (.slice (some ⟨g, 0, none⟩) Q.length lc)] : List Value), Ze 119 79 (.slice (some ⟨g, 0, none⟩) Q.length lc) Q.length (Q.flatMap Zm), Zn q.ms (Value.int .i64) ZO M2, Z3 bb 108 ([(.map (some mb))] : List Value), Zn mb Zc (Value.int .i64) (Zk L), Za w (ZP [Z3 c 112 [.int .i64 F, .int .i64 Cn, .int .i64 id, .pointer (some ⟨bb, 0, none⟩), .slice (some ⟨g, 0, none⟩) Q.length lc], Ze 119 79 (.slice (some ⟨g, 0, none⟩) Q.length lc) Q.length (Q.flatMap Zm), Zn q.ms (Value.int .i64) ZO M, Z3 bb 108 [.map (some mb)], Zn mb Zc (Value.int .i64) (Zk L)]).fp, Z3 b2 49 (([(.int .i64 (fr)), (.int .i64 (id)), (.int .i64 (sq))] : List Value) ++ hc q.x.h ++ ([(.int .u64 (tm)), (.int .i64 (sb)), (.int .i64 (sm))] : List Value)), Z3 b57 115 ([(.map (some q.ms))] : List Value)] w56 := by rw [hww56, hbb57]; exact H49.addU ((Upd.refl _ _).alloc _) (Z16 _ _) (fun _ h => h ▸ Nat.le_refl _)
 rw [← hbb57]
 refine ⟨_, rfl, ?_⟩
 refine kq _ _ ?_
 clear kq Kq
 refine zwd fun Kq kq => ?_
 refine zdc 82 (Z5O (encV := ZO) w56 q.ms b57 M2 (H58.cell 7 rfl rfl) (H58.at 2 rfl) (by omega) (fun y_ hy_ => by have q_ := hM2.b y_ hy_; unfold I64; omega)) ?_
 rintro _ w60 ⟨u61, rfl, k62, p63, q64⟩
 have H65 := H58.addU p63 k62 q64
 obtain ⟨a66, c67, rfl⟩ := Zg (H65.at 8 rfl)
 refine ⟨_, rfl, ?_⟩
 refine kq _ _ ?_
 clear kq Kq
 refine wv 83 (.int .i64 (((Z1i M2).length : Int))) ?_
 refine wv 84 (.int .i64 (0)) ?_
 apply znt
 apply ZM
 have H68 := H65.addNil 49 38
 refine Z07 ([10, 12] ++ List.range' 84 14) (fun F_ W_ m_ => ∃ (i : Nat) (da : Option Addr) (dc : Nat) (D : List Zl), F_ 84 = (.int .i64 ((i : Int))) ∧ F_ 10 = (.slice da D.length dc) ∧ (i ≤ (Z1i M2).length) ∧ (D = ((Z1i M2).take i).map (Z4s M2)) ∧ (D.length = i) ∧ Sat w [Z3 c 112 (Z3a F Cn id bb g Q.length lc), Ze 119 79 (.slice (some ⟨g, 0, none⟩) Q.length lc) Q.length (Q.flatMap Zm), Zn q.ms (Value.int .i64) ZO M2, Z3 bb 108 (Z2l mb), (Z1g mb L), Za w (ZP [Z3 c 112 [.int .i64 F, .int .i64 Cn, .int .i64 id, .pointer (some ⟨bb, 0, none⟩), .slice (some ⟨g, 0, none⟩) Q.length lc], Ze 119 79 (.slice (some ⟨g, 0, none⟩) Q.length lc) Q.length (Q.flatMap Zm), Zn q.ms (Value.int .i64) ZO M, Z3 bb 108 [.map (some mb)], (Z1g mb L)]).fp, Z3 b2 49 (Z23 fr id sq q.x.h tm sb sm), Z3 b57 115 (Z2l q.ms), (Z7F a66 (Z1i M2) c67), (Z5j da D dc)] W_ ∧ m_ = (Z1i M2).length - i) _ ⟨0, none, 0, [], (show ((.int .i64 (0)) : Value) = _ by first | rfl | go_num), (by first | rfl | go_num), (Nat.zero_le _), rfl, rfl, H68, rfl⟩ ?_
 rintro g69 w70 _ ⟨i, da, dc, D, v72, v73, hi, hD, hDn, H71, rfl⟩
 refine Zy 84 _ v72 ?_
 refine Zy 10 _ v73 ?_
 apply zsl
 refine wv 85 (.bool (decide ((i : Int) < ((Z1i M2).length : Int)))) ?_
 apply znt
 apply Zh
 refine (Z00 (decide ((i : Int) < ((Z1i M2).length : Int)))).elim (fun b75 => ?_) (fun b75 => ?_)
 ·have g76 := of_decide_eq_true b75
  refine Z2v _ b75 ?_
  apply ZW
  apply ztn
  apply Zh
  apply ZM
  apply zsl
  obtain ⟨g78, c79, e80⟩ := Z0R (H71.at 8 rfl) (by omega)
  obtain ⟨x81, h82⟩ := Z3C (show i < (Z1i M2).length by omega)
  refine wv 86 (.pointer (some ⟨g78, 0 + ((i : Int)).toNat * 1, none⟩)) ?_ (hr := Z0O (E := 3) (by kernel_rfl) (by kernel_rfl) (Nat.le_of_ble_eq_true rfl) rfl e80 rfl (by omega) (by omega))
  refine zw1 87 (.int .i64 (x81)) (Z0y (H71.at 8 rfl) e80 Z7a h82 0 rfl (show 0 + ((i : Int)).toNat * 1 = i * 1 + 0 by omega) (by kernel_rfl)) ?_
  refine wv 12 (.int .i64 (x81)) ?_
  apply znt
  apply Zs
  refine wv 88 (.slice da D.length dc) ?_
  refine wv 89 (.pointer (some ⟨g, 0 + ((k : Int)).toNat * 79, none⟩)) ?_
  refine wv 90 (.pointer (some ⟨g, 0 + ((k : Int)).toNat * 79, none⟩)) ?_
  refine wv 91 (.pointer (some ⟨g, 0 + ((k : Int)).toNat * 79 + 70, none⟩)) ?_
  refine zw1 92 (.map (some q.ms)) (Z0y (H71.at 1 rfl) rfl Z0r hq 70 rfl (show 0 + ((k : Int)).toNat * 79 + 70 = k * 79 + 70 by omega) (by kernel_rfl)) ?_
  refine wv 93 (.int .i64 (x81)) ?_
  refine wv 94 (.agg ⟨(Z2n ((Z0f M2 x81).getD Zf))⟩) ?_ (hr := Z2f (kt := 3) (et := 49) (KeyTy.int (by kernel_rfl)) (by kernel_rfl) Z6Y rfl x81 rfl (H71.at 2 rfl) (Z8e ZO _ _))
  refine zwd fun Kq kq => ?_
  refine Z5y 49 38 80 (.agg ⟨(Z7E)⟩) [(0, (.agg ⟨(Z2n ((Z0f M2 x81).getD Zf))⟩))] (Z2n ((Z0f M2 x81).getD Zf)) H71 ?_
  intro b84 w85 H86
  have H87 := H86.ct 10 rfl (Ze 49 38 (.slice (some ⟨b84, 0, none⟩) 1 1) 1 ([((Z0f M2 x81).getD Zf)].flatMap ZT)) (by rw [(show ((Z2n ((Z0f M2 x81).getD Zf)) : List Value) = ([((Z0f M2 x81).getD Zf)] : List Zl).flatMap ZT by kernel_rfl)])
  refine kq _ _ ?_
  clear kq Kq
  refine zwd fun Kq kq => ?_
  refine Z0z (T := 55) (e := 49) (size := 38) (bytes := 80) rfl H87 (by kernel_rfl) 9 10 rfl rfl rfl rfl (Z0m ZT Z2i [((Z0f M2 x81).getD Zf)]) (by omega) (by omega) ?_
  intro v89 w90 H91
  have H94 := H91.ct 9 rfl (Ze 49 38 v89 ((D ++ [((Z0f M2 x81).getD Zf)]).length) ((D ++ [((Z0f M2 x81).getD Zf)]).flatMap ZT)) ja
  obtain ⟨a92, c93, rfl⟩ := Zg (H94.at 9 rfl)
  refine kq _ _ ?_
  clear kq Kq
  refine wv 10 (.slice a92 ((D ++ [((Z0f M2 x81).getD Zf)]).length) c93) ?_
  apply Zr
  apply ZR
  apply ztn
  apply Zs
  refine zwi 97 ((i : Int) + 1) ?_
  refine wv 84 (.int .i64 ((i : Int) + 1)) ?_
  apply Zr
  have H95 := H94.pk [0, 1, 2, 3, 4, 5, 6, 7, 8, 9]
  refine ZS ?_ _ ⟨(i + 1), a92, c93, (D ++ [((Z0f M2 x81).getD Zf)]), rfl, (show ((.slice a92 ((D ++ [((Z0f M2 x81).getD Zf)]).length) c93) : Value) = _ by first | rfl | go_num), (by omega), (Z6j h82 hD), (by simp only [List.length_append, List.length_cons, List.length_nil]; omega), H95, rfl⟩ (by omega)
  exact zs
 have g96 := of_decide_eq_false b75
 refine Z1K _ b75 ?_
 apply zxb
 apply ztn
 apply Zh
 have hDT : D = (Z1i M2).map (Z4s M2) := by rw [hD, List.take_of_length_le (by omega)]
 obtain ⟨hRef, hDl⟩ := hM2.ref hDT hN
 have hlo : (Z4f F q.x D).length ≤ 12 := Nat.le_trans (Z5o F q.x D) (by omega)
 refine Z0g H71 [Z3 c 112 (Z3a F Cn id bb g Q.length lc), Ze 119 79 (.slice (some ⟨g, 0, none⟩) Q.length lc) Q.length (Q.flatMap Zm), Zn q.ms (Value.int .i64) ZO M2, Z3 bb 108 (Z2l mb), (Z1g mb L), Za w (ZP [Z3 c 112 [.int .i64 F, .int .i64 Cn, .int .i64 id, .pointer (some ⟨bb, 0, none⟩), .slice (some ⟨g, 0, none⟩) Q.length lc], Ze 119 79 (.slice (some ⟨g, 0, none⟩) Q.length lc) Q.length (Q.flatMap Zm), Zn q.ms (Value.int .i64) ZO M, Z3 bb 108 [.map (some mb)], (Z1g mb L)]).fp, Z3 b2 49 (Z23 fr id sq q.x.h tm sb sm), Z3 b57 115 (Z2l q.ms), (Z7F a66 (Z1i M2) c67), (Z5j da D dc)] 16 rfl (by kernel_rfl) (fun Hx => (Hx.pk [0, 1, 2, 3, 4, 5, 6, 7, 8, 9])) ?_
 intro w98 H99 S100
 refine hv0 0 S100 99 (pt c 0) ?_
 refine hv0 1 S100 100 (pt c 0) ?_
 refine hv0 2 S100 101 (pt c 0) ?_
 refine hv0 3 S100 102 (.agg ⟨(Z2m F Cn)⟩) ?_ (he := fun _ H' => (ZE (vs := (Z2m F Cn)) rfl (by kernel_rfl) (by kernel_rfl) (by exact Nat.le_of_ble_eq_true (by kernel_rfl)) (H'.at 0 rfl) (by kernel_rfl)))
 refine hv0 4 S100 103 (.pointer (some ⟨g, 0 + ((k : Int)).toNat * 79, none⟩)) ?_
 refine hv0 5 S100 104 (.pointer (some ⟨g, 0 + ((k : Int)).toNat * 79, none⟩)) ?_
 refine hv0 6 S100 105 (.pointer (some ⟨g, 0 + ((k : Int)).toNat * 79, none⟩)) ?_
 refine hv0 7 S100 106 (.agg ⟨(([(.int .i64 (q.x.cl)), (.int .i64 (q.x.seq))] : List Value) ++ hc q.x.h ++ ([(.int .i64 (q.x.len)), (.int .i64 (q.x.sb)), (.int .i64 (q.x.sm))] : List Value))⟩) ?_ (he := fun _ H' => (Z0P (vs := (([(.int .i64 (q.x.cl)), (.int .i64 (q.x.seq))] : List Value) ++ hc q.x.h ++ ([(.int .i64 (q.x.len)), (.int .i64 (q.x.sb)), (.int .i64 (q.x.sm))] : List Value))) rfl (by kernel_rfl) (by kernel_rfl) (Nat.le_of_ble_eq_true (by kernel_rfl)) (Z1u (H'.at 1 rfl) rfl Z0r hq 0 (show 0 + ((k : Int)).toNat * 79 = k * 79 + 0 by omega) (by kernel_rfl) (by kernel_rfl))))
 refine hv0 8 S100 107 (.slice da D.length dc) ?_
 refine Z2A 9 13 rfl rfl (by kernel_rfl) (Z2 rfl) (Z2 rfl) (fun Kq kq => ?_) (fun Kq kq => ?_)
 ·refine zdc 108 (Z3S w98 F Cn q.x N Qn hN hQn (by omega) da dc D (ListAt.row (enc := ZT) (sz := 38) Z0Q (by decide) (H99.at 9 rfl)) (by omega) hlo) ?_
  rintro _ w102 (⟨rfl, l103, u104⟩ | ⟨g105, c106, rfl, l103, k107, u104, q108⟩)
  ·exact absurd l103 (by rw [hRef]; omega)
  rw [hRef] at k107
  obtain ⟨S3, hS3e⟩ : ∃ S3, S3 = D.take Qn := ⟨_, rfl⟩
  have hS3l : S3.length = Qn := by rw [hS3e, List.length_take]; omega
  subst hS3l
  have hS3d : S3.length ≤ D.length := by omega
  have H109 := H99.addU u104 k107 (fun b_ hb_ => by cases hb_; exact q108)
  refine ⟨_, rfl, ?_⟩
  have S111 := H109.pk [0, 1, 2, 3, 4, 5, 6, 7, 8, 9]
  refine kq _ _ S111 ?_
  clear kq Kq
  refine hv0 10 S111 98 (.tuple #[(.agg ⟨(Z2Q q.x g105 S3.length c106)⟩), (.int .i64 (0))]) ?_
  refine hv0 11 S111 109 (.agg ⟨(Z2Q q.x g105 S3.length c106)⟩) ?_
  refine hv0 12 S111 110 (.int .i64 (0)) ?_
  refine Z0L 13 fun Kq kq => ?_
  refine zda (Z6o) H109 ?_
  intro b113 w114 H115
  have S116 := H115.pk [0, 1, 2, 3, 4, 5, 6, 7, 8, 9]
  refine kq _ _ S116 ?_
  clear kq Kq
  refine Z0L 14 fun Kq kq => ?_
  refine Z4P (Z2Q q.x g105 S3.length c106) H115 11 ?_
  intro w118 H119
  have S121 := H119.pk [0, 1, 2, 3, 4, 5, 6, 7, 8, 9]
  refine kq _ _ S121 ?_
  clear kq Kq
  refine hv0 15 S121 14 (.int .i64 (0)) ?_
  refine zhf ?_
  apply ztn
  apply Zh
  apply zsl
  refine wv 111 (.int .i64 (0)) ?_
  refine wv 112 (.bool false) ?_
  apply znt
  refine Z0o rfl ?_
  apply ZW
  apply ztn
  apply zsl
  refine wv 113 (.pointer (some ⟨g, 0 + ((k : Int)).toNat * 79, none⟩)) ?_
  refine wv 114 (.pointer (some ⟨g, 0 + ((k : Int)).toNat * 79, none⟩)) ?_
  refine wv 115 (.pointer (some ⟨g, 0 + ((k : Int)).toNat * 79 + 71, none⟩)) ?_
  refine zwd fun Kq kq => ?_
  refine Z5g (size := 79) (vs := ([(pt b113 0)] : List Value)) Z0r rfl H119 1 rfl rfl rfl rfl (by kernel_rfl) (Nat.le_of_ble_eq_true (by kernel_rfl)) (by kernel_rfl) k 71 (⟨q.x, q.pa, q.pc, q.P, q.no, q.ms, (some b113), q.ma, q.mr, q.op, q.pl, q.mp, q.dn, q.rp⟩ : Zq) hq (show 0 + ((k : Int)).toNat * 79 + 71 = k * 79 + 71 by omega) (Nat.le_of_ble_eq_true (by kernel_rfl)) (by kernel_rfl) ?_
  intro w123 H124
  have hlw123 : (Q.set k (⟨q.x, q.pa, q.pc, q.P, q.no, q.ms, (some b113), q.ma, q.mr, q.op, q.pl, q.mp, q.dn, q.rp⟩ : Zq)).length = Q.length := List.length_set
  have h125 : (Q.set k (⟨q.x, q.pa, q.pc, q.P, q.no, q.ms, (some b113), q.ma, q.mr, q.op, q.pl, q.mp, q.dn, q.rp⟩ : Zq))[k]? = some (⟨q.x, q.pa, q.pc, q.P, q.no, q.ms, (some b113), q.ma, q.mr, q.op, q.pl, q.mp, q.dn, q.rp⟩ : Zq) := List.getElem?_set_self (by omega)
  refine kq _ _ ?_
  clear kq Kq
  apply Z1J
  refine wv 116 (pt c 0) ?_
  refine zwN 117 (Z2Q q.x g105 S3.length c106) (H124.at 11 rfl) ?_
  refine wv 118 (.agg ⟨(Z6p q.x g105 S3.length c106 (ZX ([] : List UInt8)))⟩) ?_
  refine zwd fun Kq kq => ?_
  refine zdc 119 (Z2d w123 c bb F Cn id (.slice (some ⟨g, 0, none⟩) Q.length lc) (H124.at 0 rfl) (by omega) hid (⟨3, 0, 0, co0, q.x, (some ⟨g105, 0, none⟩), c106, S3, 0, none, 0, [], Zb⟩ : OmR) (by have q_ := ListAt.take (k := S3.length) (ListAt.row (enc := ZT) (sz := 38) Z0Q (by decide) (H124.at 10 rfl)) hS3d; rw [← hS3e] at q_; exact q_) (by show S3.length ≤ 1000; omega) ListAt.nil (Nat.zero_le _)) ?_
  rintro _ w127 ⟨a128, c129, D130, B131, rfl, n132, o133, k134, p135, q136⟩
  have H137 := H124.addU p135 k134 q136
  have H138 := H137.open 12 rfl
  refine ⟨_, rfl, ?_⟩
  refine kq _ _ ?_
  clear kq Kq
  refine wv 6 (.slice a128 D130.length c129) ?_
  apply znt
  apply ZU
  refine ze1 (.slice a128 D130.length c129) ?_
  have hfin := H138.pk [0, 1, 2, 3, 4, 11, 10, 12, 13, 5]
  subst hM2e
  exact .inr (.inr ⟨hrs, ⟨by first | assumption | simp_all, hge⟩, b113, (some ⟨g105, 0, none⟩), c106, S3, D, a128, c129, D130, B131, rfl, n132, o133, ⟨hS3e, hS3d, by omega, hQn⟩, hfin⟩)
 refine zda (Z6o) H99 ?_
 intro b139 w140 H141
 have S142 := H141.pk [0, 1, 2, 3, 4, 5, 6, 7, 8, 9]
 refine kq _ _ S142 ?_
 clear kq Kq
 refine Z0L 9 fun Kq kq => ?_
 refine zdc 108 (Z3S w140 F Cn q.x N Qn hN hQn (by omega) da dc D (ListAt.row (enc := ZT) (sz := 38) Z0Q (by decide) (H141.at 9 rfl)) (by omega) hlo) ?_
 rintro _ w144 (⟨rfl, l145, u146⟩ | ⟨g147, c148, rfl, l145, k149, u146, q150⟩)
 ·exact absurd l145 (by rw [hRef]; omega)
 rw [hRef] at k149
 obtain ⟨S3, hS3e⟩ : ∃ S3, S3 = D.take Qn := ⟨_, rfl⟩
 have hS3l : S3.length = Qn := by rw [hS3e, List.length_take]; omega
 subst hS3l
 have hS3d : S3.length ≤ D.length := by omega
 have H151 := H141.addU u146 k149 (fun b_ hb_ => by cases hb_; exact q150)
 refine ⟨_, rfl, ?_⟩
 have S153 := H151.pk [0, 1, 2, 3, 4, 5, 6, 7, 8, 9]
 refine kq _ _ S153 ?_
 clear kq Kq
 refine hv0 10 S153 98 (.tuple #[(.agg ⟨(Z2Q q.x g147 S3.length c148)⟩), (.int .i64 (0))]) ?_
 refine hv0 11 S153 109 (.agg ⟨(Z2Q q.x g147 S3.length c148)⟩) ?_
 refine hv0 12 S153 110 (.int .i64 (0)) ?_
 refine Z0L 14 fun Kq kq => ?_
 refine Z4P (Z2Q q.x g147 S3.length c148) H151 10 ?_
 intro w155 H156
 have S158 := H156.pk [0, 1, 2, 3, 4, 5, 6, 7, 8, 9]
 refine kq _ _ S158 ?_
 clear kq Kq
 refine hv0 15 S158 14 (.int .i64 (0)) ?_
 refine zhf ?_
 apply ztn
 apply Zh
 apply zsl
 refine wv 111 (.int .i64 (0)) ?_
 refine wv 112 (.bool false) ?_
 apply znt
 refine Z0o rfl ?_
 apply ZW
 apply ztn
 apply zsl
 refine wv 113 (.pointer (some ⟨g, 0 + ((k : Int)).toNat * 79, none⟩)) ?_
 refine wv 114 (.pointer (some ⟨g, 0 + ((k : Int)).toNat * 79, none⟩)) ?_
 refine wv 115 (.pointer (some ⟨g, 0 + ((k : Int)).toNat * 79 + 71, none⟩)) ?_
 refine zwd fun Kq kq => ?_
 refine Z5g (size := 79) (vs := ([(pt b139 0)] : List Value)) Z0r rfl H156 1 rfl rfl rfl rfl (by kernel_rfl) (Nat.le_of_ble_eq_true (by kernel_rfl)) (by kernel_rfl) k 71 (⟨q.x, q.pa, q.pc, q.P, q.no, q.ms, (some b139), q.ma, q.mr, q.op, q.pl, q.mp, q.dn, q.rp⟩ : Zq) hq (show 0 + ((k : Int)).toNat * 79 + 71 = k * 79 + 71 by omega) (Nat.le_of_ble_eq_true (by kernel_rfl)) (by kernel_rfl) ?_
 intro w160 H161
 have hlw160 : (Q.set k (⟨q.x, q.pa, q.pc, q.P, q.no, q.ms, (some b139), q.ma, q.mr, q.op, q.pl, q.mp, q.dn, q.rp⟩ : Zq)).length = Q.length := List.length_set
 have h162 : (Q.set k (⟨q.x, q.pa, q.pc, q.P, q.no, q.ms, (some b139), q.ma, q.mr, q.op, q.pl, q.mp, q.dn, q.rp⟩ : Zq))[k]? = some (⟨q.x, q.pa, q.pc, q.P, q.no, q.ms, (some b139), q.ma, q.mr, q.op, q.pl, q.mp, q.dn, q.rp⟩ : Zq) := List.getElem?_set_self (by omega)
 refine kq _ _ ?_
 clear kq Kq
 apply Z1J
 refine wv 116 (pt c 0) ?_
 refine zwN 117 (Z2Q q.x g147 S3.length c148) (H161.at 10 rfl) ?_
 refine wv 118 (.agg ⟨(Z6p q.x g147 S3.length c148 (ZX ([] : List UInt8)))⟩) ?_
 refine zwd fun Kq kq => ?_
 refine zdc 119 (Z2d w160 c bb F Cn id (.slice (some ⟨g, 0, none⟩) Q.length lc) (H161.at 0 rfl) (by omega) hid (⟨3, 0, 0, co0, q.x, (some ⟨g147, 0, none⟩), c148, S3, 0, none, 0, [], Zb⟩ : OmR) (by have q_ := ListAt.take (k := S3.length) (ListAt.row (enc := ZT) (sz := 38) Z0Q (by decide) (H161.at 11 rfl)) hS3d; rw [← hS3e] at q_; exact q_) (by show S3.length ≤ 1000; omega) ListAt.nil (Nat.zero_le _)) ?_
 rintro _ w164 ⟨a165, c166, D167, B168, rfl, n169, o170, k171, p172, q173⟩
 have H174 := H161.addU p172 k171 q173
 have H175 := H174.open 12 rfl
 refine ⟨_, rfl, ?_⟩
 refine kq _ _ ?_
 clear kq Kq
 refine wv 6 (.slice a165 D167.length c166) ?_
 apply znt
 apply ZU
 refine ze1 (.slice a165 D167.length c166) ?_
 have hfin := H175.pk [0, 1, 2, 3, 4, 10, 11, 12, 13, 5]
 subst hM2e
 exact .inr (.inr ⟨hrs, ⟨by first | assumption | simp_all, hge⟩, b139, (some ⟨g147, 0, none⟩), c148, S3, D, a165, c166, D167, B168, rfl, n169, o170, ⟨hS3e, hS3d, by omega, hQn⟩, hfin⟩)
theorem Z35 (w : World) (c bb mb g lc : Nat) (F Cn id : Int) (Q : List Zq) (k : Nat) (q : Zq) (hq : Q[k]? = some q) (L : List Z4) (M : List (Int × Zl)) (hA : (ZP [Z3 c 112 [.int .i64 F, .int .i64 Cn, .int .i64 id, .pointer (some ⟨bb, 0, none⟩), .slice (some ⟨g, 0, none⟩) Q.length lc], Ze 119 79 (.slice (some ⟨g, 0, none⟩) Q.length lc) Q.length (Q.flatMap Zm), Zn q.ms (Value.int .i64) ZO M, Z3 bb 108 [.map (some mb)], Zn mb Zc (Value.int .i64) (Zk L)]).ok w) (hlQ : Q.length ≤ 64) (hM : StM F q.x M) (hF : 1 ≤ F ∧ F ≤ 3) (hid : 0 ≤ id ∧ id ≤ 1000000) (fr sq tm sb sm : Int) (hsq : sq = (k : Int) + 1) (hx : q.x.cl = id ∧ q.x.seq = sq) (hs : StOk (⟨fr, id, sq, q.x.h, tm, sb, sm⟩ : Zl)) (hin : inB F fr = true) :
  Calls Tryz.prog 16 #[(.pointer (some ⟨c, 0, none⟩)), (.agg ⟨(([(.int .i64 (2)), (.int .i64 (fr)), (.int .i64 (1000 + id)), (.int .i64 (0)), (.int .i64 (0))] : List Value) ++ hc Zb ++ ([(.int .i64 (0)), (.int .i64 (0)), (.int .i64 (0)), (.int .i64 (fr)), (.int .i64 (id)), (.int .i64 (sq))] : List Value) ++ hc q.x.h ++ ([(.int .u64 (tm)), (.int .i64 (sb)), (.int .i64 (sm)), (.int .i64 (0)), (.int .i64 (0))] : List Value) ++ hc Zb ++ ([(.int .i64 (0)), (.int .i64 (0)), (.int .i64 (0)), (.slice none 0 0), (.int .i64 (0)), (.int .i64 (0)), (.int .i64 (0))] : List Value) ++ hc Zb ++ ([(.int .u64 (0)), (.int .i64 (0)), (.int .i64 (0)), (.int .i64 (0)), (.int .i64 (0)), (.int .u64 (0)), (.int .i64 (0)), (.int .i64 (0)), (.int .u64 (0)), (.slice none 0 0), (.int .i64 (0)), (.int .i64 (0)), (.int .i64 (0)), (.int .i64 (0)), (.int .i64 (0)), (.int .i64 (0)), (.int .i64 (0)), (.int .u64 (0)), (.slice none 0 0), (.slice none 0 0), (.slice none 0 0), (.int .i64 (0)), (.int .i64 (0)), (.int .i64 (0))] : List Value) ++ ([(.int .i64 (0)), (.int .i64 (0)), (.int .i64 (0))] : List Value) ++ hc Zb ++ ([(.int .i64 (0)), (.int .i64 (0)), (.int .i64 (0)), (.int .i64 (0)), (.int .i64 (0))] : List Value) ++ hc Zb ++ ([(.int .u64 (0)), (.int .i64 (0)), (.slice none 0 0)] : List Value) ++ hc Zb ++ ([(.int .i64 (0)), (.int .i64 (0)), (.int .i64 (0)), (.int .i64 (0)), (ZX ([] : List UInt8)), (.int .i64 (0)), (.int .i64 (0)), (.int .i64 (0)), (.int .u64 (0)), (.slice none 0 0), (.slice none 0 0), (.slice none 0 0), (.slice none 0 0)] : List Value))⟩)] w fun e w' => Z7B w w' e c bb mb g lc F Cn id Q k q L M fr sq tm sb sm := by
 have hkl : k < Q.length := (List.getElem?_eq_some_iff.1 hq).1
 have H := Sat.start _ hA
 refine Zv Tryz.func16 rfl 62 rfl (Nat.le_of_ble_eq_true rfl) ?_
 apply zsl
 refine zwd fun Kq kq => ?_
 refine zdb (Z7T fr (1000 + id) id sq q.x.h tm sb sm (ZX ([] : List UInt8))) H ?_
 intro b2 w3 H4
 refine kq _ _ ?_
 clear kq Kq
 refine wv 4 (.slice none 0 0) ?_
 apply znt
 apply Zh
 apply Zh
 refine zqs H4 ?_
 refine qv 5 (pt b2 2) ?_
 refine qv 6 (.int .i64 (1000 + id)) ?_ (hr := fun _ H' => (Zi rfl (by kernel_rfl) (H'.cell 6 rfl (by kernel_rfl))))
 refine qv 7 (pt c 0) ?_
 refine qv 8 (pt c 0) ?_
 refine qv 9 (pt c 2) ?_
 refine qv 10 (.int .i64 (id)) ?_ (hr := fun _ H' => (Zi rfl (by kernel_rfl) (H'.cell 0 rfl rfl)))
 refine qv 11 (.int .i64 (1000 + id)) ?_ (hr := fun _ H' => (Z0h (z := 1000 + id) (by kernel_rfl) (IntWalk.i64_in _ (by omega))))
 refine qv 12 (.bool (!(decide ((1000 + id) = (1000 + id))))) ?_
 refine qv 13 (.bool (!(decide ((1000 + id) = (1000 + id))))) ?_
 have b5 : (!(decide ((1000 + id) = (1000 + id)))) = false := by rw [decide_eq_true rfl]; rfl
 refine Z3f 13 (.bool false) (congrArg Value.bool b5) ?_
 have g6 := Z09 b5
 have g7 := of_decide_eq_true g6
 refine qy 8 13 false 14 (pt c 0) ?_
 refine qy 8 13 false 15 (pt c 0) ?_
 refine qy 8 13 false 16 (pt c 0) ?_
 refine qy 8 13 false 17 (.agg ⟨(Z2m F Cn)⟩) ?_ (hr := fun _ H' => (ZE (vs := (Z2m F Cn)) rfl (by kernel_rfl) (by kernel_rfl) (by exact Nat.le_of_ble_eq_true (by kernel_rfl)) (H'.at 0 rfl) (by kernel_rfl)))
 refine qy 8 13 false 18 (pt b2 1) ?_
 refine qy 8 13 false 19 (.int .i64 (fr)) ?_ (hr := fun _ H' => (Zi rfl (by kernel_rfl) (H'.cell 6 rfl (by kernel_rfl))))
 refine Z25 (Zw 8 13 false rfl (by kernel_rfl) rfl (by kernel_rfl)) (d := 20) (v := (.bool (inB F fr))) rfl (fun _ _ => by kernel_rfl) (fun w' H' => (Z6T w' F Cn fr (by omega)).mono fun _ _ h => ⟨h.1, H'.keepU h.2⟩) ?_
 refine qy 8 13 false 21 (.bool (!(inB F fr))) ?_
 refine qv 22 (.bool (!(inB F fr))) ?_
 refine Z22 ?_
 intro w8 H9
 apply ztn
 have b10 : (!(inB F fr)) = false := by rw [hin]; rfl
 have g11 := Z09 b10
 refine Z1K _ b10 ?_
 apply ZW
 apply ztn
 apply Zh
 apply zsl
 refine wv 23 (pt b2 0) ?_
 refine zw1 24 (.int .i64 (2)) (H9.cell 6 rfl (by kernel_rfl)) ?_
 apply znt
 apply ZM
 apply zsl
 refine wv 26 (.bool true) ?_
 refine wv 25 (.bool true) ?_
 apply znt
 refine Z1j rfl ?_
 apply zsl
 refine wv 27 (pt c 0) ?_
 refine wv 28 (pt b2 1) ?_
 refine zw1 29 (.int .i64 (fr)) (H9.cell 6 rfl (by kernel_rfl)) ?_
 refine wv 30 (pt b2 40) ?_
 refine zwN 31 (Z23 fr id sq q.x.h tm sb sm) (H9.at 6 rfl) ?_
 refine zwd fun Kq kq => ?_
 refine zdc 32 (Z4m w8 c bb mb g lc F Cn id Q k q hq L M (H9.fn [0, 1, 2, 3, 4]) hlQ hM hF hid fr sq tm sb sm hsq hx hs) ?_
 rintro _ w13 (⟨h1, rfl, hT⟩ | ⟨h1, h2, rfl, hT⟩ | ⟨h1, h2, z, sa, sc, S3, T, da, dc, D, B, rfl, hDn, hO, hS3, hT⟩)
 ·have H15 := H9.tl [Z3 c 112 (Z3a F Cn id bb g Q.length lc), Ze 119 79 (.slice (some ⟨g, 0, none⟩) Q.length lc) Q.length (Q.flatMap Zm), Zn q.ms (Value.int .i64) ZO M, Z3 bb 108 (Z2l mb), (Z1g mb L)] [0, 1, 2, 3, 4] [5, 6] hT [0, 1, 2, 3, 4, 5, 6]
  refine ⟨_, rfl, ?_⟩
  refine kq _ _ ?_
  clear kq Kq
  refine wv 4 (.slice none 0 0) ?_
  apply znt
  apply ZU
  apply Z3W
  apply Z0Y
  refine ze1 (.slice none 0 0) ?_
  exact .inl ⟨h1, rfl, H15.pk [0, 1, 2, 3, 4, 5]⟩
 ·have H16 := H9.tl [Z3 c 112 (Z3a F Cn id bb g Q.length lc), Ze 119 79 (.slice (some ⟨g, 0, none⟩) Q.length lc) Q.length (Q.flatMap Zm), Zn q.ms (Value.int .i64) ZO (Z1k M fr (⟨fr, id, sq, q.x.h, tm, sb, sm⟩ : Zl)), Z3 bb 108 (Z2l mb), (Z1g mb L)] [0, 1, 2, 3, 4] [5, 6] hT [0, 1, 2, 3, 4, 5, 6]
  refine ⟨_, rfl, ?_⟩
  refine kq _ _ ?_
  clear kq Kq
  refine wv 4 (.slice none 0 0) ?_
  apply znt
  apply ZU
  apply Z3W
  apply Z0Y
  refine ze1 (.slice none 0 0) ?_
  exact .inr (.inl ⟨h1, h2, rfl, H16.pk [0, 1, 2, 3, 4, 5]⟩)
 have H17 := H9.tl [Z3 c 112 (Z3a F Cn id bb g Q.length lc), Ze 119 79 (.slice (some ⟨g, 0, none⟩) Q.length lc) Q.length ((Q.set k (⟨q.x, q.pa, q.pc, q.P, q.no, q.ms, some z, q.ma, q.mr, q.op, q.pl, q.mp, q.dn, q.rp⟩ : Zq)).flatMap Zm), Zn q.ms (Value.int .i64) ZO (Z1k M fr (⟨fr, id, sq, q.x.h, tm, sb, sm⟩ : Zl)), Z3 bb 108 (Z2l mb), (Z1g mb L), Z3 z 57 (([(.int .i64 (q.x.cl)), (.int .i64 (q.x.seq))] : List Value) ++ hc q.x.h ++ ([(.int .i64 (q.x.len)), (.int .i64 (q.x.sb)), (.int .i64 (q.x.sm)), (.slice sa S3.length sc)] : List Value)), (Z5j sa T sc), Ze 82 295 (.slice da D.length dc) D.length (D.flatMap Z0b), Z0u B] [0, 1, 2, 3, 4] [5, 6] hT [0, 1, 2, 3, 4, 9, 10, 5, 6, 7, 8]
 refine ⟨_, rfl, ?_⟩
 refine kq _ _ ?_
 clear kq Kq
 refine wv 4 (.slice da D.length dc) ?_
 apply znt
 apply ZU
 apply Z3W
 apply Z0Y
 refine ze1 (.slice da D.length dc) ?_
 exact .inr (.inr ⟨h1, h2, z, sa, sc, S3, T, da, dc, D, B, rfl, hDn, hO, hS3, H17.pk [0, 1, 2, 3, 4, 7, 8, 9, 10, 5]⟩)
end Go.Proofs.YtgigjkjdmalmaaaGreat
