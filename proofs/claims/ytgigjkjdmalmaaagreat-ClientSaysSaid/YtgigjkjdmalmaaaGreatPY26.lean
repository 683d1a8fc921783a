/- WHAT IS PROVED: contracts and plain laws of ClK, ClH, TxtP. Conditions: stated with each. -/
import Derived.Test.YtgigjkjdmalmaaaGreatPY05
import Derived.Test.YtgigjkjdmalmaaaGreatPY06
import Derived.Test.YtgigjkjdmalmaaaGreatPY14
import Derived.Test.YtgigjkjdmalmaaaGreatPY23
import Derived.Test.YtgigjkjdmalmaaaGreatPY24
set_option maxHeartbeats 4000000
set_option maxRecDepth 100000
namespace Go.Proofs.YtgigjkjdmalmaaaGreat
open Go.RowKit
abbrev Z9v (p0 : Z0) (p1 : Option Addr) (p2 : Nat) (p3 : Nat) (p4 : Z1e) (p5 : Nat) (p6 : Nat) (p7 : Nat) (p8 : Nat) (p9 : Int) (p10 : Nat) (p11 : Value) : List Value := ([(.int .i64 p0.cl), (.int .i64 p0.seq)] : List Value) ++ hc p0.h ++ ([(.int .i64 p0.len), (.int .i64 p0.sb), (.int .i64 p0.sm), (.slice p1 p2 p3)] : List Value) ++ hc p4 ++ ([(.map (some p5)), (pt p6 0), (.map (some p7)), (.map (some p8)), (.bool false), (.int .i64 p9), (.map (some p10)), (.bool false), p11] : List Value)
theorem Z4a (w : World) (c bb g lc : Nat) (F Cn id : Int) (Q : List Zq) (hcl : (Z3 c 112 [.int .i64 F, .int .i64 Cn, .int .i64 id, .pointer (some ⟨bb, 0, none⟩), .slice (some ⟨g, 0, none⟩) Q.length lc]).ok w) (hrow : (Zc 119 79 (.slice (some ⟨g, 0, none⟩) Q.length lc) Q.length (Q.flatMap Zh)).ok w) (hlQ : Q.length ≤ 64) (sq : Int) (hno : sq < 1 ∨ (Q.length : Int) < sq) :
  Calls Tryz.prog 41 #[(.pointer (some ⟨c, 0, none⟩)), (.int .i64 (sq))] w fun e w' => e = .returned (.pointer none) ∧ Upd [] w w' := by
 have H := Sat.start0 w
 refine Zg Tryz.func41 rfl 23 rfl (Nat.le_of_ble_eq_true rfl) ?_
 apply zsl
 refine wv 4 (.pointer none) ?_
 apply znt
 apply Zf
 apply zsl
 refine wv 5 (.int .i64 (sq)) ?_
 refine wv 6 (.bool (decide (sq < 1))) ?_
 refine wv 7 (.bool (decide (sq < 1))) ?_
 refine (ZC (decide (sq < 1))).elim (fun b1 => ?_) (fun b1 => ?_)
 ·have g2 := of_decide_eq_true b1
  refine ZP 7 (.bool true) (congrArg Value.bool b1) ?_
  iterate 7 refine wn 2 7 false ?_
  refine wv 15 (.bool true) ?_
  apply znt
  refine Z0R rfl ?_
  apply zsl
  refine wv 4 (.pointer none) ?_
  apply znt
  apply Zz
  apply ZY
  refine ze1 (.pointer none) ?_
  exact ⟨rfl, H.upd 0 rfl [] (fun _ h => h.elim)⟩
 have g4 := of_decide_eq_false b1
 refine ZP 7 (.bool false) (congrArg Value.bool b1) ?_
 refine wy 2 7 false 8 (.int .i64 (sq)) ?_
 refine wy 2 7 false 9 (pt c 0) ?_
 refine wy 2 7 false 10 (pt c 0) ?_
 refine wy 2 7 false 11 (pt c 4) ?_
 refine wy 2 7 false 12 (.slice (some ⟨g, 0, none⟩) Q.length lc) ?_ (hr := Zi rfl (by kernel_rfl) (H.roCell 0 rfl hcl (fun h => h) rfl))
 refine wy 2 7 false 13 (.int .i64 ((Q.length : Int))) ?_
 refine wy 2 7 false 14 (.bool (decide (sq > (Q.length : Int)))) ?_
 refine wv 15 (.bool (decide (sq > (Q.length : Int)))) ?_
 apply znt
 have b6 : (decide (sq > (Q.length : Int))) = true := by exact decide_eq_true (by omega)
 have g7 := of_decide_eq_true b6
 refine Z1q _ b6 ?_
 apply zsl
 refine wv 4 (.pointer none) ?_
 apply znt
 apply Zz
 apply ZY
 refine ze1 (.pointer none) ?_
 exact ⟨rfl, H.upd 0 rfl [] (fun _ h => h.elim)⟩
theorem Z6o (w : World) (c bb g lc : Nat) (F Cn id : Int) (Q : List Zq) (hcl : (Z3 c 112 [.int .i64 F, .int .i64 Cn, .int .i64 id, .pointer (some ⟨bb, 0, none⟩), .slice (some ⟨g, 0, none⟩) Q.length lc]).ok w) (hrow : (Zc 119 79 (.slice (some ⟨g, 0, none⟩) Q.length lc) Q.length (Q.flatMap Zh)).ok w) (hlQ : Q.length ≤ 64) (sq : Int) (hno : sq < 1 ∨ (Q.length : Int) < sq) :
  Calls Tryz.prog 18 #[(.pointer (some ⟨c, 0, none⟩)), (.int .i64 (sq))] w fun e w' => e = .returned (.slice none 0 0) ∧ Upd [] w w' := by
 have H := Sat.start0 w
 refine Zg Tryz.func18 rfl 16 rfl (Nat.le_of_ble_eq_true rfl) ?_
 apply zsl
 refine wv 4 (.slice none 0 0) ?_
 apply Z0N
 refine wv 6 (pt c 0) ?_
 refine wv 7 (.int .i64 (sq)) ?_
 refine zwd fun Kq kq => ?_
 refine zdq 8 (Z4a w c bb g lc F Cn id Q (H.roCk 0 rfl hcl (fun _ _ h => h)) (H.roCk 0 rfl hrow (fun _ _ h => h)) hlQ sq hno) H ?_
 intro w2 H3
 refine kq _ _ ?_
 clear kq Kq
 refine wv 5 (.pointer none) ?_
 apply znt
 apply Zf
 apply zsl
 refine wv 9 (.pointer none) ?_
 refine wv 10 (.bool true) ?_
 apply znt
 refine Z0R rfl ?_
 apply zsl
 refine wv 4 (.slice none 0 0) ?_
 apply znt
 apply Zz
 apply ZY
 refine ze1 (.slice none 0 0) ?_
 exact ⟨rfl, H3.upd 0 rfl [] (fun _ h => h.elim)⟩
theorem Z7f (w : World) (c bb : Nat) (F Cn id : Int) (v : Value) (hcl : (Z3 c 112 [.int .i64 F, .int .i64 Cn, .int .i64 id, .pointer (some ⟨bb, 0, none⟩), v]).ok w) (hF : 1 ≤ F ∧ F ≤ 100) (hid : 0 ≤ id ∧ id ≤ 1000000) (x : Z0) (pa : Option Addr) (pc : Nat) (P : List UInt8) (no : Z1e) (ms ma mr mp : Nat) (pl : Int) (rp : List UInt8) (z : Nat) (sa : Option Addr) (sc : Nat) (S : List Zk) (hz : (Z3 z 57 (Z1E x ++ [.slice sa S.length sc])).ok w) (hS : ListAt ZV 38 w (.slice sa S.length sc) S) (hlS : S.length ≤ 1000) :
  Calls Tryz.prog 30 #[(.pointer (some ⟨c, 0, none⟩)), (.agg ⟨(([(.int .i64 (x.cl)), (.int .i64 (x.seq))] : List Value) ++ hc x.h ++ ([(.int .i64 (x.len)), (.int .i64 (x.sb)), (.int .i64 (x.sm)), ((.slice pa P.length pc))] : List Value) ++ hc no ++ ([(.map (some ms)), (.pointer (some ⟨z, 0, none⟩)), (.map (some ma)), (.map (some mr)), (.bool false), (.int .i64 (pl)), (.map (some mp)), (.bool false), (ZD rp)] : List Value))⟩)] w fun e w' => ∃ (da : Option Addr) (dc : Nat) (D : List OmR) (B : List Ck), e = .returned (.slice da D.length dc) ∧ (D.length : Int) = 3 * F + 1 ∧ (∀ j, j < D.length → Z6g (1000 + id) (⟨3, 0, 0, co0, x, sa, sc, S, 0, none, 0, [], Zx⟩ : OmR) B j (D.getD j om0)) ∧ (ZL [Zc 82 295 (.slice da D.length dc) D.length (D.flatMap Z0d), Z0j B]).ok w' ∧ Upd [] w w' ∧ ∀ q_, (ZL [Zc 82 295 (.slice da D.length dc) D.length (D.flatMap Z0d), Z0j B]).fp q_ → w.heap.size ≤ q_ := by
 have H := Sat.start0 w
 refine Zg Tryz.func30 rfl 37 rfl (Nat.le_of_ble_eq_true rfl) ?_
 apply zsl
 refine zwd fun Kq kq => ?_
 refine zdb (Z9v x pa P.length pc no ms z ma mr pl mp (ZD rp)) H ?_
 intro b2 w3 H4
 refine kq _ _ ?_
 clear kq Kq
 refine wv 4 (.slice none 0 0) ?_
 apply znt
 apply Zf
 apply ZA
 apply zsl
 refine wv 6 (pt b2 77) ?_
 refine zw1 7 (.bool false) (H4.cell 1 rfl (by kernel_rfl)) ?_
 refine wv 5 (.bool false) ?_
 apply znt
 refine Z0y rfl ?_
 apply zsl
 refine wv 9 (pt b2 74) ?_
 refine zw1 10 (.bool false) (H4.cell 1 rfl (by kernel_rfl)) ?_
 refine wv 8 (.bool false) ?_
 apply znt
 refine Z0y rfl ?_
 apply zsl
 refine wv 22 (pt b2 71) ?_
 refine zw1 23 (pt z 0) (H4.cell 1 rfl (by kernel_rfl)) ?_
 refine wv 24 (.bool true) ?_
 refine wv 21 (.bool true) ?_
 apply znt
 refine Z0R rfl ?_
 apply zsl
 refine wv 25 (pt c 0) ?_
 refine wv 26 (pt b2 71) ?_
 refine zw1 27 (pt z 0) (H4.cell 1 rfl (by kernel_rfl)) ?_
 refine wv 28 (pt z 0) ?_
 refine zwN 29 (([(.int .i64 (x.cl)), (.int .i64 (x.seq))] : List Value) ++ hc x.h ++ ([(.int .i64 (x.len)), (.int .i64 (x.sb)), (.int .i64 (x.sm)), (.slice sa S.length sc)] : List Value)) (H4.roCells 0 rfl hz (fun h => h)) ?_
 refine wv 30 (.agg ⟨(([(.int .i64 (3)), (.int .i64 (0)), (.int .i64 (0)), (.int .i64 (0)), (.int .i64 (0))] : List Value) ++ hc Zx ++ ([(.int .i64 (0)), (.int .i64 (0)), (.int .i64 (0)), (.int .i64 (0)), (.int .i64 (0)), (.int .i64 (0))] : List Value) ++ hc Zx ++ ([(.int .u64 (0)), (.int .i64 (0)), (.int .i64 (0)), (.int .i64 (x.cl)), (.int .i64 (x.seq))] : List Value) ++ hc x.h ++ ([(.int .i64 (x.len)), (.int .i64 (x.sb)), (.int .i64 (x.sm)), (.slice sa S.length sc), (.int .i64 (0)), (.int .i64 (0)), (.int .i64 (0))] : List Value) ++ hc Zx ++ ([(.int .u64 (0)), (.int .i64 (0)), (.int .i64 (0)), (.int .i64 (0)), (.int .i64 (0)), (.int .u64 (0)), (.int .i64 (0)), (.int .i64 (0)), (.int .u64 (0)), (.slice none 0 0), (.int .i64 (0)), (.int .i64 (0)), (.int .i64 (0)), (.int .i64 (0)), (.int .i64 (0)), (.int .i64 (0)), (.int .i64 (0)), (.int .u64 (0)), (.slice none 0 0), (.slice none 0 0), (.slice none 0 0), (.int .i64 (0)), (.int .i64 (0)), (.int .i64 (0))] : List Value) ++ ([(.int .i64 (0)), (.int .i64 (0)), (.int .i64 (0))] : List Value) ++ hc Zx ++ ([(.int .i64 (0)), (.int .i64 (0)), (.int .i64 (0)), (.int .i64 (0)), (.int .i64 (0))] : List Value) ++ hc Zx ++ ([(.int .u64 (0)), (.int .i64 (0)), (.slice none 0 0)] : List Value) ++ hc Zx ++ ([(.int .i64 (0)), (.int .i64 (0)), (.int .i64 (0)), (.int .i64 (0)), (ZD ([] : List UInt8)), (.int .i64 (0)), (.int .i64 (0)), (.int .i64 (0)), (.int .u64 (0)), (.slice none 0 0), (.slice none 0 0), (.slice none 0 0), (.slice none 0 0)] : List Value))⟩) ?_
 refine zwd fun Kq kq => ?_
 refine zdc 31 (Z22 w3 c bb F Cn id v (H4.roCk 0 rfl hcl (fun _ _ h => h)) hF hid (⟨3, 0, 0, co0, x, sa, sc, S, 0, none, 0, [], Zx⟩ : OmR) (ListAt.now H4 0 rfl hS) hlS ListAt.nil (Nat.zero_le _)) ?_
 rintro _ w6 ⟨a7, c8, D9, B10, rfl, n11, o12, k13, p14, q15⟩
 have H16 := H4.addU p14 k13 q15
 have H17 := H16.open 2 rfl
 refine ⟨_, rfl, ?_⟩
 refine kq _ _ ?_
 clear kq Kq
 refine wv 4 (.slice a7 D9.length c8) ?_
 apply znt
 apply Zz
 apply Z27
 apply ZY
 refine ze1 (.slice a7 D9.length c8) ?_
 exact ⟨a7, c8, D9, B10, rfl, n11, o12, H17.fn [2, 3], H17.upd 0 rfl [] (fun _ h => h.elim), H17.freshS 0 rfl (fun _ h => h) [2, 3] rfl rfl⟩
theorem Z6n (w : World) (c bb g lc : Nat) (F Cn id : Int) (Q : List Zq) (hcl : (Z3 c 112 [.int .i64 F, .int .i64 Cn, .int .i64 id, .pointer (some ⟨bb, 0, none⟩), .slice (some ⟨g, 0, none⟩) Q.length lc]).ok w) (hrow : (Zc 119 79 (.slice (some ⟨g, 0, none⟩) Q.length lc) Q.length (Q.flatMap Zh)).ok w) (hlQ : Q.length ≤ 64) (k : Nat) (q : Zq) (hq : Q[k]? = some q) (hF : 1 ≤ F ∧ F ≤ 100) (hid : 0 ≤ id ∧ id ≤ 1000000) (z : Nat) (sa : Option Addr) (sc : Nat) (S : List Zk) (hz : (Z3 z 57 (Z1E q.x ++ [.slice sa S.length sc])).ok w) (hS : ListAt ZV 38 w (.slice sa S.length sc) S) (hlS : S.length ≤ 1000) (hwy : q.cb = some z ∧ q.op = false ∧ q.dn = false) (sq : Int) (hsq : sq = (k : Int) + 1) :
  Calls Tryz.prog 18 #[(.pointer (some ⟨c, 0, none⟩)), (.int .i64 (sq))] w fun e w' => ∃ (da : Option Addr) (dc : Nat) (D : List OmR) (B : List Ck), e = .returned (.slice da D.length dc) ∧ (D.length : Int) = 3 * F + 1 ∧ (∀ j, j < D.length → Z6g (1000 + id) (⟨3, 0, 0, co0, q.x, sa, sc, S, 0, none, 0, [], Zx⟩ : OmR) B j (D.getD j om0)) ∧ (ZL [Zc 82 295 (.slice da D.length dc) D.length (D.flatMap Z0d), Z0j B]).ok w' ∧ Upd [] w w' ∧ ∀ q_, (ZL [Zc 82 295 (.slice da D.length dc) D.length (D.flatMap Z0d), Z0j B]).fp q_ → w.heap.size ≤ q_ := by
 obtain ⟨x, pa, pc, P, no, ms, cb, ma, mr, op, pl, mp, dn, rp⟩ := q
 obtain ⟨h1, h2, h3⟩ := hwy
 obtain rfl : cb = some z := h1
 obtain rfl : op = false := h2
 obtain rfl : dn = false := h3
 have H := Sat.start0 w
 have hkl : k < Q.length := (List.getElem?_eq_some_iff.1 hq).1
 refine Zg Tryz.func18 rfl 16 rfl (Nat.le_of_ble_eq_true rfl) ?_
 apply zsl
 refine wv 4 (.slice none 0 0) ?_
 apply Z0N
 refine wv 6 (pt c 0) ?_
 refine wv 7 (.int .i64 (sq)) ?_
 refine zwd fun Kq kq => ?_
 refine zdq 8 (Z1F w c bb g lc F Cn id Q (H.roCk 0 rfl hcl (fun _ _ h => h)) (H.roCk 0 rfl hrow (fun _ _ h => h)) hlQ k _ hq sq (by omega)) H ?_
 intro w2 H3
 refine kq _ _ ?_
 clear kq Kq
 refine wv 5 (.pointer (some ⟨g, 0 + ((k : Int)).toNat * 79, none⟩)) ?_
 apply znt
 apply Zf
 apply zsl
 refine wv 9 (.pointer (some ⟨g, 0 + ((k : Int)).toNat * 79, none⟩)) ?_
 refine wv 10 (.bool false) ?_
 apply znt
 refine Z0y rfl ?_
 apply ZF
 apply ztn
 apply zsl
 refine wv 11 (pt c 0) ?_
 refine wv 12 (.pointer (some ⟨g, 0 + ((k : Int)).toNat * 79, none⟩)) ?_
 refine wv 13 (.pointer (some ⟨g, 0 + ((k : Int)).toNat * 79, none⟩)) ?_
 refine wv 14 (.agg ⟨(Z9v x pa P.length pc no ms z ma mr pl mp (ZD rp))⟩) ?_ (hr := Z0a (vs := (Z9v x pa P.length pc no ms z ma mr pl mp (ZD rp))) rfl (by kernel_rfl) (by kernel_rfl) (Nat.le_of_ble_eq_true (by kernel_rfl)) (Z1d (H3.roCk 0 rfl hrow (fun _ _ h => h)) rfl ZB hq 0 (show 0 + ((k : Int)).toNat * 79 = k * 79 + 0 by omega) (by kernel_rfl) (by kernel_rfl)))
 refine zwd fun Kq kq => ?_
 refine zdc 15 (Z7f w2 c bb F Cn id (.slice (some ⟨g, 0, none⟩) Q.length lc) (H3.roCk 0 rfl hcl (fun _ _ h => h)) hF hid x pa pc P no ms ma mr mp pl rp z sa sc S (H3.roCk 0 rfl hz (fun _ _ h => h)) (ListAt.now H3 0 rfl hS) hlS) ?_
 rintro _ w6 ⟨a7, c8, D9, B10, rfl, n11, o12, k13, p14, q15⟩
 have H16 := H3.addU p14 k13 q15
 have H17 := H16.open 1 rfl
 refine ⟨_, rfl, ?_⟩
 refine kq _ _ ?_
 clear kq Kq
 refine wv 4 (.slice a7 D9.length c8) ?_
 apply znt
 apply Zz
 refine ze1 (.slice a7 D9.length c8) ?_
 exact ⟨a7, c8, D9, B10, rfl, n11, o12, H17.fn [1, 2], H17.upd 0 rfl [] (fun _ h => h.elim), H17.freshS 0 rfl (fun _ h => h) [1, 2] rfl rfl⟩
abbrev Z54 (p0 : Int) (p1 : Int) : List Value := ([(.int .i64 p0), (.int .i64 p1)] : List Value)
abbrev Z7Z (p0 : Zk) : List Value := ([(.int .i64 p0.r), (.int .i64 p0.cl), (.int .i64 p0.seq)] : List Value) ++ hc p0.h ++ ([(.int .u64 p0.t), (.int .i64 p0.sb), (.int .i64 p0.sm)] : List Value)
abbrev Zbs (p0 : Int) (p1 : Int) (p2 : Int) (p3 : Z1e) (p4 : Int) (p5 : Int) (p6 : Int) : List Value := ([(.int .i64 p0), (.int .i64 p1), (.int .i64 p2)] : List Value) ++ hc p3 ++ ([(.int .u64 p4), (.int .i64 p5), (.int .i64 p6)] : List Value)
theorem Z6s (w : World) (c bb g lc : Nat) (F Cn id : Int) (Q : List Zq) (hcl : (Z3 c 112 [.int .i64 F, .int .i64 Cn, .int .i64 id, .pointer (some ⟨bb, 0, none⟩), .slice (some ⟨g, 0, none⟩) Q.length lc]).ok w) (hrow : (Zc 119 79 (.slice (some ⟨g, 0, none⟩) Q.length lc) Q.length (Q.flatMap Zh)).ok w) (hlQ : Q.length ≤ 64) (cl sq : Int) (h : Z1e) (hno : sq < 1 ∨ (Q.length : Int) < sq) :
  Calls Tryz.prog 56 #[(.pointer (some ⟨c, 0, none⟩)), (.agg ⟨([(.int .i64 (cl)), (.int .i64 (sq))] : List Value)⟩), (.agg ⟨(hc h)⟩)] w fun e w' => e = .returned (.pointer none) ∧ Upd [] w w' := by
 have H := Sat.start0 w
 refine Zg Tryz.func56 rfl 33 rfl (Nat.le_of_ble_eq_true rfl) ?_
 apply zsl
 refine zwd fun Kq kq => ?_
 refine zdb (Z54 cl sq) H ?_
 intro b2 w3 H4
 refine kq _ _ ?_
 clear kq Kq
 refine zwd fun Kq kq => ?_
 refine zdb (hc h) H4 ?_
 intro b6 w7 H8
 refine kq _ _ ?_
 clear kq Kq
 refine wv 6 (.pointer none) ?_
 apply Z0N
 refine wv 8 (pt c 0) ?_
 refine wv 9 (pt b2 1) ?_
 refine zw1 10 (.int .i64 (sq)) (H8.cell 1 rfl rfl) ?_
 refine zwd fun Kq kq => ?_
 refine zdq 11 (Z4a w7 c bb g lc F Cn id Q (H8.roCk 0 rfl hcl (fun _ _ h => h)) (H8.roCk 0 rfl hrow (fun _ _ h => h)) hlQ sq hno) H8 ?_
 intro w10 H11
 refine kq _ _ ?_
 clear kq Kq
 refine wv 7 (.pointer none) ?_
 apply znt
 apply Zf
 apply Zf
 refine zqs H11 ?_
 refine qv 12 (.pointer none) ?_
 refine qv 13 (.bool true) ?_
 refine qv 14 (.bool true) ?_
 iterate 7 refine qn 2 14 false ?_
 refine qv 22 (.bool true) ?_
 refine qv 23 (.bool true) ?_
 iterate 7 refine qn 11 23 false ?_
 refine qv 31 (.bool true) ?_
 refine Z1A ?_
 intro w13 H14
 apply ztn
 refine Z0R rfl ?_
 apply zsl
 refine wv 6 (.pointer none) ?_
 apply znt
 apply Zz
 apply ZY
 refine ze1 (.pointer none) ?_
 exact ⟨rfl, H14.upd 0 rfl [] (fun _ h => h.elim)⟩
theorem Z6r (w : World) (c bb g lc : Nat) (F Cn id : Int) (Q : List Zq) (hcl : (Z3 c 112 [.int .i64 F, .int .i64 Cn, .int .i64 id, .pointer (some ⟨bb, 0, none⟩), .slice (some ⟨g, 0, none⟩) Q.length lc]).ok w) (hrow : (Zc 119 79 (.slice (some ⟨g, 0, none⟩) Q.length lc) Q.length (Q.flatMap Zh)).ok w) (hlQ : Q.length ≤ 64) (k : Nat) (q : Zq) (hq : Q[k]? = some q) (cl sq : Int) (h : Z1e) (hsq : sq = (k : Int) + 1) (hne : ¬ (cl = id ∧ q.x.h = h)) :
  Calls Tryz.prog 56 #[(.pointer (some ⟨c, 0, none⟩)), (.agg ⟨([(.int .i64 (cl)), (.int .i64 (sq))] : List Value)⟩), (.agg ⟨(hc h)⟩)] w fun e w' => e = .returned (.pointer none) ∧ Upd [] w w' := by
 have H := Sat.start0 w
 have hkl : k < Q.length := (List.getElem?_eq_some_iff.1 hq).1
 refine Zg Tryz.func56 rfl 33 rfl (Nat.le_of_ble_eq_true rfl) ?_
 apply zsl
 refine zwd fun Kq kq => ?_
 refine zdb (Z54 cl sq) H ?_
 intro b2 w3 H4
 refine kq _ _ ?_
 clear kq Kq
 refine zwd fun Kq kq => ?_
 refine zdb (hc h) H4 ?_
 intro b6 w7 H8
 refine kq _ _ ?_
 clear kq Kq
 refine wv 6 (.pointer none) ?_
 apply Z0N
 refine wv 8 (pt c 0) ?_
 refine wv 9 (pt b2 1) ?_
 refine zw1 10 (.int .i64 (sq)) (H8.cell 1 rfl rfl) ?_
 refine zwd fun Kq kq => ?_
 refine zdq 11 (Z1F w7 c bb g lc F Cn id Q (H8.roCk 0 rfl hcl (fun _ _ h => h)) (H8.roCk 0 rfl hrow (fun _ _ h => h)) hlQ k q hq sq (by omega)) H8 ?_
 intro w10 H11
 refine kq _ _ ?_
 clear kq Kq
 refine wv 7 (.pointer (some ⟨g, 0 + ((k : Int)).toNat * 79, none⟩)) ?_
 apply znt
 apply Zf
 apply Zf
 refine zqs H11 ?_
 refine qv 12 (.pointer (some ⟨g, 0 + ((k : Int)).toNat * 79, none⟩)) ?_
 refine qv 13 (.bool false) ?_
 refine qv 14 (.bool false) ?_
 refine qy 2 14 false 15 (pt b2 0) ?_
 refine qy 2 14 false 16 (.int .i64 (cl)) ?_ (hr := fun _ H' => (Zi rfl (by kernel_rfl) (H'.cell 1 rfl rfl)))
 refine qy 2 14 false 17 (pt c 0) ?_
 refine qy 2 14 false 18 (pt c 0) ?_
 refine qy 2 14 false 19 (pt c 2) ?_
 refine qy 2 14 false 20 (.int .i64 (id)) ?_ (hr := fun _ H' => (Zi rfl (by kernel_rfl) (H'.roCell 0 rfl hcl (fun h => h) rfl)))
 refine qy 2 14 false 21 (.bool (!(decide (cl = id)))) ?_
 refine qv 22 (.bool (!(decide (cl = id)))) ?_
 refine qv 23 (.bool (!(decide (cl = id)))) ?_
 refine (ZC (!(decide (cl = id)))).elim (fun b13 => ?_) (fun b13 => ?_)
 ·have g14 := Z12 b13
  have g15 := of_decide_eq_false g14
  refine Z17 23 (.bool true) (congrArg Value.bool b13) ?_
  iterate 7 refine qn 11 23 false ?_
  refine qv 31 (.bool true) ?_
  refine Z1A ?_
  intro w18 H19
  apply ztn
  refine Z0R rfl ?_
  apply zsl
  refine wv 6 (.pointer none) ?_
  apply znt
  apply Zz
  apply ZY
  refine ze1 (.pointer none) ?_
  exact ⟨rfl, H19.upd 0 rfl [] (fun _ h => h.elim)⟩
 have g20 := Z03 b13
 have g21 := of_decide_eq_true g20
 refine Z17 23 (.bool false) (congrArg Value.bool b13) ?_
 refine qy 11 23 false 24 (.pointer (some ⟨g, 0 + ((k : Int)).toNat * 79, none⟩)) ?_
 refine qy 11 23 false 25 (.pointer (some ⟨g, 0 + ((k : Int)).toNat * 79, none⟩)) ?_
 refine qy 11 23 false 26 (.pointer (some ⟨g, 0 + ((k : Int)).toNat * 79, none⟩)) ?_
 refine qy 11 23 false 27 (.pointer (some ⟨g, 0 + ((k : Int)).toNat * 79 + 2, none⟩)) ?_
 refine qy 11 23 false 28 (.agg ⟨(hc q.x.h)⟩) ?_ (hr := fun _ H' => (Z0a (vs := (hc q.x.h)) rfl (by kernel_rfl) (by kernel_rfl) (Nat.le_of_ble_eq_true (by kernel_rfl)) (Z1d (H'.roCk 0 rfl hrow (fun _ _ h => h)) rfl ZB hq 2 (show 0 + ((k : Int)).toNat * 79 + 2 = k * 79 + 2 by omega) (by kernel_rfl) (by kernel_rfl))))
 refine qy 11 23 false 29 (.agg ⟨(hc h)⟩) ?_ (hr := fun _ H' => (ZG (vs := (hc h)) rfl (by kernel_rfl) (by kernel_rfl) (by exact Nat.le_of_ble_eq_true (by kernel_rfl)) (H'.at 2 rfl) (by kernel_rfl)))
 refine qy 11 23 false 30 (.bool (!(decide (q.x.h = h)))) ?_ (hr := fun _ H' => (Z7W q.x.h h rfl rfl))
 refine qv 31 (.bool (!(decide (q.x.h = h)))) ?_
 refine Z1A ?_
 intro w24 H25
 apply ztn
 have b26 : (!(decide (q.x.h = h))) = true := by have q_ := b13; rw [decide_eq_false (fun e_ => hne ⟨by simpa using q_, e_⟩)]; rfl
 have g27 := Z12 b26
 have g28 := of_decide_eq_false g27
 refine Z1q _ b26 ?_
 apply zsl
 refine wv 6 (.pointer none) ?_
 apply znt
 apply Zz
 apply ZY
 refine ze1 (.pointer none) ?_
 exact ⟨rfl, H25.upd 0 rfl [] (fun _ h => h.elim)⟩
theorem Z2i (w : World) (c bb g lc : Nat) (F Cn id : Int) (Q : List Zq) (hcl : (Z3 c 112 [.int .i64 F, .int .i64 Cn, .int .i64 id, .pointer (some ⟨bb, 0, none⟩), .slice (some ⟨g, 0, none⟩) Q.length lc]).ok w) (hrow : (Zc 119 79 (.slice (some ⟨g, 0, none⟩) Q.length lc) Q.length (Q.flatMap Zh)).ok w) (hlQ : Q.length ≤ 64) (cl sq : Int) (h : Z1e) (hno : ∀ (k : Nat) (q : Zq), Q[k]? = some q → ¬ (cl = id ∧ sq = (k : Int) + 1 ∧ q.x.h = h)) : Calls Tryz.prog 56 #[.pointer (some ⟨c, 0, none⟩), .agg ⟨[.int .i64 cl, .int .i64 sq]⟩, .agg ⟨hc h⟩] w fun e w' => e = .returned (.pointer none) ∧ Upd [] w w' := by
 by_cases hr : sq < 1 ∨ (Q.length : Int) < sq
 ·exact Z6s w c bb g lc F Cn id Q hcl hrow hlQ cl sq h hr
 obtain ⟨k, hk⟩ : ∃ k : Nat, sq = (k : Int) + 1 := ⟨(sq - 1).toNat, by omega⟩
 have hq : Q[k]? = some Q[k] := List.getElem?_eq_getElem (by omega)
 exact Z6r w c bb g lc F Cn id Q hcl hrow hlQ k _ hq cl sq h hk (fun e => hno k _ hq ⟨e.1, hk, e.2⟩)
theorem Z5G (w : World) (c bb g lc : Nat) (F Cn id : Int) (Q : List Zq) (hcl : (Z3 c 112 [.int .i64 F, .int .i64 Cn, .int .i64 id, .pointer (some ⟨bb, 0, none⟩), .slice (some ⟨g, 0, none⟩) Q.length lc]).ok w) (hrow : (Zc 119 79 (.slice (some ⟨g, 0, none⟩) Q.length lc) Q.length (Q.flatMap Zh)).ok w) (hlQ : Q.length ≤ 64) (fr : Int) (s : Zk) (hno : ∀ (k : Nat) (q : Zq), Q[k]? = some q → ¬ (s.cl = id ∧ s.seq = (k : Int) + 1 ∧ q.x.h = s.h)) :
  Calls Tryz.prog 37 #[(.pointer (some ⟨c, 0, none⟩)), (.int .i64 (fr)), (.agg ⟨(([(.int .i64 (s.r)), (.int .i64 (s.cl)), (.int .i64 (s.seq))] : List Value) ++ hc s.h ++ ([(.int .u64 (s.t)), (.int .i64 (s.sb)), (.int .i64 (s.sm))] : List Value))⟩)] w fun e w' => e = .returned (.slice none 0 0) ∧ Upd [] w w' := by
 have H := Sat.start0 w
 refine Zg Tryz.func37 rfl 120 rfl (Nat.le_of_ble_eq_true rfl) ?_
 apply zsl
 refine zwd fun Kq kq => ?_
 refine zdb (Z7Z s) H ?_
 intro b2 w3 H4
 refine kq _ _ ?_
 clear kq Kq
 refine wv 6 (.slice none 0 0) ?_
 apply Z0N
 refine wv 15 (pt c 0) ?_
 refine wv 16 (pt b2 1) ?_
 refine zwN 17 (Z54 s.cl s.seq) (H4.at 1 rfl) ?_
 refine wv 18 (pt b2 3) ?_
 refine zwN 19 (hc s.h) (H4.at 1 rfl) ?_
 refine zwd fun Kq kq => ?_
 refine zdq 20 (Z2i w3 c bb g lc F Cn id Q (H4.roCk 0 rfl hcl (fun _ _ h => h)) (H4.roCk 0 rfl hrow (fun _ _ h => h)) hlQ s.cl s.seq s.h hno) H4 ?_
 intro w6 H7
 refine kq _ _ ?_
 clear kq Kq
 refine wv 7 (.pointer none) ?_
 apply znt
 apply Zf
 apply Zf
 refine Z0b H7 [Z7 w (fun _ => False), Z3 b2 49 (Z7Z s)] 21 rfl (by kernel_rfl) (fun Hx => (Hx.pk [0, 1])) ?_
 intro w9 H10 S11
 refine hv0 0 S11 21 (.pointer none) ?_
 refine hv0 1 S11 22 (.bool true) ?_
 refine hv0 2 S11 23 (.bool true) ?_
 refine ZQ 3 S11 2 23 false ?_
 refine ZQ 4 S11 2 23 false ?_
 refine ZQ 5 S11 2 23 false ?_
 refine ZQ 6 S11 2 23 false ?_
 refine hv0 7 S11 28 (.bool true) ?_
 refine hv0 8 S11 29 (.bool true) ?_
 refine ZQ 9 S11 8 29 false ?_
 refine ZQ 10 S11 8 29 false ?_
 refine ZQ 11 S11 8 29 false ?_
 refine ZQ 12 S11 8 29 false ?_
 refine ZQ 13 S11 8 29 false ?_
 refine ZQ 14 S11 8 29 false ?_
 refine ZQ 15 S11 8 29 false ?_
 refine ZQ 16 S11 8 29 false ?_
 refine ZQ 17 S11 8 29 false ?_
 refine ZQ 18 S11 8 29 false ?_
 refine ZQ 19 S11 8 29 false ?_
 refine hv0 20 S11 41 (.bool true) ?_
 refine zhf ?_
 apply ztn
 refine Z0R rfl ?_
 apply zsl
 refine wv 6 (.slice none 0 0) ?_
 apply znt
 apply Zz
 apply ZY
 refine ze1 (.slice none 0 0) ?_
 exact ⟨rfl, H10.upd 0 rfl [] (fun _ h => h.elim)⟩
theorem Z5H (w : World) (c bb g lc : Nat) (F Cn id : Int) (Q : List Zq) (hcl : (Z3 c 112 [.int .i64 F, .int .i64 Cn, .int .i64 id, .pointer (some ⟨bb, 0, none⟩), .slice (some ⟨g, 0, none⟩) Q.length lc]).ok w) (hrow : (Zc 119 79 (.slice (some ⟨g, 0, none⟩) Q.length lc) Q.length (Q.flatMap Zh)).ok w) (hlQ : Q.length ≤ 64) (k : Nat) (q : Zq) (hq : Q[k]? = some q) (fr r sq tm sb sm : Int) (hsq : sq = (k : Int) + 1) (hne : ¬ r = fr) :
  Calls Tryz.prog 37 #[(.pointer (some ⟨c, 0, none⟩)), (.int .i64 (fr)), (.agg ⟨(([(.int .i64 (r)), (.int .i64 (id)), (.int .i64 (sq))] : List Value) ++ hc q.x.h ++ ([(.int .u64 (tm)), (.int .i64 (sb)), (.int .i64 (sm))] : List Value))⟩)] w fun e w' => e = .returned (.slice none 0 0) ∧ Upd [] w w' := by
 have H := Sat.start0 w
 have hkl : k < Q.length := (List.getElem?_eq_some_iff.1 hq).1
 refine Zg Tryz.func37 rfl 120 rfl (Nat.le_of_ble_eq_true rfl) ?_
 apply zsl
 refine zwd fun Kq kq => ?_
 refine zdb (Zbs r id sq q.x.h tm sb sm) H ?_
 intro b2 w3 H4
 refine kq _ _ ?_
 clear kq Kq
 refine wv 6 (.slice none 0 0) ?_
 apply Z0N
 refine wv 15 (pt c 0) ?_
 refine wv 16 (pt b2 1) ?_
 refine zwN 17 (Z54 id sq) (H4.at 1 rfl) ?_
 refine wv 18 (pt b2 3) ?_
 refine zwN 19 (hc q.x.h) (H4.at 1 rfl) ?_
 refine zwd fun Kq kq => ?_
 refine zdq 20 (Z1J w3 c bb g lc F Cn id Q (H4.roCk 0 rfl hcl (fun _ _ h => h)) (H4.roCk 0 rfl hrow (fun _ _ h => h)) hlQ k q hq sq hsq) H4 ?_
 intro w6 H7
 refine kq _ _ ?_
 clear kq Kq
 refine wv 7 (.pointer (some ⟨g, 0 + ((k : Int)).toNat * 79, none⟩)) ?_
 apply znt
 apply Zf
 apply Zf
 refine Z0b H7 [Z7 w (fun _ => False), Z3 b2 49 (Zbs r id sq q.x.h tm sb sm)] 21 rfl (by kernel_rfl) (fun Hx => (Hx.pk [0, 1])) ?_
 intro w9 H10 S11
 refine hv0 0 S11 21 (.pointer (some ⟨g, 0 + ((k : Int)).toNat * 79, none⟩)) ?_
 refine hv0 1 S11 22 (.bool false) ?_
 refine hv0 2 S11 23 (.bool false) ?_
 refine Z2z 3 S11 2 23 false 24 (pt b2 0) ?_
 refine Z2z 4 S11 2 23 false 25 (.int .i64 (r)) ?_ (he := fun _ H' => (Zi rfl (by kernel_rfl) (H'.cell 1 rfl (by kernel_rfl))))
 refine Z2z 5 S11 2 23 false 26 (.int .i64 (fr)) ?_
 refine Z2z 6 S11 2 23 false 27 (.bool (!(decide (r = fr)))) ?_
 refine hv0 7 S11 28 (.bool (!(decide (r = fr)))) ?_
 refine hv0 8 S11 29 (.bool (!(decide (r = fr)))) ?_
 have b12 : (!(decide (r = fr))) = true := by rw [decide_eq_false hne]; rfl
 refine Z24 29 (.bool true) (congrArg Value.bool b12) ?_
 have g13 := Z12 b12
 have g14 := of_decide_eq_false g13
 refine ZQ 9 S11 8 29 false ?_
 refine ZQ 10 S11 8 29 false ?_
 refine ZQ 11 S11 8 29 false ?_
 refine ZQ 12 S11 8 29 false ?_
 refine ZQ 13 S11 8 29 false ?_
 refine ZQ 14 S11 8 29 false ?_
 refine ZQ 15 S11 8 29 false ?_
 refine ZQ 16 S11 8 29 false ?_
 refine ZQ 17 S11 8 29 false ?_
 refine ZQ 18 S11 8 29 false ?_
 refine ZQ 19 S11 8 29 false ?_
 refine hv0 20 S11 41 (.bool true) ?_
 refine zhf ?_
 apply ztn
 refine Z0R rfl ?_
 apply zsl
 refine wv 6 (.slice none 0 0) ?_
 apply znt
 apply Zz
 apply ZY
 refine ze1 (.slice none 0 0) ?_
 exact ⟨rfl, H10.upd 0 rfl [] (fun _ h => h.elim)⟩
theorem Z5A (w : World) (c bb g lc : Nat) (F Cn id : Int) (Q : List Zq) (hcl : (Z3 c 112 [.int .i64 F, .int .i64 Cn, .int .i64 id, .pointer (some ⟨bb, 0, none⟩), .slice (some ⟨g, 0, none⟩) Q.length lc]).ok w) (hrow : (Zc 119 79 (.slice (some ⟨g, 0, none⟩) Q.length lc) Q.length (Q.flatMap Zh)).ok w) (hlQ : Q.length ≤ 64) (fr : Int) (x : RcD) (hno : ∀ (k : Nat) (q : Zq), Q[k]? = some q → ¬ (x.e.cl = id ∧ x.e.sq = (k : Int) + 1 ∧ q.x.h = x.e.h)) :
  Calls Tryz.prog 39 #[(.pointer (some ⟨c, 0, none⟩)), (.int .i64 (fr)), (.agg ⟨(([(.int .i64 (x.i)), (.int .i64 (x.e.cl)), (.int .i64 (x.e.sq))] : List Value) ++ hc x.e.h ++ ([(.int .u64 (x.e.t))] : List Value))⟩)] w fun e w' => e = .returned (.slice none 0 0) ∧ Upd [] w w' := by
 have H := Sat.start0 w
 refine Zg Tryz.func39 rfl 102 rfl (Nat.le_of_ble_eq_true rfl) ?_
 apply zsl
 refine zwd fun Kq kq => ?_
 refine zdb (([(.int .i64 (x.i)), (.int .i64 (x.e.cl)), (.int .i64 (x.e.sq))] : List Value) ++ hc x.e.h ++ ([(.int .u64 (x.e.t))] : List Value)) H ?_
 intro b2 w3 H4
 refine kq _ _ ?_
 clear kq Kq
 refine wv 6 (.slice none 0 0) ?_
 apply Z0N
 refine wv 13 (pt c 0) ?_
 refine wv 14 (pt b2 1) ?_
 refine wv 15 (pt b2 1) ?_
 refine zwN 16 (Z54 x.e.cl x.e.sq) (H4.at 1 rfl) ?_
 refine wv 17 (pt b2 1) ?_
 refine wv 18 (pt b2 3) ?_
 refine zwN 19 (hc x.e.h) (H4.at 1 rfl) ?_
 refine zwd fun Kq kq => ?_
 refine zdc 20 (Z2i w3 c bb g lc F Cn id Q (H4.roCk 0 rfl hcl (fun _ _ h => h)) (H4.roCk 0 rfl hrow (fun _ _ h => h)) hlQ x.e.cl x.e.sq x.e.h hno) ?_
 rintro _ w6 ⟨rfl, u8⟩
 have H7 := H4.keepU u8
 refine ⟨_, rfl, ?_⟩
 refine kq _ _ ?_
 clear kq Kq
 refine wv 7 (.pointer none) ?_
 apply znt
 apply Zf
 apply zsl
 refine wv 21 (.pointer none) ?_
 refine wv 22 (.bool true) ?_
 apply znt
 refine Z0R rfl ?_
 apply zsl
 refine wv 6 (.slice none 0 0) ?_
 apply znt
 apply Zz
 apply ZY
 refine ze1 (.slice none 0 0) ?_
 exact ⟨rfl, H7.upd 0 rfl [] (fun _ h => h.elim)⟩
theorem Z5x (w : World) (c bb g lc : Nat) (F Cn id : Int) (Q : List Zq) (hcl : (Z3 c 112 [.int .i64 F, .int .i64 Cn, .int .i64 id, .pointer (some ⟨bb, 0, none⟩), .slice (some ⟨g, 0, none⟩) Q.length lc]).ok w) (hrow : (Zc 119 79 (.slice (some ⟨g, 0, none⟩) Q.length lc) Q.length (Q.flatMap Zh)).ok w) (hlQ : Q.length ≤ 64) (fr : Int) (s : Zk) (hno : ∀ (k : Nat) (q : Zq), Q[k]? = some q → ¬ (s.cl = id ∧ s.seq = (k : Int) + 1 ∧ q.x.h = s.h)) :
  Calls Tryz.prog 38 #[(.pointer (some ⟨c, 0, none⟩)), (.int .i64 (fr)), (.agg ⟨(([(.int .i64 (s.r)), (.int .i64 (s.cl)), (.int .i64 (s.seq))] : List Value) ++ hc s.h ++ ([(.int .u64 (s.t)), (.int .i64 (s.sb)), (.int .i64 (s.sm))] : List Value))⟩)] w fun e w' => e = .returned (.tuple #[]) ∧ Upd [] w w' := by
 have H := Sat.start0 w
 refine Zg Tryz.func38 rfl 57 rfl (Nat.le_of_ble_eq_true rfl) ?_
 apply zsl
 refine zwd fun Kq kq => ?_
 refine zdb (Z7Z s) H ?_
 intro b2 w3 H4
 refine kq _ _ ?_
 clear kq Kq
 apply Z0N
 refine wv 7 (pt c 0) ?_
 refine wv 8 (pt b2 1) ?_
 refine zwN 9 (Z54 s.cl s.seq) (H4.at 1 rfl) ?_
 refine wv 10 (pt b2 3) ?_
 refine zwN 11 (hc s.h) (H4.at 1 rfl) ?_
 refine zwd fun Kq kq => ?_
 refine zdq 12 (Z2i w3 c bb g lc F Cn id Q (H4.roCk 0 rfl hcl (fun _ _ h => h)) (H4.roCk 0 rfl hrow (fun _ _ h => h)) hlQ s.cl s.seq s.h hno) H4 ?_
 intro w6 H7
 refine kq _ _ ?_
 clear kq Kq
 refine wv 6 (.pointer none) ?_
 apply znt
 apply Zf
 refine Z0b H7 [Z7 w (fun _ => False), Z3 b2 59 (Z7Z s)] 39 rfl (by kernel_rfl) (fun Hx => (Hx.pk [0, 1])) ?_
 intro w9 H10 S11
 refine hv0 0 S11 13 (.pointer none) ?_
 refine hv0 1 S11 14 (.bool false) ?_
 refine hv0 2 S11 15 (.bool false) ?_
 refine ZQ 3 S11 2 15 true ?_
 refine ZQ 4 S11 2 15 true ?_
 refine ZQ 5 S11 2 15 true ?_
 refine ZQ 6 S11 2 15 true ?_
 refine ZQ 7 S11 2 15 true ?_
 refine hv0 8 S11 21 (.bool false) ?_
 refine hv0 9 S11 22 (.bool false) ?_
 refine ZQ 10 S11 9 22 true ?_
 refine ZQ 11 S11 9 22 true ?_
 refine ZQ 12 S11 9 22 true ?_
 refine ZQ 13 S11 9 22 true ?_
 refine hv0 14 S11 27 (.bool false) ?_
 refine hv0 15 S11 28 (.bool false) ?_
 refine ZQ 16 S11 15 28 true ?_
 refine ZQ 17 S11 15 28 true ?_
 refine ZQ 18 S11 15 28 true ?_
 refine ZQ 19 S11 15 28 true ?_
 refine ZQ 20 S11 15 28 true ?_
 refine ZQ 21 S11 15 28 true ?_
 refine ZQ 22 S11 15 28 true ?_
 refine ZQ 23 S11 15 28 true ?_
 refine ZQ 24 S11 15 28 true ?_
 refine ZQ 25 S11 15 28 true ?_
 refine hv0 26 S11 39 (.bool false) ?_
 refine hv0 27 S11 40 (.bool false) ?_
 refine ZQ 28 S11 27 40 true ?_
 refine ZQ 29 S11 27 40 true ?_
 refine ZQ 30 S11 27 40 true ?_
 refine ZQ 31 S11 27 40 true ?_
 refine ZQ 32 S11 27 40 true ?_
 refine ZQ 33 S11 27 40 true ?_
 refine ZQ 34 S11 27 40 true ?_
 refine ZQ 35 S11 27 40 true ?_
 refine ZQ 36 S11 27 40 true ?_
 refine ZQ 37 S11 27 40 true ?_
 refine hv0 38 S11 51 (.bool false) ?_
 refine zhf ?_
 apply ztn
 refine Z0y rfl ?_
 apply ZF
 refine Z0D ?_
 refine Z7a rfl  ?_
 exact ⟨rfl, H10.upd 0 rfl [] (fun _ h => h.elim)⟩
def Z8T (s : Zk) : List UInt8 := [Zs [97, 99, 107], Z7c s].flatten
section
variable {α : Type} {g : α → List UInt8} {k : Nat}
end
end Go.Proofs.YtgigjkjdmalmaaaGreat
