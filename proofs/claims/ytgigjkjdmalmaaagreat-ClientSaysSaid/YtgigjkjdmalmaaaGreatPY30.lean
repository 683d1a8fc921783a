/- WHAT IS PROVED: contracts and plain laws of ClAk, Clos10. Conditions: stated with each. -/
import Derived.Shelf.SlSortCmp.InsertionK
import Derived.Test.YtgigjkjdmalmaaaGreatPY05
import Derived.Test.YtgigjkjdmalmaaaGreatPY13
import Derived.Test.YtgigjkjdmalmaaaGreatPY26
import Derived.Test.YtgigjkjdmalmaaaGreatPY27
import Derived.Test.YtgigjkjdmalmaaaGreatPY29
set_option maxHeartbeats 4000000
set_option maxRecDepth 100000
namespace Go.Proofs.YtgigjkjdmalmaaaGreat
open Go.RowKit
abbrev Z1X (p0 : Int) (p1 : Int) : List Value := ([(.int .i64 p0), (.int .i64 p1)] : List Value)
abbrev Z2U (p0 : Zk) : List Value := ([(.int .i64 p0.r), (.int .i64 p0.cl), (.int .i64 p0.seq)] : List Value) ++ hc p0.h ++ ([(.int .u64 p0.t), (.int .i64 p0.sb), (.int .i64 p0.sm)] : List Value)
abbrev Z5P (p0 : Z0) (p1 : Option Addr) (p2 : Nat) (p3 : Nat) : List Value := ([(.int .i64 p0.cl), (.int .i64 p0.seq)] : List Value) ++ hc p0.h ++ ([(.int .i64 p0.len), (.int .i64 p0.sb), (.int .i64 p0.sm), (.slice p1 p2 p3)] : List Value)
abbrev Zc3 (p0 : Option Addr) (p1 : List Int) (p2 : Nat) : Ck := Zc 45 1 (.slice p0 p1.length p2) p1.length (p1.flatMap Z3D)
abbrev Zc4 : List Value := ([(.int .i64 (0)), (.int .i64 (0)), (.int .i64 (0))] : List Value) ++ hc Zx ++ ([(.int .u64 (0)), (.int .i64 (0)), (.int .i64 (0))] : List Value)
abbrev Z4j (p0 : Int) (p1 : Int) (p2 : Int) (p3 : Z1e) (p4 : Int) (p5 : Int) (p6 : Int) : List Value := ([(.int .i64 p0), (.int .i64 p1), (.int .i64 p2)] : List Value) ++ hc p3 ++ ([(.int .u64 p4), (.int .i64 p5), (.int .i64 p6)] : List Value)
def Z3R (f : Int) (L : List Z4) (s : Zk) : Bool := inB f s.r && decide (s.sb = s.r) && Z2w L s.sb s.sm (Z8T s)
theorem Z7J (w : World) (f cn : Int) (hf : -1099511627776 ≤ f ∧ f ≤ 1099511627776) (b mb : Nat) (L : List Z4) (hb : (Z3 b 108 [.map (some mb)]).ok w) (hm : MapAt w mb ZK (Value.int .i64) (ZU L)) (s : Zk) (hs : Z3V s) :
  Calls Tryz.prog 62 #[(.agg ⟨([(.int .i64 (f)), (.int .i64 (cn))] : List Value)⟩), (.pointer (some ⟨b, 0, none⟩)), (.agg ⟨(([(.int .i64 (s.r)), (.int .i64 (s.cl)), (.int .i64 (s.seq))] : List Value) ++ hc s.h ++ ([(.int .u64 (s.t)), (.int .i64 (s.sb)), (.int .i64 (s.sm))] : List Value))⟩)] w fun e w' => e = .returned (.bool (Z3R f L s)) ∧ Upd [] w w' := by
 have H := Sat.start0 w
 have hs2 := hs
 unfold Z3V at hs2
 refine Zg Tryz.func62 rfl 27 rfl (Nat.le_of_ble_eq_true rfl) ?_
 apply zsl
 refine zwd fun Kq kq => ?_
 refine zdb (Z1X f cn) H ?_
 intro b2 w3 H4
 refine kq _ _ ?_
 clear kq Kq
 refine zwd fun Kq kq => ?_
 refine zdb (Z2U s) H4 ?_
 intro b6 w7 H8
 refine kq _ _ ?_
 clear kq Kq
 refine wv 6 (.bool false) ?_
 apply znt
 apply Zf
 refine Z0b H8 [Z7 w (fun _ => False), Z3 b2 27 (Z1X f cn), Z3 b6 59 (Z2U s)] 21 rfl (by kernel_rfl) (fun Hx => (Hx.pk [0, 1, 2])) ?_
 intro w9 H10 S11
 refine hv0 0 S11 7 (.agg ⟨(Z1X f cn)⟩) ?_ (he := fun _ H' => (ZG (vs := (Z1X f cn)) rfl (by kernel_rfl) (by kernel_rfl) (by exact Nat.le_of_ble_eq_true (by kernel_rfl)) (H'.at 1 rfl) (by kernel_rfl)))
 refine hv0 1 S11 8 (pt b6 0) ?_
 refine hv0 2 S11 9 (.int .i64 (s.r)) ?_ (he := fun _ H' => (Zi rfl (by kernel_rfl) (H'.cell 2 rfl (by kernel_rfl))))
 refine Z0H 3 fun Kq kq => ?_
 refine zdq 10 (Z6c w9 f cn s.r (by omega)) H10 ?_
 intro w13 H14
 have S16 := H14.pk [0, 1, 2]
 refine kq _ _ S16 ?_
 clear kq Kq
 refine hv0 4 S16 11 (.bool (inB f s.r)) ?_
 refine (ZC (inB f s.r)).elim (fun b17 => ?_) (fun b17 => ?_)
 ·refine Z24 11 (.bool true) (congrArg Value.bool b17) ?_
  refine Z2z 5 S16 4 11 true 12 (pt b6 36) ?_
  refine Z2z 6 S16 4 11 true 13 (pt b6 36) ?_
  refine Z2z 7 S16 4 11 true 14 (.int .i64 (s.sb)) ?_ (he := fun _ H' => (Zi rfl (by kernel_rfl) (H'.cell 2 rfl (by kernel_rfl))))
  refine Z2z 8 S16 4 11 true 15 (pt b6 0) ?_
  refine Z2z 9 S16 4 11 true 16 (.int .i64 (s.r)) ?_ (he := fun _ H' => (Zi rfl (by kernel_rfl) (H'.cell 2 rfl (by kernel_rfl))))
  refine Z2z 10 S16 4 11 true 17 (.bool (decide (s.sb = s.r))) ?_
  refine hv0 11 S16 18 (.bool (decide (s.sb = s.r))) ?_
  refine hv0 12 S16 19 (.bool (decide (s.sb = s.r))) ?_
  refine (ZC (decide (s.sb = s.r))).elim (fun b18 => ?_) (fun b18 => ?_)
  ·have g19 := of_decide_eq_true b18
   refine Z24 19 (.bool true) (congrArg Value.bool b18) ?_
   refine Z2z 13 S16 12 19 true 20 (pt b 0) ?_
   refine Z2z 14 S16 12 19 true 21 (pt b6 36) ?_
   refine Z2z 15 S16 12 19 true 22 (.agg ⟨(Z1X s.sb s.sm)⟩) ?_ (he := fun _ H' => (ZG (vs := (Z1X s.sb s.sm)) rfl (by kernel_rfl) (by kernel_rfl) (by exact Nat.le_of_ble_eq_true (by kernel_rfl)) (H'.at 2 rfl) (by kernel_rfl)))
   refine Z2z 16 S16 12 19 true 23 (.agg ⟨(Z2U s)⟩) ?_ (he := fun _ H' => (ZG (vs := (Z2U s)) rfl (by kernel_rfl) (by kernel_rfl) (by exact Nat.le_of_ble_eq_true (by kernel_rfl)) (H'.at 2 rfl) (by kernel_rfl)))
   refine Z6J 17 rfl (by kernel_rfl) (Z0k 12 19 true rfl (by kernel_rfl) rfl (by kernel_rfl)) (fun Kq kq => ?_)
   refine zdc 24 (Z76 w13 s hs) ?_
   rintro _ w22 ⟨u23, rfl, k24, p25, q26⟩
   have H27 := H14.addU p25 k24 q26
   obtain ⟨a28, c29, rfl⟩ := Ze (H27.at 3 rfl)
   refine ⟨_, rfl, ?_⟩
   have S30 := H27.pk [0, 1, 2]
   refine kq _ _ S30 ?_
   clear kq Kq
   refine Z6J 18 rfl (by kernel_rfl) (Z0k 12 19 true rfl (by kernel_rfl) rfl (by kernel_rfl)) (fun Kq kq => ?_)
   refine zdq 25 (Z3Q w22 b mb L (H27.roCk 0 rfl hb (fun _ _ h => h)) (H27.roMap 0 rfl hm (fun h => h)) a28 c29 (Z8T s) (ListAt.row (enc := ZH) (sz := 1) Z0u (by decide) (H27.at 3 rfl)) s.sb s.sm) H27 ?_
   intro w32 H33
   have S35 := H33.pk [0, 1, 2]
   refine kq _ _ S35 ?_
   clear kq Kq
   refine hv0 19 S35 26 (.bool (Z2w L s.sb s.sm (Z8T s))) ?_
   refine hv0 20 S35 6 (.bool (Z2w L s.sb s.sm (Z8T s))) ?_
   refine zhf ?_
   apply ztn
   apply Zz
   refine ze1 (.bool (Z2w L s.sb s.sm (Z8T s))) ?_
   exact ⟨by simp [Z3R, b17, b18], H33.upd 0 rfl [] (fun _ h => h.elim)⟩
  have g36 := of_decide_eq_false b18
  refine Z24 19 (.bool false) (congrArg Value.bool b18) ?_
  refine ZQ 13 S16 12 19 true ?_
  refine ZQ 14 S16 12 19 true ?_
  refine ZQ 15 S16 12 19 true ?_
  refine ZQ 16 S16 12 19 true ?_
  refine ZQ 17 S16 12 19 true ?_
  refine ZQ 18 S16 12 19 true ?_
  refine hv0 19 S16 26 (.bool false) ?_
  refine hv0 20 S16 6 (.bool false) ?_
  refine zhf ?_
  apply ztn
  apply Zz
  refine ze1 (.bool false) ?_
  exact ⟨by simp [Z3R, b17, b18], H14.upd 0 rfl [] (fun _ h => h.elim)⟩
 refine Z24 11 (.bool false) (congrArg Value.bool b17) ?_
 refine ZQ 5 S16 4 11 true ?_
 refine ZQ 6 S16 4 11 true ?_
 refine ZQ 7 S16 4 11 true ?_
 refine ZQ 8 S16 4 11 true ?_
 refine ZQ 9 S16 4 11 true ?_
 refine ZQ 10 S16 4 11 true ?_
 refine hv0 11 S16 18 (.bool false) ?_
 refine hv0 12 S16 19 (.bool false) ?_
 refine ZQ 13 S16 12 19 true ?_
 refine ZQ 14 S16 12 19 true ?_
 refine ZQ 15 S16 12 19 true ?_
 refine ZQ 16 S16 12 19 true ?_
 refine ZQ 17 S16 12 19 true ?_
 refine ZQ 18 S16 12 19 true ?_
 refine hv0 19 S16 26 (.bool false) ?_
 refine hv0 20 S16 6 (.bool false) ?_
 refine zhf ?_
 apply ztn
 apply Zz
 refine ze1 (.bool false) ?_
 exact ⟨by simp [Z3R, b17], H14.upd 0 rfl [] (fun _ h => h.elim)⟩
theorem Zag (w : World) (x : Z0) (sa : Option Addr) (sc : Nat) (S : List Zk) (hS : ListAt ZV 38 w (.slice sa S.length sc) S) (hlS : S.length ≤ 12) :
  Calls Tryz.prog 63 #[(.agg ⟨(([(.int .i64 (x.cl)), (.int .i64 (x.seq))] : List Value) ++ hc x.h ++ ([(.int .i64 (x.len)), (.int .i64 (x.sb)), (.int .i64 (x.sm)), (.slice sa S.length sc)] : List Value))⟩)] w fun e w' => e = .returned (.int .u64 (Z8I S)) ∧ Upd [] w w' := by
 have H := Sat.start0 w
 refine Zg Tryz.func63 rfl 27 rfl (Nat.le_of_ble_eq_true rfl) ?_
 apply zsl
 refine zwd fun Kq kq => ?_
 refine zdb (Z5P x sa S.length sc) H ?_
 intro b2 w3 H4
 refine kq _ _ ?_
 clear kq Kq
 refine wv 2 (.int .u64 (0)) ?_
 apply Z0N
 refine wv 3 (.slice none 0 0) ?_
 apply znt
 apply Zf
 apply zsl
 refine wv 8 (pt b2 37) ?_
 refine zw1 9 (.slice sa S.length sc) (H4.cell 1 rfl (by kernel_rfl)) ?_
 refine wv 10 (.int .i64 ((S.length : Int))) ?_
 refine wv 11 (.int .i64 (0)) ?_
 apply znt
 apply ZA
 have H5 := H4.addNil 45 1
 refine ZW ([3, 5] ++ List.range' 11 10) (fun F_ W_ m_ => ∃ (i : Nat) (a : Option Addr) (c : Nat) (D : List Int), F_ 11 = (.int .i64 ((i : Int))) ∧ F_ 3 = (.slice a D.length c) ∧ (i ≤ S.length) ∧ (D = Z3T (S.take i)) ∧ Sat w [Z7 w (fun _ => False), Z3 b2 57 (Z5P x sa S.length sc), (Zc3 a D c)] W_ ∧ m_ = S.length - i) _ ⟨0, none, 0, [], (show ((.int .i64 (0)) : Value) = _ by first | rfl | go_num), (by first | rfl | go_num), (Nat.zero_le _), rfl, H5, rfl⟩ ?_
 rintro g6 w7 _ ⟨i, a, c, D, v9, v10, hi, hD, H8, rfl⟩
 refine Zo 11 _ v9 ?_
 refine Zo 3 _ v10 ?_
 have hDl : D.length = i := by rw [hD, Z73, List.length_take]; omega
 apply zsl
 refine wv 12 (.bool (decide ((i : Int) < (S.length : Int)))) ?_
 apply znt
 apply Zf
 refine (ZC (decide ((i : Int) < (S.length : Int)))).elim (fun b12 => ?_) (fun b12 => ?_)
 ·have g13 := of_decide_eq_true b12
  refine Z1q _ b12 ?_
  apply ZF
  apply ztn
  apply Zf
  apply ZA
  apply zsl
  obtain ⟨g15, o16, c17, e18, R19⟩ := SliceOf.atD hS Zr (show i < S.length by omega)
  refine wv 13 (.pointer (some ⟨g15, o16 + ((i : Int)).toNat * 38, none⟩)) ?_ (hr := ZM (E := 49) (by kernel_rfl) (by kernel_rfl) (Nat.le_of_ble_eq_true rfl) rfl e18 rfl (by omega) (by omega))
  refine wv 14 (.agg ⟨(Z2U (S.getD i Zr))⟩) ?_ (hr := Z0a (vs := (Z2U (S.getD i Zr))) rfl (by kernel_rfl) (by kernel_rfl) (Nat.le_of_ble_eq_true (by kernel_rfl)) (H8.runR 0 rfl (Z16 R19 0 (by kernel_rfl) (show o16 + ((i : Int)).toNat * 38 = o16 + i * 38 + 0 by omega)) (fun h => h)))
  refine zwd fun Kq kq => ?_
  refine zda (Zc4) H8 ?_
  intro b21 w22 H23
  refine kq _ _ ?_
  clear kq Kq
  refine zwd fun Kq kq => ?_
  refine Z21 (Z2U (S.getD i Zr)) H23 3 ?_
  intro w25 H26
  refine kq _ _ ?_
  clear kq Kq
  apply znt
  apply Zt
  refine wv 15 (.slice a D.length c) ?_
  refine wv 16 (pt b21 35) ?_
  refine zw1 17 (.int .u64 ((S.getD i Zr).t)) (H26.cell 3 rfl (by kernel_rfl)) ?_
  refine zwd fun Kq kq => ?_
  refine Z3U 45 1 8 (.int .u64 (0)) [(0, (.int .u64 ((S.getD i Zr).t)))] ([(.int .u64 ((S.getD i Zr).t))] : List Value) H26 ?_
  intro b29 w30 H31
  have H32 := H31.ct 4 rfl (Zc 45 1 (.slice (some ⟨b29, 0, none⟩) 1 1) 1 ([(S.getD i Zr).t].flatMap Z3D)) (by rw [show (([(.int .u64 ((S.getD i Zr).t))] : List Value) : List Value) = [(S.getD i Zr).t].flatMap Z3D from rfl])
  refine kq _ _ ?_
  clear kq Kq
  refine zwd fun Kq kq => ?_
  refine Z0n (T := 23) (e := 45) (size := 1) (bytes := 8) rfl H32 (by kernel_rfl) 2 4 rfl rfl rfl rfl (Z0e Z3D ZaA [(S.getD i Zr).t]) (by omega) (by omega) ?_
  intro v34 w35 H36
  have H39 := H36.ct 2 rfl (Zc 45 1 v34 ((D ++ [(S.getD i Zr).t]).length) ((D ++ [(S.getD i Zr).t]).flatMap Z3D)) ja
  obtain ⟨a37, c38, rfl⟩ := Ze (H39.at 2 rfl)
  refine kq _ _ ?_
  clear kq Kq
  refine wv 3 (.slice a37 ((D ++ [(S.getD i Zr).t]).length) c38) ?_
  apply Zu
  apply Zw
  apply ztn
  apply Zt
  refine zwi 20 ((i : Int) + 1) ?_
  refine wv 11 (.int .i64 ((i : Int) + 1)) ?_
  apply Zu
  have hDl : D.length = i := by rw [hD, Z73, List.length_take]; omega
  have H40 := H39.pk [0, 1, 2]
  refine ZE ?_ _ ⟨(i + 1), a37, c38, (D ++ [(S.getD i Zr).t]), rfl, (show ((.slice a37 ((D ++ [(S.getD i Zr).t]).length) c38) : Value) = _ by first | rfl | go_num), (by omega), (by rw [hD, Z8J S (by omega)]), H40, rfl⟩ (by omega)
  exact zs
 have g41 := of_decide_eq_false b12
 refine Z1a _ b12 ?_
 apply zxb
 apply ztn
 apply zsl
 refine wv 22 (.slice a D.length c) ?_
 refine zwd fun Kq kq => ?_
 refine zdq 23 (ZaR w7 (.slice a D.length c) D (ListAt.row (enc := Z3D) (sz := 1) Z2C (by decide) (H8.at 2 rfl)) (by omega)) H8 ?_
 intro w44 H45
 refine kq _ _ ?_
 clear kq Kq
 refine wv 21 (.tuple #[(.int .u64 (Z6R D)), (.bool (decide (D.length % 2 = 1)))]) ?_
 refine wv 24 (.int .u64 (Z6R D)) ?_
 refine wv 25 (.bool (decide (D.length % 2 = 1))) ?_
 refine wv 6 (.int .u64 (Z6R D)) ?_
 refine wv 7 (.bool (decide (D.length % 2 = 1))) ?_
 apply Z0N
 refine wv 26 (.int .u64 (Z6R D)) ?_
 refine wv 2 (.int .u64 (Z6R D)) ?_
 apply znt
 apply Zz
 refine ze1 (.int .u64 (Z6R D)) ?_
 have hT : D = Z3T S := by rw [hD, List.take_of_length_le (by omega)]
 exact ⟨by unfold Z8I; rw [← hT], H45.upd 0 rfl [] (fun _ h => h.elim)⟩
theorem Z5u (w : World) (c bb g lc : Nat) (F Cn id : Int) (Q : List Zq) (hcl : (Z3 c 112 [.int .i64 F, .int .i64 Cn, .int .i64 id, .pointer (some ⟨bb, 0, none⟩), .slice (some ⟨g, 0, none⟩) Q.length lc]).ok w) (hrow : (Zc 119 79 (.slice (some ⟨g, 0, none⟩) Q.length lc) Q.length (Q.flatMap Zh)).ok w) (hlQ : Q.length ≤ 64) (k : Nat) (q : Zq) (hq : Q[k]? = some q) (hcb : q.cb = none) (fr r sq tm sb sm : Int) (hsq : sq = (k : Int) + 1) :
  Calls Tryz.prog 38 #[(.pointer (some ⟨c, 0, none⟩)), (.int .i64 (fr)), (.agg ⟨(([(.int .i64 (r)), (.int .i64 (id)), (.int .i64 (sq))] : List Value) ++ hc q.x.h ++ ([(.int .u64 (tm)), (.int .i64 (sb)), (.int .i64 (sm))] : List Value))⟩)] w fun e w' => e = .returned (.tuple #[]) ∧ Upd [] w w' := by
 obtain ⟨x, pa, pc, P, no, ms, cb, ma, mr, op, pl, mp, dn, rp⟩ := q
 obtain rfl : cb = none := hcb
 have H := Sat.start0 w
 have hkl : k < Q.length := (List.getElem?_eq_some_iff.1 hq).1
 refine Zg Tryz.func38 rfl 57 rfl (Nat.le_of_ble_eq_true rfl) ?_
 apply zsl
 refine zwd fun Kq kq => ?_
 refine zdb (Z4j r id sq x.h tm sb sm) H ?_
 intro b2 w3 H4
 refine kq _ _ ?_
 clear kq Kq
 apply Z0N
 refine wv 7 (pt c 0) ?_
 refine wv 8 (pt b2 1) ?_
 refine zwN 9 (Z1X id sq) (H4.at 1 rfl) ?_
 refine wv 10 (pt b2 3) ?_
 refine zwN 11 (hc x.h) (H4.at 1 rfl) ?_
 refine zwd fun Kq kq => ?_
 refine zdq 12 (Z1J w3 c bb g lc F Cn id Q (H4.roCk 0 rfl hcl (fun _ _ h => h)) (H4.roCk 0 rfl hrow (fun _ _ h => h)) hlQ k _ hq sq hsq) H4 ?_
 intro w6 H7
 refine kq _ _ ?_
 clear kq Kq
 refine wv 6 (.pointer (some ⟨g, 0 + ((k : Int)).toNat * 79, none⟩)) ?_
 apply znt
 apply Zf
 refine Z0b H7 [Z7 w (fun _ => False), Z3 b2 59 (Z4j r id sq x.h tm sb sm)] 39 rfl (by kernel_rfl) (fun Hx => (Hx.pk [0, 1])) ?_
 intro w9 H10 S11
 refine hv0 0 S11 13 (.pointer (some ⟨g, 0 + ((k : Int)).toNat * 79, none⟩)) ?_
 refine hv0 1 S11 14 (.bool true) ?_
 refine hv0 2 S11 15 (.bool true) ?_
 refine Z2z 3 S11 2 15 true 16 (.pointer (some ⟨g, 0 + ((k : Int)).toNat * 79, none⟩)) ?_
 refine Z2z 4 S11 2 15 true 17 (.pointer (some ⟨g, 0 + ((k : Int)).toNat * 79, none⟩)) ?_
 refine Z2z 5 S11 2 15 true 18 (.pointer (some ⟨g, 0 + ((k : Int)).toNat * 79 + 71, none⟩)) ?_
 refine Z2z 6 S11 2 15 true 19 (.pointer none) ?_ (he := fun _ H' => (Zi rfl (by kernel_rfl) (ZS (H'.roCk 0 rfl hrow (fun _ _ h => h)) rfl ZB hq 71 rfl (show 0 + ((k : Int)).toNat * 79 + 71 = k * 79 + 71 by omega) (by kernel_rfl))))
 refine Z2z 7 S11 2 15 true 20 (.bool false) ?_
 refine hv0 8 S11 21 (.bool false) ?_
 refine hv0 9 S11 22 (.bool false) ?_
 refine ZQ 10 S11 9 22 true ?_
 refine ZQ 11 S11 9 22 true ?_
 refine ZQ 12 S11 9 22 true ?_
 refine ZQ 13 S11 9 22 true ?_
 refine hv0 14 S11 27 (.bool false) ?_
 refine hv0 15 S11 28 (.bool false) ?_
 refine ZQ 16 S11 15 28 true ?_
 refine ZQ 17 S11 15 28 true ?_
 refine ZQ 18 S11 15 28 true ?_
 refine ZQ 19 S11 15 28 true ?_
 refine ZQ 20 S11 15 28 true ?_
 refine ZQ 21 S11 15 28 true ?_
 refine ZQ 22 S11 15 28 true ?_
 refine ZQ 23 S11 15 28 true ?_
 refine ZQ 24 S11 15 28 true ?_
 refine ZQ 25 S11 15 28 true ?_
 refine hv0 26 S11 39 (.bool false) ?_
 refine hv0 27 S11 40 (.bool false) ?_
 refine ZQ 28 S11 27 40 true ?_
 refine ZQ 29 S11 27 40 true ?_
 refine ZQ 30 S11 27 40 true ?_
 refine ZQ 31 S11 27 40 true ?_
 refine ZQ 32 S11 27 40 true ?_
 refine ZQ 33 S11 27 40 true ?_
 refine ZQ 34 S11 27 40 true ?_
 refine ZQ 35 S11 27 40 true ?_
 refine ZQ 36 S11 27 40 true ?_
 refine ZQ 37 S11 27 40 true ?_
 refine hv0 38 S11 51 (.bool false) ?_
 refine zhf ?_
 apply ztn
 refine Z0y rfl ?_
 apply ZF
 refine Z0D ?_
 refine Z7a rfl  ?_
 exact ⟨rfl, H10.upd 0 rfl [] (fun _ h => h.elim)⟩
theorem Z6u (w : World) (c bb mb g lc : Nat) (F Cn id : Int) (Q : List Zq) (k : Nat) (q : Zq) (hq : Q[k]? = some q) (L : List Z4) (A : List (Int × Bool)) (Bz : List Ck) (hA : (ZL [Z3 c 112 [.int .i64 F, .int .i64 Cn, .int .i64 id, .pointer (some ⟨bb, 0, none⟩), .slice (some ⟨g, 0, none⟩) Q.length lc], Zc 119 79 (.slice (some ⟨g, 0, none⟩) Q.length lc) Q.length (Q.flatMap Zh), ZI q.ma (Value.int .i64) Value.bool A, Z0j Bz, Z3 bb 108 [.map (some mb)], ZI mb ZK (Value.int .i64) (ZU L)]).ok w) (hlQ : Q.length ≤ 64) (z : Nat) (hcb : q.cb = some z) (sa : Option Addr) (sc : Nat) (S T : List Zk) (hct : CrtIn Bz q.x z sa sc S T) (hlS : S.length ≤ 12) (hF : 1 ≤ F ∧ F ≤ 3) (fr r sq tm sb sm : Int) (hsq : sq = (k : Int) + 1) (hs : Z3V (⟨r, id, sq, q.x.h, tm, sb, sm⟩ : Zk)) :
  Calls Tryz.prog 38 #[(.pointer (some ⟨c, 0, none⟩)), (.int .i64 (fr)), (.agg ⟨(([(.int .i64 (r)), (.int .i64 (id)), (.int .i64 (sq))] : List Value) ++ hc q.x.h ++ ([(.int .u64 (tm)), (.int .i64 (sb)), (.int .i64 (sm))] : List Value))⟩)] w fun e w' => e = .returned (.tuple #[]) ∧ ∃ A2, Sat w [Z3 c 112 [.int .i64 F, .int .i64 Cn, .int .i64 id, .pointer (some ⟨bb, 0, none⟩), .slice (some ⟨g, 0, none⟩) Q.length lc], Zc 119 79 (.slice (some ⟨g, 0, none⟩) Q.length lc) Q.length (Q.flatMap Zh), ZI q.ma (Value.int .i64) Value.bool A2, Z0j Bz, Z3 bb 108 [.map (some mb)], ZI mb ZK (Value.int .i64) (ZU L), Z7 w (ZL [Z3 c 112 [.int .i64 F, .int .i64 Cn, .int .i64 id, .pointer (some ⟨bb, 0, none⟩), .slice (some ⟨g, 0, none⟩) Q.length lc], Zc 119 79 (.slice (some ⟨g, 0, none⟩) Q.length lc) Q.length (Q.flatMap Zh), ZI q.ma (Value.int .i64) Value.bool A, Z0j Bz, Z3 bb 108 [.map (some mb)], ZI mb ZK (Value.int .i64) (ZU L)]).fp] w' := by
 obtain ⟨x, pa, pc, P, no, ms, cb, ma, mr, op, pl, mp, dn, rp⟩ := q
 obtain rfl : cb = some z := hcb
 have hkl : k < Q.length := (List.getElem?_eq_some_iff.1 hq).1
 have H := Sat.start _ hA
 refine Zg Tryz.func38 rfl 57 rfl (Nat.le_of_ble_eq_true rfl) ?_
 apply zsl
 refine zwd fun Kq kq => ?_
 refine zdb (Z4j r id sq x.h tm sb sm) H ?_
 intro b2 w3 H4
 refine kq _ _ ?_
 clear kq Kq
 apply Z0N
 refine wv 7 (pt c 0) ?_
 refine wv 8 (pt b2 1) ?_
 refine zwN 9 (Z1X id sq) (H4.at 7 rfl) ?_
 refine wv 10 (pt b2 3) ?_
 refine zwN 11 (hc x.h) (H4.at 7 rfl) ?_
 refine zwd fun Kq kq => ?_
 refine zdq 12 (Z1J w3 c bb g lc F Cn id Q (H4.at 0 rfl) (H4.at 1 rfl) hlQ k _ hq sq hsq) H4 ?_
 intro w6 H7
 refine kq _ _ ?_
 clear kq Kq
 refine wv 6 (.pointer (some ⟨g, 0 + ((k : Int)).toNat * 79, none⟩)) ?_
 apply znt
 apply Zf
 refine zqs H7 ?_
 refine qv 13 (.pointer (some ⟨g, 0 + ((k : Int)).toNat * 79, none⟩)) ?_
 refine qv 14 (.bool true) ?_
 refine qv 15 (.bool true) ?_
 refine qy 2 15 true 16 (.pointer (some ⟨g, 0 + ((k : Int)).toNat * 79, none⟩)) ?_
 refine qy 2 15 true 17 (.pointer (some ⟨g, 0 + ((k : Int)).toNat * 79, none⟩)) ?_
 refine qy 2 15 true 18 (.pointer (some ⟨g, 0 + ((k : Int)).toNat * 79 + 71, none⟩)) ?_
 refine qy 2 15 true 19 (pt z 0) ?_ (hr := fun _ H' => (Zi rfl (by kernel_rfl) (ZS (H'.at 1 rfl) rfl ZB hq 71 rfl (show 0 + ((k : Int)).toNat * 79 + 71 = k * 79 + 71 by omega) (by kernel_rfl))))
 refine qy 2 15 true 20 (.bool true) ?_
 refine qv 21 (.bool true) ?_
 refine qv 22 (.bool true) ?_
 refine qy 9 22 true 23 (pt b2 0) ?_
 refine qy 9 22 true 24 (.int .i64 (r)) ?_ (hr := fun _ H' => (Zi rfl (by kernel_rfl) (H'.cell 7 rfl (by kernel_rfl))))
 refine qy 9 22 true 25 (.int .i64 (fr)) ?_
 refine qy 9 22 true 26 (.bool (decide (r = fr))) ?_
 refine qv 27 (.bool (decide (r = fr))) ?_
 refine qv 28 (.bool (decide (r = fr))) ?_
 refine (ZC (decide (r = fr))).elim (fun b9 => ?_) (fun b9 => ?_)
 ·have g10 := of_decide_eq_true b9
  refine Z17 28 (.bool true) (congrArg Value.bool b9) ?_
  refine qy 15 28 true 29 (pt c 0) ?_
  refine qy 15 28 true 30 (pt c 0) ?_
  refine qy 15 28 true 31 (pt c 0) ?_
  refine qy 15 28 true 32 (.agg ⟨(Z1X F Cn)⟩) ?_ (hr := fun _ H' => (ZG (vs := (Z1X F Cn)) rfl (by kernel_rfl) (by kernel_rfl) (by exact Nat.le_of_ble_eq_true (by kernel_rfl)) (H'.at 0 rfl) (by kernel_rfl)))
  refine qy 15 28 true 33 (pt c 0) ?_
  refine qy 15 28 true 34 (pt c 0) ?_
  refine qy 15 28 true 35 (pt c 3) ?_
  refine qy 15 28 true 36 (pt bb 0) ?_ (hr := fun _ H' => (Zi rfl (by kernel_rfl) (H'.cell 0 rfl rfl)))
  refine qy 15 28 true 37 (.agg ⟨(Z4j r id sq x.h tm sb sm)⟩) ?_ (hr := fun _ H' => (ZG (vs := (Z4j r id sq x.h tm sb sm)) rfl (by kernel_rfl) (by kernel_rfl) (by exact Nat.le_of_ble_eq_true (by kernel_rfl)) (H'.at 7 rfl) (by kernel_rfl)))
  refine Z4s (Z0k 15 28 true rfl (by kernel_rfl) rfl (by kernel_rfl)) (d := 38) (v := (.bool (Z3R F L (⟨r, id, sq, x.h, tm, sb, sm⟩ : Zk)))) rfl (fun _ _ => by kernel_rfl) (fun w' H' => (Z7J w' F Cn (by omega) bb mb L (H'.at 4 rfl) (H'.at 5 rfl) (⟨r, id, sq, x.h, tm, sb, sm⟩ : Zk) hs).mono fun _ _ h => ⟨h.1, H'.keepU h.2⟩) ?_
  refine qv 39 (.bool (Z3R F L (⟨r, id, sq, x.h, tm, sb, sm⟩ : Zk))) ?_
  refine qv 40 (.bool (Z3R F L (⟨r, id, sq, x.h, tm, sb, sm⟩ : Zk))) ?_
  refine (ZC (Z3R F L (⟨r, id, sq, x.h, tm, sb, sm⟩ : Zk))).elim (fun b12 => ?_) (fun b12 => ?_)
  ·refine Z17 40 (.bool true) (congrArg Value.bool b12) ?_
   refine qy 27 40 true 41 (pt b2 35) ?_
   refine qy 27 40 true 42 (.int .u64 (tm)) ?_ (hr := fun _ H' => (Zi rfl (by kernel_rfl) (H'.cell 7 rfl (by kernel_rfl))))
   refine qy 27 40 true 43 (.pointer (some ⟨g, 0 + ((k : Int)).toNat * 79, none⟩)) ?_
   refine qy 27 40 true 44 (.pointer (some ⟨g, 0 + ((k : Int)).toNat * 79, none⟩)) ?_
   refine qy 27 40 true 45 (.pointer (some ⟨g, 0 + ((k : Int)).toNat * 79 + 71, none⟩)) ?_
   refine qy 27 40 true 46 (pt z 0) ?_ (hr := fun _ H' => (Zi rfl (by kernel_rfl) (ZS (H'.at 1 rfl) rfl ZB hq 71 rfl (show 0 + ((k : Int)).toNat * 79 + 71 = k * 79 + 71 by omega) (by kernel_rfl))))
   refine qy 27 40 true 47 (pt z 0) ?_
   refine qy 27 40 true 48 (.agg ⟨(Z5P x sa S.length sc)⟩) ?_ (hr := fun _ H' => (ZG (vs := (Z5P x sa S.length sc)) rfl (by kernel_rfl) (by kernel_rfl) (by exact Nat.le_of_ble_eq_true (by kernel_rfl)) (H'.at 3 rfl _ hct.c) (by kernel_rfl)))
   refine Z4s (Z0k 27 40 true rfl (by kernel_rfl) rfl (by kernel_rfl)) (d := 49) (v := (.int .u64 (Z8I S))) rfl (fun _ _ => by kernel_rfl) (fun w' H' => (Zag w' x sa sc S (hct.at (H'.at 3 rfl)) hlS).mono fun _ _ h => ⟨h.1, H'.keepU h.2⟩) ?_
   refine qy 27 40 true 50 (.bool (decide (tm = (Z8I S)))) ?_
   refine qv 51 (.bool (decide (tm = (Z8I S)))) ?_
   refine Z1A ?_
   intro w13 H14
   apply ztn
   refine (ZC (decide (tm = (Z8I S)))).elim (fun b15 => ?_) (fun b15 => ?_)
   ·have g16 := of_decide_eq_true b15
    refine Z1q _ b15 ?_
    apply Zt
    refine wv 52 (.pointer (some ⟨g, 0 + ((k : Int)).toNat * 79, none⟩)) ?_
    refine wv 53 (.pointer (some ⟨g, 0 + ((k : Int)).toNat * 79, none⟩)) ?_
    refine wv 54 (.pointer (some ⟨g, 0 + ((k : Int)).toNat * 79 + 72, none⟩)) ?_
    refine zw1 55 (.map (some ma)) (ZS (H14.at 1 rfl) rfl ZB hq 72 rfl (show 0 + ((k : Int)).toNat * 79 + 72 = k * 79 + 72 by omega) (by kernel_rfl)) ?_
    refine wv 56 (.int .i64 (fr)) ?_
    refine zwd fun Kq kq => ?_
    refine Z1K (kt := 3) (et := 4) rfl H14 2 rfl (KeyTy.int (by kernel_rfl)) (by kernel_rfl) rfl fr rfl true rfl ?_
    intro w19 H20
    refine kq _ _ ?_
    clear kq Kq
    apply Zu
    refine Z0D ?_
    refine Z7a rfl  ?_
    exact ⟨rfl, _, H20.pk [0, 1, 2, 3, 4, 5, 6]⟩
   have g21 := of_decide_eq_false b15
   refine Z1a _ b15 ?_
   apply ZF
   refine Z0D ?_
   refine Z7a rfl  ?_
   exact ⟨rfl, A, H14.pk [0, 1, 2, 3, 4, 5, 6]⟩
  refine Z17 40 (.bool false) (congrArg Value.bool b12) ?_
  iterate 10 refine qn 27 40 true ?_
  refine qv 51 (.bool false) ?_
  refine Z1A ?_
  intro w23 H24
  apply ztn
  refine Z0y rfl ?_
  apply ZF
  refine Z0D ?_
  refine Z7a rfl  ?_
  exact ⟨rfl, A, H24.pk [0, 1, 2, 3, 4, 5, 6]⟩
 have g25 := of_decide_eq_false b9
 refine Z17 28 (.bool false) (congrArg Value.bool b9) ?_
 iterate 10 refine qn 15 28 true ?_
 refine qv 39 (.bool false) ?_
 refine qv 40 (.bool false) ?_
 iterate 10 refine qn 27 40 true ?_
 refine qv 51 (.bool false) ?_
 refine Z1A ?_
 intro w27 H28
 apply ztn
 refine Z0y rfl ?_
 apply ZF
 refine Z0D ?_
 refine Z7a rfl  ?_
 exact ⟨rfl, A, H28.pk [0, 1, 2, 3, 4, 5, 6]⟩
theorem Z91 (x y : Zk) (W : World) : Calls Tryz.prog 84 #[.agg ⟨ZV x⟩, .agg ⟨ZV y⟩] W fun e w' => e = .returned (.int .i64 (IntKind.i64.wrap (x.r - y.r))) ∧ ∃ q os', w' = Sort.grow (W.drewN q) os' := by
 have hx : (ZV x)[0]? = some (.int .i64 x.r) := by kernel_rfl
 have hy : (ZV y)[0]? = some (.int .i64 y.r) := by kernel_rfl
 generalize ZV x = cx at hx ⊢
 generalize ZV y = cy at hy ⊢
 go_enter Tryz.func84, Tryz.ntmps84
 go_wp2
 go_ret
 exact ⟨by simp [IntWalk.i64_left], 0, _, by rw [Sort.alloc_eq_grow, Sort.alloc_eq_grow, Sort.grow_grow]; rfl⟩
theorem Z90 (w : World) (B : Nat) (x s : Zk) (hb : w.heap[B]? = some (.cells ⟨ZV s⟩ 49 (0, 0))) : Calls Tryz.prog 81 #[.agg ⟨ZV x⟩, .pointer (some ⟨B, 0, none⟩)] w fun e w' => e = .returned (.bool (decide (x.r = s.r))) ∧ Upd [] w w' := by
 have hx : (ZV x)[0]? = some (.int .i64 x.r) := by kernel_rfl
 have hs : (ZV s)[0]? = some (.int .i64 s.r) := by kernel_rfl
 have hc : w.cell? ⟨B, 0, none⟩ = some (.int .i64 s.r) := by rw [Z0C hb]; simpa using hs
 have hB : B < w.heap.size := Z0J hb
 have hne : B ≠ w.heap.size := by omega
 clear hb
 generalize ZV x = cx at hx ⊢
 go_enter Tryz.func81, Tryz.ntmps81
 go_wp2
 all_goals (go_ret; exact ⟨by simp_all [Bool.beq_eq_decide_eq], Below.upd ((Below.refl _ w).alloc (Nat.le_refl _) _)⟩)
end Go.Proofs.YtgigjkjdmalmaaaGreat
