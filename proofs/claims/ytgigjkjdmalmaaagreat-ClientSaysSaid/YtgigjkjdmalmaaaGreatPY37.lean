/- WHAT IS PROVED: contracts and plain laws of ClTk. Conditions: stated with each. -/
import Derived.Test.YtgigjkjdmalmaaaGreatPY05
import Derived.Test.YtgigjkjdmalmaaaGreatPY14
import Derived.Test.YtgigjkjdmalmaaaGreatPY26
import Derived.Test.YtgigjkjdmalmaaaGreatPY35
import Derived.Test.YtgigjkjdmalmaaaGreatPY36
set_option maxHeartbeats 4000000
set_option maxRecDepth 100000
namespace Go.Proofs.YtgigjkjdmalmaaaGreat
open Go.RowKit
abbrev Z2s (p0 : Int) (p1 : Int) : List Value := ([(.int .i64 p0), (.int .i64 p1)] : List Value)
abbrev Z2t (p0 : Zk) : List Value := ([(.int .i64 p0.r), (.int .i64 p0.cl), (.int .i64 p0.seq)] : List Value) ++ hc p0.h ++ ([(.int .u64 p0.t), (.int .i64 p0.sb), (.int .i64 p0.sm)] : List Value)
abbrev Z7t (p0 : Int) (p1 : EntD) : List Value := ([(.int .i64 p0), (.int .i64 p1.cl), (.int .i64 p1.sq)] : List Value) ++ hc p1.h ++ ([(.int .u64 p1.t)] : List Value)
abbrev Z5S (p0 : Int) (p1 : Int) (p2 : Int) (p3 : Nat) (p4 : Nat) (p5 : Nat) (p6 : Nat) : List Value := ([(.int .i64 p0), (.int .i64 p1), (.int .i64 p2), (pt p3 0), (.slice (some ⟨p4, 0, none⟩) p5 p6)] : List Value)
abbrev Z5T (p0 : Nat) : List Value := ([(.map (some p0))] : List Value)
abbrev Z5U (p0 : Nat) (p1 : List Z4) : Ck := ZI p0 ZK (Value.int .i64) (ZU p1)
abbrev Z9y (p0 : Int) (p1 : Int) (p2 : Int) (p3 : Z0) (p4 : Zk) (p5 : Zk) (p6 : Int) (p7 : Int) (p8 : Int) (p9 : Int) (p10 : Int) (p11 : Int) (p12 : Int) (p13 : Int) (p14 : Int) (p15 : Option Addr) (p16 : Nat) (p17 : Nat) (p18 : Option Addr) (p19 : Nat) (p20 : Nat) (p21 : Option Addr) (p22 : Nat) (p23 : Nat) (p24 : Int) (p25 : Int) (p26 : Int) (p27 : Int) (p28 : Int) (p29 : Int) (p30 : Z1e) (p31 : Int) (p32 : Int) (p33 : Int) (p34 : EntD) (p35 : Z2H) (p36 : Value) (p37 : Int) (p38 : Int) (p39 : Int) (p40 : Int) (p41 : Option Addr) (p42 : Nat) (p43 : Nat) (p44 : Option Addr) (p45 : Nat) (p46 : Nat) (p47 : Option Addr) (p48 : Nat) (p49 : Nat) (p50 : Option Addr) (p51 : Nat) (p52 : Nat) (p53 : CeR) (p54 : PrR) (p55 : OpR) : List Value := ([(.int .i64 p0), (.int .i64 p1), (.int .i64 p2), (.int .i64 p3.cl), (.int .i64 p3.seq)] : List Value) ++ hc p3.h ++ ([(.int .i64 p3.len), (.int .i64 p3.sb), (.int .i64 p3.sm), (.int .i64 p4.r), (.int .i64 p4.cl), (.int .i64 p4.seq)] : List Value) ++ hc p4.h ++ ([(.int .u64 p4.t), (.int .i64 p4.sb), (.int .i64 p4.sm), (.int .i64 p53.x.cl), (.int .i64 p53.x.seq)] : List Value) ++ hc p53.x.h ++ ([(.int .i64 p53.x.len), (.int .i64 p53.x.sb), (.int .i64 p53.x.sm), (.slice p53.sa p53.S.length p53.sc), (.int .i64 p5.r), (.int .i64 p5.cl), (.int .i64 p5.seq)] : List Value) ++ hc p5.h ++ ([(.int .u64 p5.t), (.int .i64 p5.sb), (.int .i64 p5.sm), (.int .i64 p6), (.int .i64 p7), (.int .u64 p8), (.int .i64 p54.r), (.int .i64 p54.e), (.int .u64 p54.f), (.slice p54.ca p54.C.length p54.cc), (.int .i64 p54.sb), (.int .i64 p54.sm), (.int .i64 p9), (.int .i64 p10), (.int .i64 p11), (.int .i64 p12), (.int .i64 p13), (.int .u64 p14), (.slice p15 p16 p17), (.slice p18 p19 p20), (.slice p21 p22 p23), (.int .i64 p24), (.int .i64 p25), (.int .i64 p26)] : List Value) ++ ([(.int .i64 p27), (.int .i64 p28), (.int .i64 p29)] : List Value) ++ hc p30 ++ ([(.int .i64 p31), (.int .i64 p32), (.int .i64 p33), (.int .i64 p34.cl), (.int .i64 p34.sq)] : List Value) ++ hc p34.h ++ ([(.int .u64 p34.t), (.int .i64 p55.i), (.slice p55.pa p55.P.length p55.pc)] : List Value) ++ hc p55.h ++ ([(.int .i64 p35.r), (.int .i64 p35.i), (.int .i64 p35.sb), (.int .i64 p35.sm), p36, (.int .i64 p37), (.int .i64 p38), (.int .i64 p39), (.int .u64 p40), (.slice p41 p42 p43), (.slice p44 p45 p46), (.slice p47 p48 p49), (.slice p50 p51 p52)] : List Value)
abbrev Z9z (p0 : EntD) : List Value := ([(.int .i64 p0.cl), (.int .i64 p0.sq)] : List Value) ++ hc p0.h ++ ([(.int .u64 p0.t)] : List Value)
theorem Z8Y (fv : Value) (w : World) : Calls Tryz.prog 64 #[.slice none 0 0, fv] w fun e w' => e = .returned (.int .i64 (-1)) ∧ w' = w := by
 go_enter Tryz.func64, Tryz.ntmps64
 go_wp2
 go_loopg [5, 8] 0 (fun _ _ s8 wr => s8 = .int .i64 0 ∧ wr = w)
 case atStart => exact ⟨rfl, rfl⟩
 case round =>
  obtain ⟨rfl, rfl⟩ := hrel
  go_wp2
  go_ret
  exact ⟨rfl, rfl⟩
theorem Z8n (fv : Value) (w : World) : Calls Tryz.prog 64 #[.slice none 0 0, fv] w fun e w' => e = .returned (.int .i64 (-1)) ∧ Upd [] w w' := (Z8Y fv w).mono fun _ _ h => ⟨h.1, h.2 ▸ Upd.refl _ _⟩
theorem Z49 (w : World) (c bb : Nat) (F Cn id : Int) (hcl : (Z3 c 112 [.int .i64 F, .int .i64 Cn, .int .i64 id, .pointer (some ⟨bb, 0, none⟩), .slice none 0 0]).ok w) (sq : Int) :
  Calls Tryz.prog 41 #[(.pointer (some ⟨c, 0, none⟩)), (.int .i64 (sq))] w fun e w' => e = .returned (.pointer none) ∧ Upd [] w w' := by
 have H := Sat.start0 w
 refine Zg Tryz.func41 rfl 23 rfl (Nat.le_of_ble_eq_true rfl) ?_
 apply zsl
 refine wv 4 (.pointer none) ?_
 apply znt
 apply Zf
 apply zsl
 refine wv 5 (.int .i64 (sq)) ?_
 refine wv 6 (.bool (decide (sq < 1))) ?_
 refine wv 7 (.bool (decide (sq < 1))) ?_
 refine (ZC (decide (sq < 1))).elim (fun b1 => ?_) (fun b1 => ?_)
 ·have g2 := of_decide_eq_true b1
  refine ZP 7 (.bool true) (congrArg Value.bool b1) ?_
  iterate 7 refine wn 2 7 false ?_
  refine wv 15 (.bool true) ?_
  apply znt
  refine Z0R rfl ?_
  apply zsl
  refine wv 4 (.pointer none) ?_
  apply znt
  apply Zz
  apply ZY
  refine ze1 (.pointer none) ?_
  exact ⟨rfl, H.upd 0 rfl [] (fun _ h => h.elim)⟩
 have g4 := of_decide_eq_false b1
 refine ZP 7 (.bool false) (congrArg Value.bool b1) ?_
 refine wy 2 7 false 8 (.int .i64 (sq)) ?_
 refine wy 2 7 false 9 (pt c 0) ?_
 refine wy 2 7 false 10 (pt c 0) ?_
 refine wy 2 7 false 11 (pt c 4) ?_
 refine wy 2 7 false 12 (.slice none 0 0) ?_ (hr := Zi rfl (by kernel_rfl) (H.roCell 0 rfl hcl (fun h => h) rfl))
 refine wy 2 7 false 13 (.int .i64 (0)) ?_
 refine wy 2 7 false 14 (.bool (decide (sq > 0))) ?_
 refine wv 15 (.bool (decide (sq > 0))) ?_
 apply znt
 have b6 : (decide (sq > 0)) = true := by exact decide_eq_true (by omega)
 have g7 := of_decide_eq_true b6
 refine Z1q _ b6 ?_
 apply zsl
 refine wv 4 (.pointer none) ?_
 apply znt
 apply Zz
 apply ZY
 refine ze1 (.pointer none) ?_
 exact ⟨rfl, H.upd 0 rfl [] (fun _ h => h.elim)⟩
theorem Z2h (w : World) (c bb : Nat) (F Cn id : Int) (hcl : (Z3 c 112 [.int .i64 F, .int .i64 Cn, .int .i64 id, .pointer (some ⟨bb, 0, none⟩), .slice none 0 0]).ok w) (cl sq : Int) (h : Z1e) :
  Calls Tryz.prog 56 #[(.pointer (some ⟨c, 0, none⟩)), (.agg ⟨([(.int .i64 (cl)), (.int .i64 (sq))] : List Value)⟩), (.agg ⟨(hc h)⟩)] w fun e w' => e = .returned (.pointer none) ∧ Upd [] w w' := by
 have H := Sat.start0 w
 refine Zg Tryz.func56 rfl 33 rfl (Nat.le_of_ble_eq_true rfl) ?_
 apply zsl
 refine zwd fun Kq kq => ?_
 refine zdb (Z2s cl sq) H ?_
 intro b2 w3 H4
 refine kq _ _ ?_
 clear kq Kq
 refine zwd fun Kq kq => ?_
 refine zdb (hc h) H4 ?_
 intro b6 w7 H8
 refine kq _ _ ?_
 clear kq Kq
 refine wv 6 (.pointer none) ?_
 apply Z0N
 refine wv 8 (pt c 0) ?_
 refine wv 9 (pt b2 1) ?_
 refine zw1 10 (.int .i64 (sq)) (H8.cell 1 rfl rfl) ?_
 refine zwd fun Kq kq => ?_
 refine zdq 11 (Z49 w7 c bb F Cn id (H8.roCk 0 rfl hcl (fun _ _ h => h)) sq) H8 ?_
 intro w10 H11
 refine kq _ _ ?_
 clear kq Kq
 refine wv 7 (.pointer none) ?_
 apply znt
 apply Zf
 apply Zf
 refine zqs H11 ?_
 refine qv 12 (.pointer none) ?_
 refine qv 13 (.bool true) ?_
 refine qv 14 (.bool true) ?_
 iterate 7 refine qn 2 14 false ?_
 refine qv 22 (.bool true) ?_
 refine qv 23 (.bool true) ?_
 iterate 7 refine qn 11 23 false ?_
 refine qv 31 (.bool true) ?_
 refine Z1A ?_
 intro w13 H14
 apply ztn
 refine Z0R rfl ?_
 apply zsl
 refine wv 6 (.pointer none) ?_
 apply znt
 apply Zz
 apply ZY
 refine ze1 (.pointer none) ?_
 exact ⟨rfl, H14.upd 0 rfl [] (fun _ h => h.elim)⟩
theorem Z6l (w : World) (c bb : Nat) (F Cn id : Int) (hcl : (Z3 c 112 [.int .i64 F, .int .i64 Cn, .int .i64 id, .pointer (some ⟨bb, 0, none⟩), .slice none 0 0]).ok w) (sq : Int) :
  Calls Tryz.prog 18 #[(.pointer (some ⟨c, 0, none⟩)), (.int .i64 (sq))] w fun e w' => e = .returned (.slice none 0 0) ∧ Upd [] w w' := by
 have H := Sat.start0 w
 refine Zg Tryz.func18 rfl 16 rfl (Nat.le_of_ble_eq_true rfl) ?_
 apply zsl
 refine wv 4 (.slice none 0 0) ?_
 apply Z0N
 refine wv 6 (pt c 0) ?_
 refine wv 7 (.int .i64 (sq)) ?_
 refine zwd fun Kq kq => ?_
 refine zdq 8 (Z49 w c bb F Cn id (H.roCk 0 rfl hcl (fun _ _ h => h)) sq) H ?_
 intro w2 H3
 refine kq _ _ ?_
 clear kq Kq
 refine wv 5 (.pointer none) ?_
 apply znt
 apply Zf
 apply zsl
 refine wv 9 (.pointer none) ?_
 refine wv 10 (.bool true) ?_
 apply znt
 refine Z0R rfl ?_
 apply zsl
 refine wv 4 (.slice none 0 0) ?_
 apply znt
 apply Zz
 apply ZY
 refine ze1 (.slice none 0 0) ?_
 exact ⟨rfl, H3.upd 0 rfl [] (fun _ h => h.elim)⟩
theorem Z5E (w : World) (c bb : Nat) (F Cn id : Int) (hcl : (Z3 c 112 [.int .i64 F, .int .i64 Cn, .int .i64 id, .pointer (some ⟨bb, 0, none⟩), .slice none 0 0]).ok w) (fr : Int) (s : Zk) :
  Calls Tryz.prog 37 #[(.pointer (some ⟨c, 0, none⟩)), (.int .i64 (fr)), (.agg ⟨(([(.int .i64 (s.r)), (.int .i64 (s.cl)), (.int .i64 (s.seq))] : List Value) ++ hc s.h ++ ([(.int .u64 (s.t)), (.int .i64 (s.sb)), (.int .i64 (s.sm))] : List Value))⟩)] w fun e w' => e = .returned (.slice none 0 0) ∧ Upd [] w w' := by
 have H := Sat.start0 w
 refine Zg Tryz.func37 rfl 120 rfl (Nat.le_of_ble_eq_true rfl) ?_
 apply zsl
 refine zwd fun Kq kq => ?_
 refine zdb (Z2t s) H ?_
 intro b2 w3 H4
 refine kq _ _ ?_
 clear kq Kq
 refine wv 6 (.slice none 0 0) ?_
 apply Z0N
 refine wv 15 (pt c 0) ?_
 refine wv 16 (pt b2 1) ?_
 refine zwN 17 (Z2s s.cl s.seq) (H4.at 1 rfl) ?_
 refine wv 18 (pt b2 3) ?_
 refine zwN 19 (hc s.h) (H4.at 1 rfl) ?_
 refine zwd fun Kq kq => ?_
 refine zdq 20 (Z2h w3 c bb F Cn id (H4.roCk 0 rfl hcl (fun _ _ h => h)) s.cl s.seq s.h) H4 ?_
 intro w6 H7
 refine kq _ _ ?_
 clear kq Kq
 refine wv 7 (.pointer none) ?_
 apply znt
 apply Zf
 apply Zf
 refine Z0b H7 [Z7 w (fun _ => False), Z3 b2 49 (Z2t s)] 21 rfl (by kernel_rfl) (fun Hx => (Hx.pk [0, 1])) ?_
 intro w9 H10 S11
 refine hv0 0 S11 21 (.pointer none) ?_
 refine hv0 1 S11 22 (.bool true) ?_
 refine hv0 2 S11 23 (.bool true) ?_
 refine ZQ 3 S11 2 23 false ?_
 refine ZQ 4 S11 2 23 false ?_
 refine ZQ 5 S11 2 23 false ?_
 refine ZQ 6 S11 2 23 false ?_
 refine hv0 7 S11 28 (.bool true) ?_
 refine hv0 8 S11 29 (.bool true) ?_
 refine ZQ 9 S11 8 29 false ?_
 refine ZQ 10 S11 8 29 false ?_
 refine ZQ 11 S11 8 29 false ?_
 refine ZQ 12 S11 8 29 false ?_
 refine ZQ 13 S11 8 29 false ?_
 refine ZQ 14 S11 8 29 false ?_
 refine ZQ 15 S11 8 29 false ?_
 refine ZQ 16 S11 8 29 false ?_
 refine ZQ 17 S11 8 29 false ?_
 refine ZQ 18 S11 8 29 false ?_
 refine ZQ 19 S11 8 29 false ?_
 refine hv0 20 S11 41 (.bool true) ?_
 refine zhf ?_
 apply ztn
 refine Z0R rfl ?_
 apply zsl
 refine wv 6 (.slice none 0 0) ?_
 apply znt
 apply Zz
 apply ZY
 refine ze1 (.slice none 0 0) ?_
 exact ⟨rfl, H10.upd 0 rfl [] (fun _ h => h.elim)⟩
theorem Z5y (w : World) (c bb : Nat) (F Cn id : Int) (hcl : (Z3 c 112 [.int .i64 F, .int .i64 Cn, .int .i64 id, .pointer (some ⟨bb, 0, none⟩), .slice none 0 0]).ok w) (fr : Int) (x : RcD) :
  Calls Tryz.prog 39 #[(.pointer (some ⟨c, 0, none⟩)), (.int .i64 (fr)), (.agg ⟨(([(.int .i64 (x.i)), (.int .i64 (x.e.cl)), (.int .i64 (x.e.sq))] : List Value) ++ hc x.e.h ++ ([(.int .u64 (x.e.t))] : List Value))⟩)] w fun e w' => e = .returned (.slice none 0 0) ∧ Upd [] w w' := by
 have H := Sat.start0 w
 refine Zg Tryz.func39 rfl 102 rfl (Nat.le_of_ble_eq_true rfl) ?_
 apply zsl
 refine zwd fun Kq kq => ?_
 refine zdb (Z7t x.i x.e) H ?_
 intro b2 w3 H4
 refine kq _ _ ?_
 clear kq Kq
 refine wv 6 (.slice none 0 0) ?_
 apply Z0N
 refine wv 13 (pt c 0) ?_
 refine wv 14 (pt b2 1) ?_
 refine wv 15 (pt b2 1) ?_
 refine zwN 16 (Z2s x.e.cl x.e.sq) (H4.at 1 rfl) ?_
 refine wv 17 (pt b2 1) ?_
 refine wv 18 (pt b2 3) ?_
 refine zwN 19 (hc x.e.h) (H4.at 1 rfl) ?_
 refine zwd fun Kq kq => ?_
 refine zdc 20 (Z2h w3 c bb F Cn id (H4.roCk 0 rfl hcl (fun _ _ h => h)) x.e.cl x.e.sq x.e.h) ?_
 rintro _ w6 ⟨rfl, u8⟩
 have H7 := H4.keepU u8
 refine ⟨_, rfl, ?_⟩
 refine kq _ _ ?_
 clear kq Kq
 refine wv 7 (.pointer none) ?_
 apply znt
 apply Zf
 apply zsl
 refine wv 21 (.pointer none) ?_
 refine wv 22 (.bool true) ?_
 apply znt
 refine Z0R rfl ?_
 apply zsl
 refine wv 6 (.slice none 0 0) ?_
 apply znt
 apply Zz
 apply ZY
 refine ze1 (.slice none 0 0) ?_
 exact ⟨rfl, H7.upd 0 rfl [] (fun _ h => h.elim)⟩
theorem Z5v (w : World) (c bb : Nat) (F Cn id : Int) (hcl : (Z3 c 112 [.int .i64 F, .int .i64 Cn, .int .i64 id, .pointer (some ⟨bb, 0, none⟩), .slice none 0 0]).ok w) (fr : Int) (s : Zk) :
  Calls Tryz.prog 38 #[(.pointer (some ⟨c, 0, none⟩)), (.int .i64 (fr)), (.agg ⟨(([(.int .i64 (s.r)), (.int .i64 (s.cl)), (.int .i64 (s.seq))] : List Value) ++ hc s.h ++ ([(.int .u64 (s.t)), (.int .i64 (s.sb)), (.int .i64 (s.sm))] : List Value))⟩)] w fun e w' => e = .returned (.tuple #[]) ∧ Upd [] w w' := by
 have H := Sat.start0 w
 refine Zg Tryz.func38 rfl 57 rfl (Nat.le_of_ble_eq_true rfl) ?_
 apply zsl
 refine zwd fun Kq kq => ?_
 refine zdb (Z2t s) H ?_
 intro b2 w3 H4
 refine kq _ _ ?_
 clear kq Kq
 apply Z0N
 refine wv 7 (pt c 0) ?_
 refine wv 8 (pt b2 1) ?_
 refine zwN 9 (Z2s s.cl s.seq) (H4.at 1 rfl) ?_
 refine wv 10 (pt b2 3) ?_
 refine zwN 11 (hc s.h) (H4.at 1 rfl) ?_
 refine zwd fun Kq kq => ?_
 refine zdq 12 (Z2h w3 c bb F Cn id (H4.roCk 0 rfl hcl (fun _ _ h => h)) s.cl s.seq s.h) H4 ?_
 intro w6 H7
 refine kq _ _ ?_
 clear kq Kq
 refine wv 6 (.pointer none) ?_
 apply znt
 apply Zf
 refine Z0b H7 [Z7 w (fun _ => False), Z3 b2 59 (Z2t s)] 39 rfl (by kernel_rfl) (fun Hx => (Hx.pk [0, 1])) ?_
 intro w9 H10 S11
 refine hv0 0 S11 13 (.pointer none) ?_
 refine hv0 1 S11 14 (.bool false) ?_
 refine hv0 2 S11 15 (.bool false) ?_
 refine ZQ 3 S11 2 15 true ?_
 refine ZQ 4 S11 2 15 true ?_
 refine ZQ 5 S11 2 15 true ?_
 refine ZQ 6 S11 2 15 true ?_
 refine ZQ 7 S11 2 15 true ?_
 refine hv0 8 S11 21 (.bool false) ?_
 refine hv0 9 S11 22 (.bool false) ?_
 refine ZQ 10 S11 9 22 true ?_
 refine ZQ 11 S11 9 22 true ?_
 refine ZQ 12 S11 9 22 true ?_
 refine ZQ 13 S11 9 22 true ?_
 refine hv0 14 S11 27 (.bool false) ?_
 refine hv0 15 S11 28 (.bool false) ?_
 refine ZQ 16 S11 15 28 true ?_
 refine ZQ 17 S11 15 28 true ?_
 refine ZQ 18 S11 15 28 true ?_
 refine ZQ 19 S11 15 28 true ?_
 refine ZQ 20 S11 15 28 true ?_
 refine ZQ 21 S11 15 28 true ?_
 refine ZQ 22 S11 15 28 true ?_
 refine ZQ 23 S11 15 28 true ?_
 refine ZQ 24 S11 15 28 true ?_
 refine ZQ 25 S11 15 28 true ?_
 refine hv0 26 S11 39 (.bool false) ?_
 refine hv0 27 S11 40 (.bool false) ?_
 refine ZQ 28 S11 27 40 true ?_
 refine ZQ 29 S11 27 40 true ?_
 refine ZQ 30 S11 27 40 true ?_
 refine ZQ 31 S11 27 40 true ?_
 refine ZQ 32 S11 27 40 true ?_
 refine ZQ 33 S11 27 40 true ?_
 refine ZQ 34 S11 27 40 true ?_
 refine ZQ 35 S11 27 40 true ?_
 refine ZQ 36 S11 27 40 true ?_
 refine ZQ 37 S11 27 40 true ?_
 refine hv0 38 S11 51 (.bool false) ?_
 refine zhf ?_
 apply ztn
 refine Z0y rfl ?_
 apply ZF
 refine Z0D ?_
 refine Z7a rfl  ?_
 exact ⟨rfl, H10.upd 0 rfl [] (fun _ h => h.elim)⟩
theorem Z5C (w : World) (c bb : Nat) (F Cn id : Int) (hcl : (Z3 c 112 [.int .i64 F, .int .i64 Cn, .int .i64 id, .pointer (some ⟨bb, 0, none⟩), .slice none 0 0]).ok w) (fr ix : Int) (tx : List UInt8) :
  Calls Tryz.prog 40 #[(.pointer (some ⟨c, 0, none⟩)), (.int .i64 (fr)), (.int .i64 (ix)), (ZD tx)] w fun e w' => e = .returned (.tuple #[]) ∧ Upd [] w w' := by
 have H := Sat.start0 w
 refine Zg Tryz.func40 rfl 92 rfl (Nat.le_of_ble_eq_true rfl) ?_
 apply zsl
 refine zwd fun Kq kq => ?_
 refine zdb ([(.int .i64 (ix))] : List Value) H ?_
 intro b2 w3 H4
 refine kq _ _ ?_
 clear kq Kq
 apply Z0N
 refine wv 15 (pt c 0) ?_
 refine wv 16 (pt c 0) ?_
 refine wv 17 (pt c 4) ?_
 refine zw1 18 (.slice none 0 0) (H4.roCell 0 rfl hcl (fun h => h) rfl) ?_
 refine wv 19 (.func (.func 65) #[] #[(pt b2 0)]) ?_
 refine zwd fun Kq kq => ?_
 refine zdq 20 (Z8n (.func (.func 65) #[] #[(pt b2 0)]) w3) H4 ?_
 intro w6 H7
 refine kq _ _ ?_
 clear kq Kq
 refine wv 8 (.int .i64 (-1)) ?_
 apply znt
 apply Zf
 apply zsl
 refine wv 21 (.int .i64 (-1)) ?_
 refine wv 22 (.bool true) ?_
 apply znt
 refine Z0R rfl ?_
 apply Zz
 apply ZY
 refine Z7a rfl  ?_
 exact ⟨rfl, H7.upd 0 rfl [] (fun _ h => h.elim)⟩
theorem Z7i (w : World) (c bb mb g lc : Nat) (F Cn id : Int) (Q : List Zq) (Z : List (Zq × RqM)) (L : List Z4) (Bz : List Ck) (N : Nat) (hA : (ZL [Z3 c 112 [.int .i64 F, .int .i64 Cn, .int .i64 id, .pointer (some ⟨bb, 0, none⟩), .slice (some ⟨g, 0, none⟩) Q.length lc], Zc 119 79 (.slice (some ⟨g, 0, none⟩) Q.length lc) Q.length (Q.flatMap Zh), Z1j rqP Z, Z0j Bz, Z3 bb 108 [.map (some mb)], ZI mb ZK (Value.int .i64) (ZU L)]).ok w) (hlQ : Q.length ≤ 64) (hI : InvZ F id Bz N Q Z) (hN : N ≤ 900) (hF : 1 ≤ F ∧ F ≤ 3) (hid : 0 ≤ id ∧ id ≤ 1000000) (m : MsR) (hto : m.to = 1000 + id) (hin : inB F m.fr = true) (hst : Z3V m.st) (hak : Z3V m.ak) :
  Calls Tryz.prog 16 #[(.pointer (some ⟨c, 0, none⟩)), (.agg ⟨(([(.int .i64 (m.k)), (.int .i64 (m.fr)), (.int .i64 (m.to)), (.int .i64 (m.co.cl)), (.int .i64 (m.co.seq))] : List Value) ++ hc m.co.h ++ ([(.int .i64 (m.co.len)), (.int .i64 (m.co.sb)), (.int .i64 (m.co.sm)), (.int .i64 (m.st.r)), (.int .i64 (m.st.cl)), (.int .i64 (m.st.seq))] : List Value) ++ hc m.st.h ++ ([(.int .u64 (m.st.t)), (.int .i64 (m.st.sb)), (.int .i64 (m.st.sm)), (.int .i64 (m.cx.x.cl)), (.int .i64 (m.cx.x.seq))] : List Value) ++ hc m.cx.x.h ++ ([(.int .i64 (m.cx.x.len)), (.int .i64 (m.cx.x.sb)), (.int .i64 (m.cx.x.sm)), ((.slice m.cx.sa m.cx.S.length m.cx.sc)), (.int .i64 (m.ak.r)), (.int .i64 (m.ak.cl)), (.int .i64 (m.ak.seq))] : List Value) ++ hc m.ak.h ++ ([(.int .u64 (m.ak.t)), (.int .i64 (m.ak.sb)), (.int .i64 (m.ak.sm)), (.int .i64 (m.ep)), (.int .i64 (m.rd)), (.int .u64 (m.tm)), (.int .i64 (m.pr.r)), (.int .i64 (m.pr.e)), (.int .u64 (m.pr.f)), ((.slice m.pr.ca m.pr.C.length m.pr.cc)), (.int .i64 (m.pr.sb)), (.int .i64 (m.pr.sm)), (.int .i64 (m.qe)), (.int .i64 (m.qd)), (.int .i64 (m.qv)), (.int .i64 (m.qr)), (.int .i64 (m.qb.e)), (.int .u64 (m.qb.t)), ((.slice m.qb.pa m.qb.P.length m.qb.pc)), ((.slice m.qb.oa m.qb.O.length m.qb.oc)), ((.slice m.qb.ta m.qb.T.length m.qb.tc)), (.int .i64 (m.qsb)), (.int .i64 (m.qsm)), (.int .i64 (m.vo.k))] : List Value) ++ ([(.int .i64 (m.vo.e)), (.int .i64 (m.vo.d)), (.int .i64 (m.vo.r))] : List Value) ++ hc m.vo.h ++ ([(.int .i64 (m.vo.sb)), (.int .i64 (m.vo.sm)), (.int .i64 (m.ix)), (.int .i64 (m.en.cl)), (.int .i64 (m.en.sq))] : List Value) ++ hc m.en.h ++ ([(.int .u64 (m.en.t)), (.int .i64 (m.op.i)), ((.slice m.op.pa m.op.P.length m.op.pc))] : List Value) ++ hc m.op.h ++ ([(.int .i64 (m.dn.r)), (.int .i64 (m.dn.i)), (.int .i64 (m.dn.sb)), (.int .i64 (m.dn.sm)), (ZD m.re), (.int .i64 (m.de)), (.int .i64 (m.dd)), (.int .i64 (m.db.e)), (.int .u64 (m.db.t)), ((.slice m.db.pa m.db.P.length m.db.pc)), ((.slice m.db.oa m.db.O.length m.db.oc)), ((.slice m.db.ta m.db.T.length m.db.tc)), ((.slice m.va m.V.length m.vc))] : List Value))⟩)] w fun e w' => ∃ (da : Option Addr) (dc : Nat) (D : List OmR), e = .returned (.slice da D.length dc) ∧ TkS w w' c bb mb g lc F Cn id Q Z L Bz N da dc D := by
 have H := Sat.start _ hA
 refine Zg Tryz.func16 rfl 62 rfl (Nat.le_of_ble_eq_true rfl) ?_
 apply zsl
 refine zwd fun Kq kq => ?_
 refine zdb (Z9y m.k m.fr m.to m.co m.st m.ak m.ep m.rd m.tm m.qe m.qd m.qv m.qr m.qb.e m.qb.t m.qb.pa m.qb.P.length m.qb.pc m.qb.oa m.qb.O.length m.qb.oc m.qb.ta m.qb.T.length m.qb.tc m.qsb m.qsm m.vo.k m.vo.e m.vo.d m.vo.r m.vo.h m.vo.sb m.vo.sm m.ix m.en m.dn (ZD m.re) m.de m.dd m.db.e m.db.t m.db.pa m.db.P.length m.db.pc m.db.oa m.db.O.length m.db.oc m.db.ta m.db.T.length m.db.tc m.va m.V.length m.vc m.cx m.pr m.op) H ?_
 intro b2 w3 H4
 refine kq _ _ ?_
 clear kq Kq
 refine wv 4 (.slice none 0 0) ?_
 apply znt
 apply Zf
 apply Zf
 refine zqs H4 ?_
 refine qv 5 (pt b2 2) ?_
 refine qv 6 (.int .i64 (m.to)) ?_ (hr := fun _ H' => (Zi rfl (by kernel_rfl) (H'.cell 7 rfl (by kernel_rfl))))
 refine qv 7 (pt c 0) ?_
 refine qv 8 (pt c 0) ?_
 refine qv 9 (pt c 2) ?_
 refine qv 10 (.int .i64 (id)) ?_ (hr := fun _ H' => (Zi rfl (by kernel_rfl) (H'.cell 0 rfl rfl)))
 refine qv 11 (.int .i64 (1000 + id)) ?_ (hr := fun _ H' => (Z0I (z := 1000 + id) (by kernel_rfl) (IntWalk.i64_in _ (by omega))))
 refine qv 12 (.bool (!(decide (m.to = (1000 + id))))) ?_
 refine qv 13 (.bool (!(decide (m.to = (1000 + id))))) ?_
 have b5 : (!(decide (m.to = (1000 + id)))) = false := by rw [decide_eq_true hto]; rfl
 refine Z17 13 (.bool false) (congrArg Value.bool b5) ?_
 have g6 := Z03 b5
 have g7 := of_decide_eq_true g6
 refine qy 8 13 false 14 (pt c 0) ?_
 refine qy 8 13 false 15 (pt c 0) ?_
 refine qy 8 13 false 16 (pt c 0) ?_
 refine qy 8 13 false 17 (.agg ⟨(Z2s F Cn)⟩) ?_ (hr := fun _ H' => (ZG (vs := (Z2s F Cn)) rfl (by kernel_rfl) (by kernel_rfl) (by exact Nat.le_of_ble_eq_true (by kernel_rfl)) (H'.at 0 rfl) (by kernel_rfl)))
 refine qy 8 13 false 18 (pt b2 1) ?_
 refine qy 8 13 false 19 (.int .i64 (m.fr)) ?_ (hr := fun _ H' => (Zi rfl (by kernel_rfl) (H'.cell 7 rfl (by kernel_rfl))))
 refine Z4s (Z0k 8 13 false rfl (by kernel_rfl) rfl (by kernel_rfl)) (d := 20) (v := (.bool (inB F m.fr))) rfl (fun _ _ => by kernel_rfl) (fun w' H' => (Z6c w' F Cn m.fr (by omega)).mono fun _ _ h => ⟨h.1, H'.keepU h.2⟩) ?_
 refine qy 8 13 false 21 (.bool (!(inB F m.fr))) ?_
 refine qv 22 (.bool (!(inB F m.fr))) ?_
 refine Z1A ?_
 intro w8 H9
 apply ztn
 have b10 : (!(inB F m.fr)) = false := by rw [hin]; rfl
 have g11 := Z03 b10
 refine Z1a _ b10 ?_
 apply ZF
 apply ztn
 apply Zf
 apply zsl
 refine wv 23 (pt b2 0) ?_
 refine zw1 24 (.int .i64 (m.k)) (H9.cell 7 rfl (by kernel_rfl)) ?_
 apply znt
 apply ZA
 apply zsl
 refine wv 26 (.bool (decide (m.k = 2))) ?_
 refine wv 25 (.bool (decide (m.k = 2))) ?_
 apply znt
 refine (ZC (decide (m.k = 2))).elim (fun b12 => ?_) (fun b12 => ?_)
 ·have g13 := of_decide_eq_true b12
  refine Z1q _ b12 ?_
  apply zsl
  refine wv 27 (pt c 0) ?_
  refine wv 28 (pt b2 1) ?_
  refine zw1 29 (.int .i64 (m.fr)) (H9.cell 7 rfl (by kernel_rfl)) ?_
  refine wv 30 (pt b2 40) ?_
  refine zwN 31 (Z2t m.st) (H9.at 7 rfl) ?_
  refine zwd fun Kq kq => ?_
  refine zdc 32 (Z5F w8 c bb mb g lc F Cn id Q Z L Bz N (H9.fn [0, 1, 2, 3, 4, 5]) hlQ hI hN hF hid m.fr m.st hst) ?_
  rintro _ w16 ⟨da, dc, D, rfl, Q2, Z2, B2, hOut, hInv, hlen, hsb, T17⟩
  have H18 := H9.tl [Z3 c 112 (Z5S F Cn id bb g Q.length lc), Zc 119 79 (.slice (some ⟨g, 0, none⟩) Q.length lc) Q.length (Q2.flatMap Zh), Z1j rqP Z2, Z0j B2, Z3 bb 108 (Z5T mb), (Z5U mb L), Zc 82 295 (.slice da D.length dc) D.length (D.flatMap Z0d)] [0, 1, 2, 3, 4, 5] [6, 7] T17 [0, 1, 2, 3, 4, 5, 7, 8, 6]
  refine ⟨_, rfl, ?_⟩
  refine kq _ _ ?_
  clear kq Kq
  refine wv 4 (.slice da D.length dc) ?_
  apply znt
  apply Zz
  apply Z27
  apply ZY
  refine ze1 (.slice da D.length dc) ?_
  exact ⟨da, dc, D, rfl, Q2, Z2, B2, hOut, hInv, hlen, hsb, H18.pk [0, 1, 2, 3, 4, 5, 8, 6]⟩
 have g19 := of_decide_eq_false b12
 refine Z1a _ b12 ?_
 apply zsl
 refine wv 34 (.bool (decide (m.k = 4))) ?_
 refine wv 33 (.bool (decide (m.k = 4))) ?_
 apply znt
 refine (ZC (decide (m.k = 4))).elim (fun b21 => ?_) (fun b21 => ?_)
 ·have g22 := of_decide_eq_true b21
  refine Z1q _ b21 ?_
  apply Zt
  refine wv 35 (pt c 0) ?_
  refine wv 36 (pt b2 1) ?_
  refine zw1 37 (.int .i64 (m.fr)) (H9.cell 7 rfl (by kernel_rfl)) ?_
  refine wv 38 (pt b2 116) ?_
  refine zwN 39 (Z2t m.ak) (H9.at 7 rfl) ?_
  refine zwd fun Kq kq => ?_
  refine zdc 40 (Z5w w8 c bb mb g lc F Cn id Q Z L Bz N (H9.fn [0, 1, 2, 3, 4, 5]) hlQ hI hN hF hid m.fr m.ak hak) ?_
  rintro _ w25 ⟨rfl, Q2, Z2, B2, hOut, hInv, hlen, hsb, T26⟩
  have H27 := H9.tl [Z3 c 112 (Z5S F Cn id bb g Q.length lc), Zc 119 79 (.slice (some ⟨g, 0, none⟩) Q.length lc) Q.length (Q2.flatMap Zh), Z1j rqP Z2, Z0j B2, Z3 bb 108 (Z5T mb), (Z5U mb L), Zc 82 295 (.slice none (([] : List OmR).length) 0) (([] : List OmR).length) (([] : List OmR).flatMap Z0d)] [0, 1, 2, 3, 4, 5] [6, 7] T26 [0, 1, 2, 3, 4, 5, 7, 8, 6]
  refine ⟨_, rfl, ?_⟩
  refine kq _ _ ?_
  clear kq Kq
  apply Zu
  apply Zw
  apply ztn
  apply zsl
  refine wv 4 (.slice none 0 0) ?_
  apply znt
  apply Zz
  refine ze1 (.slice none 0 0) ?_
  exact ⟨none, 0, [], rfl, Q2, Z2, B2, hOut, hInv, hlen, hsb, H27.pk [0, 1, 2, 3, 4, 5, 8, 6]⟩
 have g28 := of_decide_eq_false b21
 refine Z1a _ b21 ?_
 apply zsl
 refine wv 42 (.bool (decide (m.k = 9))) ?_
 refine wv 41 (.bool (decide (m.k = 9))) ?_
 apply znt
 refine (ZC (decide (m.k = 9))).elim (fun b30 => ?_) (fun b30 => ?_)
 ·have g31 := of_decide_eq_true b30
  refine Z1q _ b30 ?_
  apply zsl
  refine wv 43 (pt c 0) ?_
  refine wv 44 (pt b2 1) ?_
  refine zw1 45 (.int .i64 (m.fr)) (H9.cell 7 rfl (by kernel_rfl)) ?_
  refine wv 46 (pt b2 212) ?_
  refine zw1 47 (.int .i64 (m.ix)) (H9.cell 7 rfl (by kernel_rfl)) ?_
  refine wv 48 (pt b2 213) ?_
  refine zwN 49 (Z9z m.en) (H9.at 7 rfl) ?_
  refine wv 50 (.agg ⟨(Z7t m.ix m.en)⟩) ?_
  refine zwd fun Kq kq => ?_
  refine zdc 51 (Z5z w8 c bb mb g lc F Cn id Q Z L Bz N (H9.fn [0, 1, 2, 3, 4, 5]) hlQ hI hN hF hid m.fr ⟨m.ix, m.en⟩) ?_
  rintro _ w34 ⟨da, dc, D, rfl, Q2, Z2, B2, hOut, hInv, hlen, hsb, T35⟩
  have H36 := H9.tl [Z3 c 112 (Z5S F Cn id bb g Q.length lc), Zc 119 79 (.slice (some ⟨g, 0, none⟩) Q.length lc) Q.length (Q2.flatMap Zh), Z1j rqP Z2, Z0j B2, Z3 bb 108 (Z5T mb), (Z5U mb L), Zc 82 295 (.slice da D.length dc) D.length (D.flatMap Z0d)] [0, 1, 2, 3, 4, 5] [6, 7] T35 [0, 1, 2, 3, 4, 5, 7, 8, 6]
  refine ⟨_, rfl, ?_⟩
  refine kq _ _ ?_
  clear kq Kq
  refine wv 4 (.slice da D.length dc) ?_
  apply znt
  apply Zz
  apply Z27
  apply ZY
  refine ze1 (.slice da D.length dc) ?_
  exact ⟨da, dc, D, rfl, Q2, Z2, B2, hOut, hInv, hlen, hsb, H36.pk [0, 1, 2, 3, 4, 5, 8, 6]⟩
 have g37 := of_decide_eq_false b30
 refine Z1a _ b30 ?_
 apply zsl
 refine wv 53 (.bool (decide (m.k = 13))) ?_
 refine wv 52 (.bool (decide (m.k = 13))) ?_
 apply znt
 refine (ZC (decide (m.k = 13))).elim (fun b39 => ?_) (fun b39 => ?_)
 ·have g40 := of_decide_eq_true b39
  refine Z1q _ b39 ?_
  apply Zt
  refine wv 54 (pt c 0) ?_
  refine wv 55 (pt b2 1) ?_
  refine zw1 56 (.int .i64 (m.fr)) (H9.cell 7 rfl (by kernel_rfl)) ?_
  refine wv 57 (pt b2 212) ?_
  refine zw1 58 (.int .i64 (m.ix)) (H9.cell 7 rfl (by kernel_rfl)) ?_
  refine wv 59 (pt b2 286) ?_
  refine zw1 60 (ZD m.re) (H9.cell 7 rfl (by kernel_rfl)) ?_
  refine zwd fun Kq kq => ?_
  refine zdc 61 (Z5D w8 c bb mb g lc F Cn id Q Z L Bz N (H9.fn [0, 1, 2, 3, 4, 5]) hlQ hI hN hF hid m.fr m.ix m.re) ?_
  rintro _ w43 ⟨rfl, Q2, Z2, B2, hOut, hInv, hlen, hsb, T44⟩
  have H45 := H9.tl [Z3 c 112 (Z5S F Cn id bb g Q.length lc), Zc 119 79 (.slice (some ⟨g, 0, none⟩) Q.length lc) Q.length (Q2.flatMap Zh), Z1j rqP Z2, Z0j B2, Z3 bb 108 (Z5T mb), (Z5U mb L), Zc 82 295 (.slice none (([] : List OmR).length) 0) (([] : List OmR).length) (([] : List OmR).flatMap Z0d)] [0, 1, 2, 3, 4, 5] [6, 7] T44 [0, 1, 2, 3, 4, 5, 7, 8, 6]
  refine ⟨_, rfl, ?_⟩
  refine kq _ _ ?_
  clear kq Kq
  apply Zu
  apply Zw
  apply ztn
  apply zsl
  refine wv 4 (.slice none 0 0) ?_
  apply znt
  apply Zz
  refine ze1 (.slice none 0 0) ?_
  exact ⟨none, 0, [], rfl, Q2, Z2, B2, hOut, hInv, hlen, hsb, H45.pk [0, 1, 2, 3, 4, 5, 8, 6]⟩
 have g46 := of_decide_eq_false b39
 refine Z1a _ b39 ?_
 apply ZF
 apply Zw
 apply ztn
 apply zsl
 refine wv 4 (.slice none 0 0) ?_
 apply znt
 apply Zz
 refine ze1 (.slice none 0 0) ?_
 have H48 := H9.addNil 82 295
 exact ⟨none, 0, [], rfl, Q, Z, Bz, OutG.nil, hI.more (fun _ h_ => h_) (Nat.le_succ N), rfl, (fun _ h_ => h_), H48.pk [0, 1, 2, 3, 4, 5, 8, 6]⟩
theorem Z7h (w : World) (c bb : Nat) (F Cn id : Int) (hcl : (Z3 c 112 [.int .i64 F, .int .i64 Cn, .int .i64 id, .pointer (some ⟨bb, 0, none⟩), .slice none 0 0]).ok w) (hF : 1 ≤ F ∧ F ≤ 3) (hid : 0 ≤ id ∧ id ≤ 1000000) (m : MsR) (hto : m.to = 1000 + id) (hin : inB F m.fr = true) (hst : Z3V m.st) (hak : Z3V m.ak) :
  Calls Tryz.prog 16 #[(.pointer (some ⟨c, 0, none⟩)), (.agg ⟨(([(.int .i64 (m.k)), (.int .i64 (m.fr)), (.int .i64 (m.to)), (.int .i64 (m.co.cl)), (.int .i64 (m.co.seq))] : List Value) ++ hc m.co.h ++ ([(.int .i64 (m.co.len)), (.int .i64 (m.co.sb)), (.int .i64 (m.co.sm)), (.int .i64 (m.st.r)), (.int .i64 (m.st.cl)), (.int .i64 (m.st.seq))] : List Value) ++ hc m.st.h ++ ([(.int .u64 (m.st.t)), (.int .i64 (m.st.sb)), (.int .i64 (m.st.sm)), (.int .i64 (m.cx.x.cl)), (.int .i64 (m.cx.x.seq))] : List Value) ++ hc m.cx.x.h ++ ([(.int .i64 (m.cx.x.len)), (.int .i64 (m.cx.x.sb)), (.int .i64 (m.cx.x.sm)), ((.slice m.cx.sa m.cx.S.length m.cx.sc)), (.int .i64 (m.ak.r)), (.int .i64 (m.ak.cl)), (.int .i64 (m.ak.seq))] : List Value) ++ hc m.ak.h ++ ([(.int .u64 (m.ak.t)), (.int .i64 (m.ak.sb)), (.int .i64 (m.ak.sm)), (.int .i64 (m.ep)), (.int .i64 (m.rd)), (.int .u64 (m.tm)), (.int .i64 (m.pr.r)), (.int .i64 (m.pr.e)), (.int .u64 (m.pr.f)), ((.slice m.pr.ca m.pr.C.length m.pr.cc)), (.int .i64 (m.pr.sb)), (.int .i64 (m.pr.sm)), (.int .i64 (m.qe)), (.int .i64 (m.qd)), (.int .i64 (m.qv)), (.int .i64 (m.qr)), (.int .i64 (m.qb.e)), (.int .u64 (m.qb.t)), ((.slice m.qb.pa m.qb.P.length m.qb.pc)), ((.slice m.qb.oa m.qb.O.length m.qb.oc)), ((.slice m.qb.ta m.qb.T.length m.qb.tc)), (.int .i64 (m.qsb)), (.int .i64 (m.qsm)), (.int .i64 (m.vo.k))] : List Value) ++ ([(.int .i64 (m.vo.e)), (.int .i64 (m.vo.d)), (.int .i64 (m.vo.r))] : List Value) ++ hc m.vo.h ++ ([(.int .i64 (m.vo.sb)), (.int .i64 (m.vo.sm)), (.int .i64 (m.ix)), (.int .i64 (m.en.cl)), (.int .i64 (m.en.sq))] : List Value) ++ hc m.en.h ++ ([(.int .u64 (m.en.t)), (.int .i64 (m.op.i)), ((.slice m.op.pa m.op.P.length m.op.pc))] : List Value) ++ hc m.op.h ++ ([(.int .i64 (m.dn.r)), (.int .i64 (m.dn.i)), (.int .i64 (m.dn.sb)), (.int .i64 (m.dn.sm)), (ZD m.re), (.int .i64 (m.de)), (.int .i64 (m.dd)), (.int .i64 (m.db.e)), (.int .u64 (m.db.t)), ((.slice m.db.pa m.db.P.length m.db.pc)), ((.slice m.db.oa m.db.O.length m.db.oc)), ((.slice m.db.ta m.db.T.length m.db.tc)), ((.slice m.va m.V.length m.vc))] : List Value))⟩)] w fun e w' => e = .returned (.slice none 0 0) ∧ Upd [] w w' := by
 have H := Sat.start0 w
 refine Zg Tryz.func16 rfl 62 rfl (Nat.le_of_ble_eq_true rfl) ?_
 apply zsl
 refine zwd fun Kq kq => ?_
 refine zdb (Z9y m.k m.fr m.to m.co m.st m.ak m.ep m.rd m.tm m.qe m.qd m.qv m.qr m.qb.e m.qb.t m.qb.pa m.qb.P.length m.qb.pc m.qb.oa m.qb.O.length m.qb.oc m.qb.ta m.qb.T.length m.qb.tc m.qsb m.qsm m.vo.k m.vo.e m.vo.d m.vo.r m.vo.h m.vo.sb m.vo.sm m.ix m.en m.dn (ZD m.re) m.de m.dd m.db.e m.db.t m.db.pa m.db.P.length m.db.pc m.db.oa m.db.O.length m.db.oc m.db.ta m.db.T.length m.db.tc m.va m.V.length m.vc m.cx m.pr m.op) H ?_
 intro b2 w3 H4
 refine kq _ _ ?_
 clear kq Kq
 refine wv 4 (.slice none 0 0) ?_
 apply znt
 apply Zf
 apply Zf
 refine zqs H4 ?_
 refine qv 5 (pt b2 2) ?_
 refine qv 6 (.int .i64 (m.to)) ?_ (hr := fun _ H' => (Zi rfl (by kernel_rfl) (H'.cell 1 rfl (by kernel_rfl))))
 refine qv 7 (pt c 0) ?_
 refine qv 8 (pt c 0) ?_
 refine qv 9 (pt c 2) ?_
 refine qv 10 (.int .i64 (id)) ?_ (hr := fun _ H' => (Zi rfl (by kernel_rfl) (H'.roCell 0 rfl hcl (fun h => h) rfl)))
 refine qv 11 (.int .i64 (1000 + id)) ?_ (hr := fun _ H' => (Z0I (z := 1000 + id) (by kernel_rfl) (IntWalk.i64_in _ (by omega))))
 refine qv 12 (.bool (!(decide (m.to = (1000 + id))))) ?_
 refine qv 13 (.bool (!(decide (m.to = (1000 + id))))) ?_
 have b5 : (!(decide (m.to = (1000 + id)))) = false := by rw [decide_eq_true hto]; rfl
 refine Z17 13 (.bool false) (congrArg Value.bool b5) ?_
 refine qy 8 13 false 14 (pt c 0) ?_
 refine qy 8 13 false 15 (pt c 0) ?_
 refine qy 8 13 false 16 (pt c 0) ?_
 refine qy 8 13 false 17 (.agg ⟨(Z2s F Cn)⟩) ?_ (hr := fun _ H' => (ZG (vs := (Z2s F Cn)) rfl (by kernel_rfl) (by kernel_rfl) (by exact Nat.le_of_ble_eq_true (by kernel_rfl)) (H'.roCells 0 rfl hcl (fun h => h)) (by kernel_rfl)))
 refine qy 8 13 false 18 (pt b2 1) ?_
 refine qy 8 13 false 19 (.int .i64 (m.fr)) ?_ (hr := fun _ H' => (Zi rfl (by kernel_rfl) (H'.cell 1 rfl (by kernel_rfl))))
 refine Z4s (Z0k 8 13 false rfl (by kernel_rfl) rfl (by kernel_rfl)) (d := 20) (v := (.bool (inB F m.fr))) rfl (fun _ _ => by kernel_rfl) (fun w' H' => (Z6c w' F Cn m.fr (by omega)).mono fun _ _ h => ⟨h.1, H'.keepU h.2⟩) ?_
 refine qy 8 13 false 21 (.bool (!(inB F m.fr))) ?_
 refine qv 22 (.bool (!(inB F m.fr))) ?_
 refine Z1A ?_
 intro w8 H9
 apply ztn
 have b10 : (!(inB F m.fr)) = false := by rw [hin]; rfl
 refine Z1a _ b10 ?_
 apply ZF
 apply ztn
 apply Zf
 apply zsl
 refine wv 23 (pt b2 0) ?_
 refine zw1 24 (.int .i64 (m.k)) (H9.cell 1 rfl (by kernel_rfl)) ?_
 apply znt
 apply ZA
 apply zsl
 refine wv 26 (.bool (decide (m.k = 2))) ?_
 refine wv 25 (.bool (decide (m.k = 2))) ?_
 apply znt
 refine (ZC (decide (m.k = 2))).elim (fun b12 => ?_) (fun b12 => ?_)
 ·have g13 := of_decide_eq_true b12
  refine Z1q _ b12 ?_
  apply zsl
  refine wv 27 (pt c 0) ?_
  refine wv 28 (pt b2 1) ?_
  refine zw1 29 (.int .i64 (m.fr)) (H9.cell 1 rfl (by kernel_rfl)) ?_
  refine wv 30 (pt b2 40) ?_
  refine zwN 31 (Z2t m.st) (H9.at 1 rfl) ?_
  refine zwd fun Kq kq => ?_
  refine zdq 32 (Z5E w8 c bb F Cn id (H9.roCk 0 rfl hcl (fun _ _ h => h)) m.fr m.st) H9 ?_
  intro w16 H17
  refine kq _ _ ?_
  clear kq Kq
  refine wv 4 (.slice none 0 0) ?_
  apply znt
  apply Zz
  apply Z27
  apply ZY
  refine ze1 (.slice none 0 0) ?_
  exact ⟨rfl, H17.upd 0 rfl [] (fun _ h => h.elim)⟩
 have g19 := of_decide_eq_false b12
 refine Z1a _ b12 ?_
 apply zsl
 refine wv 34 (.bool (decide (m.k = 4))) ?_
 refine wv 33 (.bool (decide (m.k = 4))) ?_
 apply znt
 refine (ZC (decide (m.k = 4))).elim (fun b21 => ?_) (fun b21 => ?_)
 ·have g22 := of_decide_eq_true b21
  refine Z1q _ b21 ?_
  apply Zt
  refine wv 35 (pt c 0) ?_
  refine wv 36 (pt b2 1) ?_
  refine zw1 37 (.int .i64 (m.fr)) (H9.cell 1 rfl (by kernel_rfl)) ?_
  refine wv 38 (pt b2 116) ?_
  refine zwN 39 (Z2t m.ak) (H9.at 1 rfl) ?_
  refine zwd fun Kq kq => ?_
  refine zdq 40 (Z5v w8 c bb F Cn id (H9.roCk 0 rfl hcl (fun _ _ h => h)) m.fr m.ak) H9 ?_
  intro w25 H26
  refine kq _ _ ?_
  clear kq Kq
  apply Zu
  apply Zw
  apply ztn
  apply zsl
  refine wv 4 (.slice none 0 0) ?_
  apply znt
  apply Zz
  refine ze1 (.slice none 0 0) ?_
  exact ⟨rfl, H26.upd 0 rfl [] (fun _ h => h.elim)⟩
 have g28 := of_decide_eq_false b21
 refine Z1a _ b21 ?_
 apply zsl
 refine wv 42 (.bool (decide (m.k = 9))) ?_
 refine wv 41 (.bool (decide (m.k = 9))) ?_
 apply znt
 refine (ZC (decide (m.k = 9))).elim (fun b30 => ?_) (fun b30 => ?_)
 ·have g31 := of_decide_eq_true b30
  refine Z1q _ b30 ?_
  apply zsl
  refine wv 43 (pt c 0) ?_
  refine wv 44 (pt b2 1) ?_
  refine zw1 45 (.int .i64 (m.fr)) (H9.cell 1 rfl (by kernel_rfl)) ?_
  refine wv 46 (pt b2 212) ?_
  refine zw1 47 (.int .i64 (m.ix)) (H9.cell 1 rfl (by kernel_rfl)) ?_
  refine wv 48 (pt b2 213) ?_
  refine zwN 49 (Z9z m.en) (H9.at 1 rfl) ?_
  refine wv 50 (.agg ⟨(Z7t m.ix m.en)⟩) ?_
  refine zwd fun Kq kq => ?_
  refine zdq 51 (Z5y w8 c bb F Cn id (H9.roCk 0 rfl hcl (fun _ _ h => h)) m.fr ⟨m.ix, m.en⟩) H9 ?_
  intro w34 H35
  refine kq _ _ ?_
  clear kq Kq
  refine wv 4 (.slice none 0 0) ?_
  apply znt
  apply Zz
  apply Z27
  apply ZY
  refine ze1 (.slice none 0 0) ?_
  exact ⟨rfl, H35.upd 0 rfl [] (fun _ h => h.elim)⟩
 have g37 := of_decide_eq_false b30
 refine Z1a _ b30 ?_
 apply zsl
 refine wv 53 (.bool (decide (m.k = 13))) ?_
 refine wv 52 (.bool (decide (m.k = 13))) ?_
 apply znt
 refine (ZC (decide (m.k = 13))).elim (fun b39 => ?_) (fun b39 => ?_)
 ·have g40 := of_decide_eq_true b39
  refine Z1q _ b39 ?_
  apply Zt
  refine wv 54 (pt c 0) ?_
  refine wv 55 (pt b2 1) ?_
  refine zw1 56 (.int .i64 (m.fr)) (H9.cell 1 rfl (by kernel_rfl)) ?_
  refine wv 57 (pt b2 212) ?_
  refine zw1 58 (.int .i64 (m.ix)) (H9.cell 1 rfl (by kernel_rfl)) ?_
  refine wv 59 (pt b2 286) ?_
  refine zw1 60 (ZD m.re) (H9.cell 1 rfl (by kernel_rfl)) ?_
  refine zwd fun Kq kq => ?_
  refine zdq 61 (Z5C w8 c bb F Cn id (H9.roCk 0 rfl hcl (fun _ _ h => h)) m.fr m.ix m.re) H9 ?_
  intro w43 H44
  refine kq _ _ ?_
  clear kq Kq
  apply Zu
  apply Zw
  apply ztn
  apply zsl
  refine wv 4 (.slice none 0 0) ?_
  apply znt
  apply Zz
  refine ze1 (.slice none 0 0) ?_
  exact ⟨rfl, H44.upd 0 rfl [] (fun _ h => h.elim)⟩
 have g46 := of_decide_eq_false b39
 refine Z1a _ b39 ?_
 apply ZF
 apply Zw
 apply ztn
 apply zsl
 refine wv 4 (.slice none 0 0) ?_
 apply znt
 apply Zz
 refine ze1 (.slice none 0 0) ?_
 exact ⟨rfl, H9.upd 0 rfl [] (fun _ h => h.elim)⟩
theorem Z6m (w : World) (c bb mb g lc : Nat) (F Cn id : Int) (Q : List Zq) (Z : List (Zq × RqM)) (L : List Z4) (Bz : List Ck) (N : Nat) (hA : (ZL [Z3 c 112 [.int .i64 F, .int .i64 Cn, .int .i64 id, .pointer (some ⟨bb, 0, none⟩), .slice (some ⟨g, 0, none⟩) Q.length lc], Zc 119 79 (.slice (some ⟨g, 0, none⟩) Q.length lc) Q.length (Q.flatMap Zh), Z1j rqP Z, Z0j Bz, Z3 bb 108 [.map (some mb)], ZI mb ZK (Value.int .i64) (ZU L)]).ok w) (hlQ : Q.length ≤ 64) (hI : InvZ F id Bz N Q Z) (hN : N ≤ 900) (hF : 1 ≤ F ∧ F ≤ 3) (hid : 0 ≤ id ∧ id ≤ 1000000) (sq : Int) : Calls Tryz.prog 18 #[.pointer (some ⟨c, 0, none⟩), .int .i64 sq] w fun e w' => ∃ (da : Option Addr) (dc : Nat) (D : List OmR), e = .returned (.slice da D.length dc) ∧ OutG F id D ∧ (Zc 82 295 (.slice da D.length dc) D.length (D.flatMap Z0d)).ok w' ∧ Upd [] w w' ∧ ∀ q_, (Zc 82 295 (.slice da D.length dc) D.length (D.flatMap Z0d)).fp q_ → w.heap.size ≤ q_ := by
 have H := Sat.start _ hA
 by_cases hr : sq < 1 ∨ (Q.length : Int) < sq
 ·refine (Z6o w c bb g lc F Cn id Q (H.at 0 rfl) (H.at 1 rfl) hlQ sq hr).mono ?_
  rintro e w' ⟨rfl, hu⟩
  have HK := (Sat.start0 w).keepU hu
  have HN := HK.addNil 82 295
  exact ⟨none, 0, [], rfl, OutG.nil, HN.at 1 rfl, hu, HN.fresh 0 rfl (fun _ h => h) 1 rfl rfl⟩
 obtain ⟨k, hk⟩ : ∃ k : Nat, sq = (k : Int) + 1 := ⟨(sq - 1).toNat, by omega⟩
 obtain ⟨q, hq⟩ : ∃ q, Q[k]? = some q := ⟨_, List.getElem?_eq_getElem (show k < Q.length by omega)⟩
 obtain ⟨m, hz, hok⟩ := hI.at hq
 have hPr := ZbZ (H.at 2 rfl) hz (Zc 5 1 (.slice q.pa q.P.length q.pc) q.P.length (q.P.flatMap ZH)) (by simp [rqP])
 have hP : ListAt ZH 1 w (.slice q.pa q.P.length q.pc) q.P := ListAt.row Z0u (by decide) hPr
 have hlP : q.P.length ≤ 1000 := Nat.le_trans hok.P (by decide)
 rcases Bool.eq_false_or_eq_true q.dn with hdn | hdn
 ·refine (Z6k w c bb g lc F Cn id Q (H.at 0 rfl) (H.at 1 rfl) hlQ k q hq (by omega) hid hP hlP hdn sq hk).mono ?_
  rintro e w' ⟨rfl, hu⟩
  have HK := (Sat.start0 w).keepU hu
  have HN := HK.addNil 82 295
  exact ⟨none, 0, [], rfl, OutG.nil, HN.at 1 rfl, hu, HN.fresh 0 rfl (fun _ h => h) 1 rfl rfl⟩
 rcases Bool.eq_false_or_eq_true q.op with hop | hop
 ·refine (Z6p w c bb g lc F Cn id Q (H.at 0 rfl) (H.at 1 rfl) hlQ k q hq (by omega) hid hP hlP ⟨hop, hdn⟩ sq hk).mono ?_
  rintro e w' ⟨da, dc, D, B, rfl, hDn, hO, hok2, hu, hfr⟩
  have HB := (Sat.start0 w).addU hu hok2 hfr
  have HC := HB.open 1 rfl
  exact ⟨da, dc, D, rfl, .inr ⟨hDn, _, B, .inr (.inr rfl), hO⟩, HC.at 1 rfl, hu, fun q_ hq_ => hfr q_ ⟨_, List.mem_cons_self, hq_⟩⟩
 rcases Option.eq_none_or_eq_some q.cb with hcb | ⟨z, hcb⟩
 ·refine (Z6j w c bb g lc F Cn id Q (H.at 0 rfl) (H.at 1 rfl) hlQ k q hq (by omega) hid ⟨hcb, hop, hok.pl hop, hdn, hok.rp hdn⟩ sq hk).mono ?_
  rintro e w' ⟨da, dc, D, B, rfl, hDn, hO, hok2, hu, hfr⟩
  have HB := (Sat.start0 w).addU hu hok2 hfr
  have HC := HB.open 1 rfl
  exact ⟨da, dc, D, rfl, .inr ⟨hDn, _, B, .inl rfl, hO⟩, HC.at 1 rfl, hu, fun q_ hq_ => hfr q_ ⟨_, List.mem_cons_self, hq_⟩⟩
 obtain ⟨sa, sc, S, T, hct, hSl⟩ := hok.cb z hcb
 refine (Z6n w c bb g lc F Cn id Q (H.at 0 rfl) (H.at 1 rfl) hlQ k q hq (by omega) hid z sa sc S (hct.cell (H.at 3 rfl)) (hct.at (H.at 3 rfl)) (Nat.le_trans hct.short (by decide)) ⟨hcb, hop, hdn⟩ sq hk).mono ?_
 rintro e w' ⟨da, dc, D, B, rfl, hDn, hO, hok2, hu, hfr⟩
 have HB := (Sat.start0 w).addU hu hok2 hfr
 have HC := HB.open 1 rfl
 exact ⟨da, dc, D, rfl, .inr ⟨hDn, _, B, .inr (.inl rfl), hO⟩, HC.at 1 rfl, hu, fun q_ hq_ => hfr q_ ⟨_, List.mem_cons_self, hq_⟩⟩
end Go.Proofs.YtgigjkjdmalmaaaGreat
