/- WHAT IS PROVED: contracts and plain laws of ClC, ShaQ. Conditions: stated with each. -/
import Derived.Test.YtgigjkjdmalmaaaGreatPY05
import Derived.Test.YtgigjkjdmalmaaaGreatPY09
import Derived.Test.YtgigjkjdmalmaaaGreatPY16
set_option maxHeartbeats 4000000
set_option maxRecDepth 100000
namespace Go.Proofs.YtgigjkjdmalmaaaGreat
open Go.RowKit
abbrev Z34 (p0 : Int) (p1 : Int) (p2 : Int) (p3 : Int) (p4 : Int) : List Value := ([(.int .i64 p0), (.int .i64 p1), (.int .i64 p2), (.int .i64 p3), (.int .i64 p4)] : List Value)
abbrev Z35 (p0 : Int) (p1 : Int) (p2 : Int) : List Value := ([(.int .i64 p0), (.int .i64 p1), (.int .i64 p2)] : List Value)
abbrev Z2K (p0 : Int) (p1 : Int) : List Value := ([(.int .i64 p0), (.int .i64 p1)] : List Value)
abbrev Z36 (p0 : Int) (p1 : Int) (p2 : Int) (p3 : Option Addr) (p4 : Nat) (p5 : Nat) : List Value := ([(.int .i64 p0), (.int .i64 p1), (.int .i64 p2), (.slice p3 p4 p5)] : List Value)
abbrev Z37 (p0 : Int) (p1 : Option Addr) (p2 : Nat) (p3 : Nat) : List Value := ([(.int .i64 p0), (.slice p1 p2 p3)] : List Value)
abbrev Z53 (p0 : Value) : List Value := ([(.int .i64 (0)), (.int .i64 (0)), (.int .i64 (0)), (.int .i64 (0)), (.int .i64 (0))] : List Value) ++ hc Zx ++ ([(.int .i64 (0)), (.int .i64 (0)), (.int .i64 (0)), (.int .i64 (0)), (.int .i64 (0)), (.int .i64 (0))] : List Value) ++ hc Zx ++ ([(.int .u64 (0)), (.int .i64 (0)), (.int .i64 (0)), (.int .i64 (0)), (.int .i64 (0))] : List Value) ++ hc Zx ++ ([(.int .i64 (0)), (.int .i64 (0)), (.int .i64 (0)), (.slice none 0 0), (.int .i64 (0)), (.int .i64 (0)), (.int .i64 (0))] : List Value) ++ hc Zx ++ ([(.int .u64 (0)), (.int .i64 (0)), (.int .i64 (0)), (.int .i64 (0)), (.int .i64 (0)), (.int .u64 (0)), (.int .i64 (0)), (.int .i64 (0)), (.int .u64 (0)), (.slice none 0 0), (.int .i64 (0)), (.int .i64 (0)), (.int .i64 (0)), (.int .i64 (0)), (.int .i64 (0)), (.int .i64 (0)), (.int .i64 (0)), (.int .u64 (0)), (.slice none 0 0), (.slice none 0 0), (.slice none 0 0), (.int .i64 (0)), (.int .i64 (0)), (.int .i64 (0))] : List Value) ++ ([(.int .i64 (0)), (.int .i64 (0)), (.int .i64 (0))] : List Value) ++ hc Zx ++ ([(.int .i64 (0)), (.int .i64 (0)), (.int .i64 (0)), (.int .i64 (0)), (.int .i64 (0))] : List Value) ++ hc Zx ++ ([(.int .u64 (0)), (.int .i64 (0)), (.slice none 0 0)] : List Value) ++ hc Zx ++ ([(.int .i64 (0)), (.int .i64 (0)), (.int .i64 (0)), (.int .i64 (0)), p0, (.int .i64 (0)), (.int .i64 (0)), (.int .i64 (0)), (.int .u64 (0)), (.slice none 0 0), (.slice none 0 0), (.slice none 0 0), (.slice none 0 0)] : List Value)
abbrev Z2c (p0 : Int) (p1 : Int) (p2 : Int) (p3 : Z0) (p4 : Z0) (p5 : Option Addr) (p6 : Nat) (p7 : Nat) (p8 : Int) (p9 : Option Addr) (p10 : Nat) (p11 : Nat) (p12 : Z1e) (p13 : Value) : List Value := ([(.int .i64 p0), (.int .i64 p1), (.int .i64 p2), (.int .i64 p3.cl), (.int .i64 p3.seq)] : List Value) ++ hc p3.h ++ ([(.int .i64 p3.len), (.int .i64 p3.sb), (.int .i64 p3.sm), (.int .i64 (0)), (.int .i64 (0)), (.int .i64 (0))] : List Value) ++ hc Zx ++ ([(.int .u64 (0)), (.int .i64 (0)), (.int .i64 (0)), (.int .i64 p4.cl), (.int .i64 p4.seq)] : List Value) ++ hc p4.h ++ ([(.int .i64 p4.len), (.int .i64 p4.sb), (.int .i64 p4.sm), (.slice p5 p6 p7), (.int .i64 (0)), (.int .i64 (0)), (.int .i64 (0))] : List Value) ++ hc Zx ++ ([(.int .u64 (0)), (.int .i64 (0)), (.int .i64 (0)), (.int .i64 (0)), (.int .i64 (0)), (.int .u64 (0)), (.int .i64 (0)), (.int .i64 (0)), (.int .u64 (0)), (.slice none 0 0), (.int .i64 (0)), (.int .i64 (0)), (.int .i64 (0)), (.int .i64 (0)), (.int .i64 (0)), (.int .i64 (0)), (.int .i64 (0)), (.int .u64 (0)), (.slice none 0 0), (.slice none 0 0), (.slice none 0 0), (.int .i64 (0)), (.int .i64 (0)), (.int .i64 (0))] : List Value) ++ ([(.int .i64 (0)), (.int .i64 (0)), (.int .i64 (0))] : List Value) ++ hc Zx ++ ([(.int .i64 (0)), (.int .i64 (0)), (.int .i64 (0)), (.int .i64 (0)), (.int .i64 (0))] : List Value) ++ hc Zx ++ ([(.int .u64 (0)), (.int .i64 p8), (.slice p9 p10 p11)] : List Value) ++ hc p12 ++ ([(.int .i64 (0)), (.int .i64 (0)), (.int .i64 (0)), (.int .i64 (0)), p13, (.int .i64 (0)), (.int .i64 (0)), (.int .i64 (0)), (.int .u64 (0)), (.slice none 0 0), (.slice none 0 0), (.slice none 0 0), (.slice none 0 0)] : List Value)
abbrev Z9t (p0 : Z0) (p1 : Option Addr) (p2 : Nat) (p3 : Nat) : List Value := ([(.int .i64 p0.cl), (.int .i64 p0.seq)] : List Value) ++ hc p0.h ++ ([(.int .i64 p0.len), (.int .i64 p0.sb), (.int .i64 p0.sm), (.slice p1 p2 p3)] : List Value)
abbrev Z9u : List Value := ([(.int .i64 (0)), (.int .i64 (0)), (.int .u64 (0)), (.slice none 0 0), (.int .i64 (0)), (.int .i64 (0))] : List Value)
abbrev Zbr (p0 : Option Addr) (p1 : List Zk) (p2 : Nat) : Ck := Zc 49 38 (.slice p0 p1.length p2) p1.length (p1.flatMap ZV)
abbrev Z9s (p0 : Option Addr) (p1 : List UInt8) (p2 : Nat) : Ck := Zc 5 1 (.slice p0 p1.length p2) p1.length (p1.flatMap ZH)
abbrev Z4k : List Value := ([(.int .i64 (0)), (.int .u64 (0)), (.slice none 0 0), (.slice none 0 0), (.slice none 0 0)] : List Value)
theorem Z9K (w : World) (m : OmR) (hS : ListAt ZV 38 w (.slice m.sa m.S.length m.sc) m.S) (hlS : m.S.length ≤ 1000) (hP : ListAt ZH 1 w (.slice m.oa m.P.length m.oc) m.P) (hlP : m.P.length ≤ 1000) :
  Calls Tryz.prog 75 #[(.agg ⟨(([(.int .i64 (m.k)), (.int .i64 (m.fr)), (.int .i64 (m.to)), (.int .i64 (m.co.cl)), (.int .i64 (m.co.seq))] : List Value) ++ hc m.co.h ++ ([(.int .i64 (m.co.len)), (.int .i64 (m.co.sb)), (.int .i64 (m.co.sm))] : List Value) ++ zmS ++ ([(.int .i64 (m.cx.cl)), (.int .i64 (m.cx.seq))] : List Value) ++ hc m.cx.h ++ ([(.int .i64 (m.cx.len)), (.int .i64 (m.cx.sb)), (.int .i64 (m.cx.sm)), (.slice m.sa m.S.length m.sc)] : List Value) ++ zmB ++ ([(.int .i64 (m.oi)), (.slice m.oa m.P.length m.oc)] : List Value) ++ hc m.oh ++ zmT)⟩)] w fun e w' => ∃ (sa : Option Addr) (sc : Nat) (oa : Option Addr) (oc : Nat), e = .returned (.agg ⟨Z0d ⟨m.k, m.fr, m.to, m.co, m.cx, sa, sc, m.S, m.oi, oa, oc, m.P, m.oh⟩⟩) ∧ (ZL [Zc 49 38 (.slice sa m.S.length sc) m.S.length (m.S.flatMap ZV), Zc 5 1 (.slice oa m.P.length oc) m.P.length (m.P.flatMap ZH)]).ok w' ∧ Upd [] w w' ∧ ∀ q_, (ZL [Zc 49 38 (.slice sa m.S.length sc) m.S.length (m.S.flatMap ZV), Zc 5 1 (.slice oa m.P.length oc) m.P.length (m.P.flatMap ZH)]).fp q_ → w.heap.size ≤ q_ := by
 have H := Sat.start0 w
 refine Zg Tryz.func75 rfl 34 rfl (Nat.le_of_ble_eq_true rfl) ?_
 apply zsl
 refine zwd fun Kq kq => ?_
 refine zdb ((Z34 m.k m.fr m.to m.co.cl m.co.seq) ++ hc m.co.h ++ (Z35 m.co.len m.co.sb m.co.sm) ++ zmS ++ (Z2K m.cx.cl m.cx.seq) ++ hc m.cx.h ++ (Z36 m.cx.len m.cx.sb m.cx.sm m.sa m.S.length m.sc) ++ zmB ++ (Z37 m.oi m.oa m.P.length m.oc) ++ hc m.oh ++ zmT) H ?_
 intro b2 w3 H4
 refine kq _ _ ?_
 clear kq Kq
 refine zwd fun Kq kq => ?_
 refine zda (Z53 (ZD ([] : List UInt8))) H4 ?_
 intro b6 w7 H8
 refine kq _ _ ?_
 clear kq Kq
 apply znt
 apply Zf
 have H9 := H8.ct 1 rfl (Z3 b2 82 (Z2c m.k m.fr m.to m.co m.cx m.sa m.S.length m.sc m.oi m.oa m.P.length m.oc m.oh (ZD ([] : List UInt8)))) (by kernel_rfl)
 refine Z1o H9 [Z7 w (fun _ => False), Z3 b2 82 (Z2c m.k m.fr m.to m.co m.cx m.sa m.S.length m.sc m.oi m.oa m.P.length m.oc m.oh (ZD ([] : List UInt8))), Z3 b6 82 (Z53 (ZD ([] : List UInt8)))] [10, 12, 14] 15 rfl (by kernel_rfl) (fun Hx => (Hx.pk [0, 1, 2])) ?_
 intro w10 H11 S12
 refine zkp 0 S12 3 (pt b2 78) ?_
 refine zkv 1 S12 4 (.agg ⟨(Z9t m.cx m.sa m.S.length m.sc)⟩) ?_ (he := fun _ H' => (ZG (vs := (Z9t m.cx m.sa m.S.length m.sc)) rfl (by kernel_rfl) (by kernel_rfl) (by exact Nat.le_of_ble_eq_true (by kernel_rfl)) (H'.at 1 rfl) (by kernel_rfl)))
 refine zkp 3 S12 6 (pt b2 157) ?_
 refine zkv 4 S12 7 (.agg ⟨(Z9u)⟩) ?_ (he := fun _ H' => (ZG (vs := (Z9u)) rfl (by kernel_rfl) (by kernel_rfl) (by exact Nat.le_of_ble_eq_true (by kernel_rfl)) (H'.at 1 rfl) (by kernel_rfl)))
 refine zkp 6 S12 9 (pt b2 248) ?_
 refine zkv 7 S12 10 (.agg ⟨(([(.int .i64 (m.oi)), (.slice m.oa m.P.length m.oc)] : List Value) ++ hc m.oh)⟩) ?_ (he := fun _ H' => (ZG (vs := (([(.int .i64 (m.oi)), (.slice m.oa m.P.length m.oc)] : List Value) ++ hc m.oh)) rfl (by kernel_rfl) (by kernel_rfl) (by exact Nat.le_of_ble_eq_true (by kernel_rfl)) (H'.at 1 rfl) (by kernel_rfl)))
 refine Z4G 2 fun Kq kq => ?_
 refine zdc 5 (Z9J w10 m.cx m.sa m.sc m.S (ListAt.now H11 0 rfl hS) (by omega)) ?_
 rintro _ w14 ⟨u15, rfl, k16, p17, q18⟩
 have H19 := H11.addU p17 k16 q18
 obtain ⟨a20, c21, rfl⟩ := Ze (H19.at 3 rfl)
 refine ⟨_, rfl, ?_⟩
 have S22 := H19.pk [0, 1, 2]
 refine kq _ _ S22 ?_
 clear kq Kq
 refine zkp 9 S22 12 (pt b2 78) ?_
 refine Z4G 5 fun Kq kq => ?_
 refine zdq 8 (Z9M w14) H19 ?_
 intro w24 H25
 have S27 := H25.pk [0, 1, 2]
 refine kq _ _ S27 ?_
 clear kq Kq
 refine Z4G 8 fun Kq kq => ?_
 refine zdc 11 (Z9L w24 m.oi m.oa m.oc m.P m.oh (ListAt.now H25 0 rfl hP) (by omega)) ?_
 rintro _ w29 ⟨u30, rfl, k31, p32, q33⟩
 have H34 := H25.addU p32 k31 q33
 obtain ⟨a35, c36, rfl⟩ := Ze (H34.at 4 rfl)
 refine ⟨_, rfl, ?_⟩
 have S37 := H34.pk [0, 1, 2]
 refine kq _ _ S37 ?_
 clear kq Kq
 refine Z3u 10 (Sat w [Z7 w (fun _ => False), Z3 b6 82 (Z53 (ZD ([] : List UInt8)))]) rfl (by kernel_rfl) (Z5 rfl) rfl (fun Kq kq => ?_)
 refine zds (Z9t m.cx a20 m.S.length c21) (Z2c m.k m.fr m.to m.co m.cx a20 m.S.length c21 m.oi m.oa m.P.length m.oc m.oh (ZD ([] : List UInt8))) H34 1 ?_
 intro w39 H40
 have S42 := H40.pk [0, 2]
 refine kq _ _ S42 ?_
 clear kq Kq
 refine hv0 11 S42 13 (pt b2 157) ?_
 refine Z0H 12 fun Kq kq => ?_
 refine zds (Z9u) (Z2c m.k m.fr m.to m.co m.cx a20 m.S.length c21 m.oi m.oa m.P.length m.oc m.oh (ZD ([] : List UInt8))) H40 1 ?_
 intro w44 H45
 have S47 := H45.pk [0, 2]
 refine kq _ _ S47 ?_
 clear kq Kq
 refine hv0 13 S47 14 (pt b2 248) ?_
 refine Z0H 14 fun Kq kq => ?_
 refine zds (([(.int .i64 (m.oi)), (.slice a35 m.P.length c36)] : List Value) ++ hc m.oh) (Z2c m.k m.fr m.to m.co m.cx a20 m.S.length c21 m.oi a35 m.P.length c36 m.oh (ZD ([] : List UInt8))) H45 1 ?_
 intro w49 H50
 have S52 := H50.pk [0, 2]
 refine kq _ _ S52 ?_
 clear kq Kq
 refine zhf ?_
 apply ztn
 apply zsl
 refine wv 15 (pt b2 163) ?_
 refine wv 16 (pt b2 167) ?_
 refine zwN 17 (Z4k) (H50.at 1 rfl) ?_
 refine zwd fun Kq kq => ?_
 refine zdq 18 (Z5e w49) H50 ?_
 intro w54 H55
 refine kq _ _ ?_
 clear kq Kq
 refine wv 19 (pt b2 163) ?_
 refine wv 20 (pt b2 167) ?_
 refine zwd fun Kq kq => ?_
 refine zds (Z4k) (Z2c m.k m.fr m.to m.co m.cx a20 m.S.length c21 m.oi a35 m.P.length c36 m.oh (ZD ([] : List UInt8))) H55 1 ?_
 intro w58 H59
 refine kq _ _ ?_
 clear kq Kq
 apply znt
 apply Zf
 refine Z1o H59 [Z7 w (fun _ => False), Z3 b2 82 (Z2c m.k m.fr m.to m.co m.cx a20 m.S.length c21 m.oi a35 m.P.length c36 m.oh (ZD ([] : List UInt8))), Z3 b6 82 (Z53 (ZD ([] : List UInt8))), (Zbr a20 m.S c21), (Z9s a35 m.P c36)] [10, 13] 14 rfl (by kernel_rfl) (fun Hx => (Hx.pk [0, 1, 2, 3, 4])) ?_
 intro w61 H62 S63
 refine zkp 0 S63 21 (pt b2 287) ?_
 refine zkp 1 S63 22 (pt b2 289) ?_
 refine zkv 2 S63 23 (.agg ⟨(Z4k)⟩) ?_ (he := fun _ H' => (ZG (vs := (Z4k)) rfl (by kernel_rfl) (by kernel_rfl) (by exact Nat.le_of_ble_eq_true (by kernel_rfl)) (H'.at 1 rfl) (by kernel_rfl)))
 refine zkp 4 S63 25 (pt b2 287) ?_
 refine zkp 5 S63 26 (pt b2 294) ?_
 refine zkv 6 S63 27 (.slice none 0 0) ?_ (he := fun _ H' => (Zi rfl (by kernel_rfl) (H'.cell 1 rfl (by kernel_rfl))))
 refine Z4G 3 fun Kq kq => ?_
 refine zdq 24 (Z5e w61) H62 ?_
 intro w65 H66
 have S68 := H66.pk [0, 1, 2, 3, 4]
 refine kq _ _ S68 ?_
 clear kq Kq
 refine zkp 8 S68 29 (pt b2 287) ?_
 refine zkp 9 S68 30 (pt b2 289) ?_
 refine Z4G 7 fun Kq kq => ?_
 refine zdq 28 (Z7m w65) H66 ?_
 intro w70 H71
 have S73 := H71.pk [0, 1, 2, 3, 4]
 refine kq _ _ S73 ?_
 clear kq Kq
 refine Z3u 10 (Sat w [Z7 w (fun _ => False), Z3 b6 82 (Z53 (ZD ([] : List UInt8))), (Zbr a20 m.S c21), (Z9s a35 m.P c36)]) rfl (by kernel_rfl) (Z5 rfl) rfl (fun Kq kq => ?_)
 refine zds (Z4k) (Z2c m.k m.fr m.to m.co m.cx a20 m.S.length c21 m.oi a35 m.P.length c36 m.oh (ZD ([] : List UInt8))) H71 1 ?_
 intro w75 H76
 have S78 := H76.pk [0, 2, 3, 4]
 refine kq _ _ S78 ?_
 clear kq Kq
 refine hv0 11 S78 31 (pt b2 287) ?_
 refine hv0 12 S78 32 (pt b2 294) ?_
 refine Z0H 13 fun Kq kq => ?_
 refine zds ([(.slice none 0 0)] : List Value) (Z2c m.k m.fr m.to m.co m.cx a20 m.S.length c21 m.oi a35 m.P.length c36 m.oh (ZD ([] : List UInt8))) H76 1 ?_
 intro w80 H81
 have S83 := H81.pk [0, 2, 3, 4]
 refine kq _ _ S83 ?_
 clear kq Kq
 refine zhf ?_
 apply ztn
 apply zsl
 refine zwN 33 (Z2c m.k m.fr m.to m.co m.cx a20 m.S.length c21 m.oi a35 m.P.length c36 m.oh (ZD ([] : List UInt8))) (H81.at 1 rfl) ?_
 refine zwd fun Kq kq => ?_
 refine Z21 (Z2c m.k m.fr m.to m.co m.cx a20 m.S.length c21 m.oi a35 m.P.length c36 m.oh (ZD ([] : List UInt8))) H81 2 ?_
 intro w85 H86
 refine kq _ _ ?_
 clear kq Kq
 apply znt
 apply Zz
 refine Z1x rfl (Z02 (vs := (Z2c m.k m.fr m.to m.co m.cx a20 m.S.length c21 m.oi a35 m.P.length c36 m.oh (ZD ([] : List UInt8)))) rfl (by kernel_rfl) (by kernel_rfl) (by exact Nat.le_of_ble_eq_true (by kernel_rfl)) (H86.at 2 rfl) (by kernel_rfl)) ?_
 exact ⟨a20, c21, a35, c36, (by kernel_rfl), H86.fn [3, 4], H86.upd 0 rfl [] (fun _ h => h.elim), H86.freshS 0 rfl (fun _ h => h) [3, 4] rfl rfl⟩
theorem Zb7 {fr : Int} {m d : OmR} {B B' : List Ck} {D : List OmR} {i : Nat} (h : ∀ j, j < i → Z6g fr m B j (D.getD j om0)) (hn : D.length = i) (hd : Z6g fr m B' i d) (hs : ∀ A ∈ B, A ∈ B') : ∀ j, j < i + 1 → Z6g fr m B' j ((D ++ [d]).getD j om0) := fun j hj => by
 rcases Nat.lt_or_ge j i with q | q
 ·have e : (D ++ [d]).getD j om0 = D.getD j om0 := by rw [List.getD_eq_getElem?_getD, List.getElem?_append_left (by omega), ← List.getD_eq_getElem?_getD]
  have x := h j q
  rw [e]
  exact ⟨x.k, x.fr, x.to, x.co, x.cx, x.oi, x.oh, x.S, x.P, hs _ x.sb, hs _ x.ob⟩
 obtain rfl : j = i := by omega
 have e : (D ++ [d]).getD j om0 = d := by rw [List.getD_eq_getElem?_getD, List.getElem?_append_right (by omega), hn, Nat.sub_self]; rfl
 rw [e]; exact hd
theorem Z22 (w : World) (c bb : Nat) (F Cn id : Int) (v : Value) (hcl : (Z3 c 112 [.int .i64 F, .int .i64 Cn, .int .i64 id, .pointer (some ⟨bb, 0, none⟩), v]).ok w) (hF : 1 ≤ F ∧ F ≤ 100) (hid : 0 ≤ id ∧ id ≤ 1000000) (m : OmR) (hS : ListAt ZV 38 w (.slice m.sa m.S.length m.sc) m.S) (hlS : m.S.length ≤ 1000) (hP : ListAt ZH 1 w (.slice m.oa m.P.length m.oc) m.P) (hlP : m.P.length ≤ 1000) :
  Calls Tryz.prog 50 #[(.pointer (some ⟨c, 0, none⟩)), (.agg ⟨(([(.int .i64 (m.k)), (.int .i64 (m.fr)), (.int .i64 (m.to)), (.int .i64 (m.co.cl)), (.int .i64 (m.co.seq))] : List Value) ++ hc m.co.h ++ ([(.int .i64 (m.co.len)), (.int .i64 (m.co.sb)), (.int .i64 (m.co.sm))] : List Value) ++ zmS ++ ([(.int .i64 (m.cx.cl)), (.int .i64 (m.cx.seq))] : List Value) ++ hc m.cx.h ++ ([(.int .i64 (m.cx.len)), (.int .i64 (m.cx.sb)), (.int .i64 (m.cx.sm)), (.slice m.sa m.S.length m.sc)] : List Value) ++ zmB ++ ([(.int .i64 (m.oi)), (.slice m.oa m.P.length m.oc)] : List Value) ++ hc m.oh ++ zmT)⟩)] w fun e w' => ∃ (da : Option Addr) (dc : Nat) (D : List OmR) (B : List Ck), e = .returned (.slice da D.length dc) ∧ (D.length : Int) = 3 * F + 1 ∧ (∀ j, j < D.length → Z6g (1000 + id) m B j (D.getD j om0)) ∧ (ZL [Zc 82 295 (.slice da D.length dc) D.length (D.flatMap Z0d), Z0j B]).ok w' ∧ Upd [] w w' ∧ ∀ q_, (ZL [Zc 82 295 (.slice da D.length dc) D.length (D.flatMap Z0d), Z0j B]).fp q_ → w.heap.size ≤ q_ := by
 have H := Sat.start0 w
 obtain ⟨n, hn⟩ : ∃ n : Nat, (n : Int) = 3 * F + 1 := ⟨(3 * F + 1).toNat, by omega⟩
 refine Zg Tryz.func50 rfl 30 rfl (Nat.le_of_ble_eq_true rfl) ?_
 apply zsl
 refine zwd fun Kq kq => ?_
 refine zdb ((Z34 m.k m.fr m.to m.co.cl m.co.seq) ++ hc m.co.h ++ (Z35 m.co.len m.co.sb m.co.sm) ++ zmS ++ (Z2K m.cx.cl m.cx.seq) ++ hc m.cx.h ++ (Z36 m.cx.len m.cx.sb m.cx.sm m.sa m.S.length m.sc) ++ zmB ++ (Z37 m.oi m.oa m.P.length m.oc) ++ hc m.oh ++ zmT) H ?_
 intro b2 w3 H4
 refine kq _ _ ?_
 clear kq Kq
 refine wv 4 (.slice none 0 0) ?_
 apply Z0N
 refine wv 5 (.slice none 0 0) ?_
 apply znt
 apply Zf
 apply zsl
 refine wv 7 (pt c 0) ?_
 refine wv 8 (pt c 0) ?_
 refine wv 9 (pt c 0) ?_
 refine zwN 10 (Z2K F Cn) (H4.roCells 0 rfl hcl (fun h => h)) ?_
 refine zwd fun Kq kq => ?_
 refine zdq 11 (ZbI w3 F Cn (by omega)) H4 ?_
 intro w6 H7
 refine kq _ _ ?_
 clear kq Kq
 refine wv 12 (.int .i64 (0)) ?_
 apply znt
 apply ZA
 have H9 := H7.addNil 82 295
 have H10 := H9.bag0
 refine ZW ([5, 6] ++ List.range' 12 17) (fun F_ W_ m_ => ∃ (i : Nat) (f1 t1 : Int) (da : Option Addr) (dc : Nat) (D : List OmR) (B : List Ck), F_ 12 = (.int .i64 ((i : Int))) ∧ F_ 5 = (.slice da D.length dc) ∧ (i ≤ n) ∧ (D.length = i) ∧ (∀ j, j < i → Z6g (1000 + id) m B j (D.getD j om0)) ∧ Sat w [Z7 w (fun _ => False), Z3 b2 82 ((Z34 m.k f1 t1 m.co.cl m.co.seq) ++ hc m.co.h ++ (Z35 m.co.len m.co.sb m.co.sm) ++ zmS ++ (Z2K m.cx.cl m.cx.seq) ++ hc m.cx.h ++ (Z36 m.cx.len m.cx.sb m.cx.sm m.sa m.S.length m.sc) ++ zmB ++ (Z37 m.oi m.oa m.P.length m.oc) ++ hc m.oh ++ zmT), Zc 82 295 (.slice da D.length dc) D.length (D.flatMap Z0d), Z0j B] W_ ∧ m_ = n - i) _ ⟨0, m.fr, m.to, none, 0, [], [], (show ((.int .i64 (0)) : Value) = _ by first | rfl | go_num), (by first | rfl | go_num), (Nat.zero_le _), rfl, (fun _ h_ => absurd h_ (Nat.not_lt_zero _)), H10, rfl⟩ ?_
 rintro g11 w12 _ ⟨i, f1, t1, da, dc, D, B, v14, v15, hi, hDn, hout, H13, rfl⟩
 refine Zo 12 _ v14 ?_
 refine Zo 5 _ v15 ?_
 apply zsl
 refine wv 13 (.bool (decide ((i : Int) < (3 * F + 1)))) ?_
 apply znt
 apply Zf
 refine (ZC (decide ((i : Int) < (3 * F + 1)))).elim (fun b17 => ?_) (fun b17 => ?_)
 ·have g18 := of_decide_eq_true b17
  refine Z1q _ b17 ?_
  apply ZF
  apply ztn
  apply Zf
  apply ZA
  apply zsl
  refine wv 14 (.int .i64 ((i : Int))) ?_
  refine wv 6 (.int .i64 ((i : Int))) ?_
  apply Z0N
  refine wv 15 (pt c 0) ?_
  refine wv 16 (pt c 0) ?_
  refine wv 17 (pt c 2) ?_
  refine zw1 18 (.int .i64 (id)) (H13.roCell 0 rfl hcl (fun h => h) rfl) ?_
  refine zwi 19 (1000 + id) ?_
  refine wv 20 (.int .i64 ((i : Int))) ?_
  refine wv 21 (pt b2 1) ?_
  refine zwd fun Kq kq => ?_
  refine zds ([(.int .i64 (1000 + id))] : List Value) ((Z34 m.k (1000 + id) t1 m.co.cl m.co.seq) ++ hc m.co.h ++ (Z35 m.co.len m.co.sb m.co.sm) ++ zmS ++ (Z2K m.cx.cl m.cx.seq) ++ hc m.cx.h ++ (Z36 m.cx.len m.cx.sb m.cx.sm m.sa m.S.length m.sc) ++ zmB ++ (Z37 m.oi m.oa m.P.length m.oc) ++ hc m.oh ++ zmT) H13 1 ?_
  intro w21 H22
  refine kq _ _ ?_
  clear kq Kq
  refine wv 22 (pt b2 2) ?_
  refine zwd fun Kq kq => ?_
  refine zds ([(.int .i64 ((i : Int)))] : List Value) ((Z34 m.k (1000 + id) ((i : Int)) m.co.cl m.co.seq) ++ hc m.co.h ++ (Z35 m.co.len m.co.sb m.co.sm) ++ zmS ++ (Z2K m.cx.cl m.cx.seq) ++ hc m.cx.h ++ (Z36 m.cx.len m.cx.sb m.cx.sm m.sa m.S.length m.sc) ++ zmB ++ (Z37 m.oi m.oa m.P.length m.oc) ++ hc m.oh ++ zmT) H22 1 ?_
  intro w25 H26
  refine kq _ _ ?_
  clear kq Kq
  apply znt
  apply Zt
  refine wv 23 (.slice da D.length dc) ?_
  refine zwN 24 ((Z34 m.k (1000 + id) ((i : Int)) m.co.cl m.co.seq) ++ hc m.co.h ++ (Z35 m.co.len m.co.sb m.co.sm) ++ zmS ++ (Z2K m.cx.cl m.cx.seq) ++ hc m.cx.h ++ (Z36 m.cx.len m.cx.sb m.cx.sm m.sa m.S.length m.sc) ++ zmB ++ (Z37 m.oi m.oa m.P.length m.oc) ++ hc m.oh ++ zmT) (H26.at 1 rfl) ?_
  refine zwd fun Kq kq => ?_
  refine zdc 25 (Z9K w25 (⟨m.k, 1000 + id, (i : Int), m.co, m.cx, m.sa, m.sc, m.S, m.oi, m.oa, m.oc, m.P, m.oh⟩ : OmR) (ListAt.now H26 0 rfl hS) hlS (ListAt.now H26 0 rfl hP) hlP) ?_
  rintro _ w29 ⟨a30, c31, a32, c33, rfl, k34, p35, q36⟩
  have H37 := H26.addU p35 k34 q36
  have H38 := H37.open 4 rfl
  refine ⟨_, rfl, ?_⟩
  refine kq _ _ ?_
  clear kq Kq
  refine zwd fun Kq kq => ?_
  refine Z3U 82 295 960 (.agg ⟨(Z53 (ZD ([] : List UInt8)))⟩) [(0, (.agg ⟨((Z34 m.k (1000 + id) ((i : Int)) m.co.cl m.co.seq) ++ hc m.co.h ++ (Z35 m.co.len m.co.sb m.co.sm) ++ zmS ++ (Z2K m.cx.cl m.cx.seq) ++ hc m.cx.h ++ (Z36 m.cx.len m.cx.sb m.cx.sm a30 m.S.length c31) ++ zmB ++ (Z37 m.oi a32 m.P.length c33) ++ hc m.oh ++ zmT)⟩))] ((Z34 m.k (1000 + id) ((i : Int)) m.co.cl m.co.seq) ++ hc m.co.h ++ (Z35 m.co.len m.co.sb m.co.sm) ++ zmS ++ (Z2K m.cx.cl m.cx.seq) ++ hc m.cx.h ++ (Z36 m.cx.len m.cx.sb m.cx.sm a30 m.S.length c31) ++ zmB ++ (Z37 m.oi a32 m.P.length c33) ++ hc m.oh ++ zmT) H38 ?_
  intro b40 w41 H42
  have H43 := H42.ct 6 rfl (Zc 82 295 (.slice (some ⟨b40, 0, none⟩) 1 1) 1 ([(⟨m.k, 1000 + id, (i : Int), m.co, m.cx, a30, c31, m.S, m.oi, a32, c33, m.P, m.oh⟩ : OmR)].flatMap Z0d)) (by rw [(show (((Z34 m.k (1000 + id) ((i : Int)) m.co.cl m.co.seq) ++ hc m.co.h ++ (Z35 m.co.len m.co.sb m.co.sm) ++ zmS ++ (Z2K m.cx.cl m.cx.seq) ++ hc m.cx.h ++ (Z36 m.cx.len m.cx.sb m.cx.sm a30 m.S.length c31) ++ zmB ++ (Z37 m.oi a32 m.P.length c33) ++ hc m.oh ++ zmT) : List Value) = ([(⟨m.k, 1000 + id, (i : Int), m.co, m.cx, a30, c31, m.S, m.oi, a32, c33, m.P, m.oh⟩ : OmR)] : List OmR).flatMap Z0d by kernel_rfl)])
  refine kq _ _ ?_
  clear kq Kq
  refine zwd fun Kq kq => ?_
  refine Z0n (T := 35) (e := 82) (size := 295) (bytes := 960) rfl H43 (by kernel_rfl) 2 6 rfl rfl rfl rfl (Z0e Z0d Z9d [(⟨m.k, 1000 + id, (i : Int), m.co, m.cx, a30, c31, m.S, m.oi, a32, c33, m.P, m.oh⟩ : OmR)]) (by omega) (by omega) ?_
  intro v45 w46 H47
  have H50 := H47.ct 2 rfl (Zc 82 295 v45 ((D ++ [(⟨m.k, 1000 + id, (i : Int), m.co, m.cx, a30, c31, m.S, m.oi, a32, c33, m.P, m.oh⟩ : OmR)]).length) ((D ++ [(⟨m.k, 1000 + id, (i : Int), m.co, m.cx, a30, c31, m.S, m.oi, a32, c33, m.P, m.oh⟩ : OmR)]).flatMap Z0d)) ja
  obtain ⟨a48, c49, rfl⟩ := Ze (H50.at 2 rfl)
  refine kq _ _ ?_
  clear kq Kq
  refine wv 5 (.slice a48 ((D ++ [(⟨m.k, 1000 + id, (i : Int), m.co, m.cx, a30, c31, m.S, m.oi, a32, c33, m.P, m.oh⟩ : OmR)]).length) c49) ?_
  apply Zu
  apply Zw
  apply ztn
  have H51 := (H50.pk [3, 4, 0, 1, 2, 5, 6]).bag
  have H52 := H51.pk [1, 2, 3, 0, 4, 5]
  have H53 := (H52.pk [3, 4, 0, 1, 2, 5]).bag
  have H54 := H53.pk [1, 2, 3, 0, 4]
  apply Zt
  refine zwi 28 ((i : Int) + 1) ?_
  refine wv 12 (.int .i64 ((i : Int) + 1)) ?_
  apply Zu
  have H55 := H54.pk [0, 1, 2, 3]
  refine ZE ?_ _ ⟨(i + 1), 1000 + id, (i : Int), a48, c49, (D ++ [(⟨m.k, 1000 + id, (i : Int), m.co, m.cx, a30, c31, m.S, m.oi, a32, c33, m.P, m.oh⟩ : OmR)]), (omP (⟨m.k, 1000 + id, (i : Int), m.co, m.cx, a30, c31, m.S, m.oi, a32, c33, m.P, m.oh⟩ : OmR) :: (omS (⟨m.k, 1000 + id, (i : Int), m.co, m.cx, a30, c31, m.S, m.oi, a32, c33, m.P, m.oh⟩ : OmR) :: B)), rfl, (show ((.slice a48 ((D ++ [(⟨m.k, 1000 + id, (i : Int), m.co, m.cx, a30, c31, m.S, m.oi, a32, c33, m.P, m.oh⟩ : OmR)]).length) c49) : Value) = _ by first | rfl | go_num), (by omega), (by simp only [List.length_append, List.length_cons, List.length_nil]; omega), (Zb7 hout hDn ⟨rfl, rfl, rfl, rfl, rfl, rfl, rfl, rfl, rfl, List.mem_cons_of_mem _ List.mem_cons_self, List.mem_cons_self⟩ (fun A_ h_ => List.mem_cons_of_mem _ (List.mem_cons_of_mem _ h_))), H55, rfl⟩ (by omega)
  exact zs
 have g56 := of_decide_eq_false b17
 refine Z1a _ b17 ?_
 apply zxb
 apply ztn
 apply zsl
 refine wv 29 (.slice da D.length dc) ?_
 refine wv 4 (.slice da D.length dc) ?_
 apply znt
 apply Zz
 refine ze1 (.slice da D.length dc) ?_
 exact ⟨da, dc, D, B, rfl, by omega, (fun j_ hj_ => hout j_ (by omega)), H13.fn [2, 3], H13.upd 0 rfl [] (fun _ h => h.elim), H13.freshS 0 rfl (fun _ h => h) [2, 3] rfl rfl⟩
theorem Zan (k : IntKind) (a b : Int) : bOr k a b = bOr k b a := by unfold bOr; rw [BitVec.or_comm]
theorem Zba (x n s : Int) (hs : s = 32 - n) : bOr .u32 (Z2f .u32 x s) (x / 2 ^ (min (32 - s).toNat 32)) = Z0f x n := by
 unfold Z0f
 rw [Zan, hs, show 32 - (32 - n) = n by omega]
def Zah (s : List UInt8) : Int := bOr .u32 (bOr .u32 (bOr .u32 (Z2f .u32 (IntKind.u32.wrap ((s.getD 0 0).toNat : Int)) 24) (Z2f .u32 (IntKind.u32.wrap ((s.getD 1 0).toNat : Int)) 16)) (Z2f .u32 (IntKind.u32.wrap ((s.getD 2 0).toNat : Int)) 8)) (IntKind.u32.wrap ((s.getD 3 0).toNat : Int))
def wLq (s : List UInt8) : Nat → List Int
 | 0 => List.replicate 64 0
 | i + 1 => (wLq s i).set i (Zah (s.drop (4 * i)))
def wOq (s : List UInt8) : List Int := wEx (wLq s 16) 48
theorem wLq_eq (D : List UInt8) (b : Nat) (i : Nat) : wLq (D.drop (64 * b)) i = wLd D b i := by
 induction i with
 | zero => rfl
 | succ i ih =>
  show (wLq (D.drop (64 * b)) i).set i (Zah ((D.drop (64 * b)).drop (4 * i))) = ldS D b i (wLd D b i)
  rw [ih, List.drop_drop]
  rfl
theorem wOq_eq (D : List UInt8) (b : Nat) : wOq (D.drop (64 * b)) = wOf D b := by unfold wOq wOf; rw [wLq_eq]
def Z9S (HH : List Int) (s : List UInt8) : List Int := hAd (vRu (wOq s) HH 64) HH 8
theorem ZaD (D : List UInt8) (b : Nat) : Zcv D (b + 1) = Z9S (Zcv D b) (D.drop (64 * b)) := by unfold Z9S; rw [wOq_eq]; rfl
theorem Zc1 (V HH : List Int) (i : Nat) : (hAd V HH i).length = HH.length := by
 induction i with
 | zero => rfl
 | succ i ih => simp [hAd, adS, ih]
theorem ZaS (HH : List Int) (s : List UInt8) : (Z9S HH s).length = HH.length := Zc1 _ _ _
def oIn (h : Int) (i : Nat) (O : List Int) : Nat → List Int
 | 0 => O
 | j + 1 => (oIn h i O j).set (4 * i + j) (IntKind.u8.wrap (h / 2 ^ (min (24 - 8 * (j : Int)).toNat 32)))
theorem ZaX (HH : List Int) (i : Nat) (O : List Int) : oIn (HH.getD i 0) i O 4 = ouS HH i O := by
 unfold ouS
 simp [oIn]
theorem Z9H (bits : Int) (q : Nat) : ZaL bits (q + 1) = ZaL bits q ++ [UInt8.ofNat (IntKind.u8.wrap (bits / 2 ^ (min (56 - 8 * (q : Int)).toNat 64))).toNat] := by
 rw [ZaN, show (8 * (7 - (q : Int))) = 56 - 8 * (q : Int) by omega]
theorem shl3 {n : Nat} (h : n ≤ 1000000) : Z2f .u64 (n : Int) 3 = (n : Int) * 8 := by
 unfold Z2f
 exact Z3o (by rw [show (2 : Int) ^ (min (3 : Int).toNat IntKind.u64.bits) = 8 from rfl]; omega)
theorem Zac {a : Option Addr} {n c k : Nat} {s : List UInt8} {w : World} (hk : k ≤ n) (h : (ZX (.slice a n c) s).ok w) : (ZX (.slice (if c = k then a else a.map (·.add (k * 1))) (n - k) (c - k)) (s.drop k)).ok w := Z1H (ListAt.dropG (ListAt.ofTxt h) hk)
theorem Z8K {a : Option Addr} {n c k : Nat} {s : List UInt8} {b : Nat} (h : (ZX (.slice (if c = k then a else a.map (·.add (k * 1))) (n - k) (c - k)) (s.drop k)).fp b) : (ZX (.slice a n c) s).fp b := by
 obtain ⟨h0, hb⟩ := h
 refine ⟨by rw [List.length_drop] at h0; omega, ?_⟩
 cases a with
 | none => simp [Value.ownBlock] at hb
 | some ad =>
  rcases ad with ⟨g, o, f⟩
  split at hb
  ·exact hb
  ·simp only [Option.map_some, Value.ownBlock, Addr.add, Option.some.injEq] at hb ⊢
   split at hb <;> exact hb
section
variable {P : Program} {n : Nat} {f : Nat → Value} {w : World} {dst : Option Tmp} {ty : TypeId} {pos : String} {aft : Array Edge} {gd : Option (Nat × Bool)}
theorem Z8q {T E N : TypeId} {x y : Operand} {k ky : IntKind} {A : List Int} {z : Int} {q : Nat} (hT : P.underlying T = some (.array N E)) (hA : A.length = N) (hs : P.cellsOf E = 1) (hc : Z6i P E = true) (hx : ev n f x = .agg ⟨A.map (Value.int k)⟩) (hy : ev n f y = .int ky z) (hz : z = (q : Int)) (hq : q < N) :
  (execOp (ev n f) ⟨dst, .index T x y, ty, pos, aft, gd⟩).run P w = .ok (.value (.int k (A.getD q 0))) w := by
 subst hz
 have hq' : q < A.length := by omega
 simp only [execOp, hx, hy, Instr.index, asIntOf]
 simp [run_underlying hT, hq, Result.andThen, Z2P hc, Z0A hs (by decide), part, List.getD_eq_getElem?_getD, List.getElem?_eq_getElem hq']
end
section
variable {P : Program} {ops : Array Oper} {S : World → Prop} {Q : Exit → Act → World → Prop} {n : Nat} {f : Nat → Value} {w : World} {listed : Array Bool} {fuel : Nat}
theorem h_do3 {o1 o2 o3 : Oper} (i j k : Nat) (hi : ops[i]? = some o1) (hj : ops[j]? = some o2) (hk : ops[k]? = some o3) (hr : Region.ready .any ops listed = [i, j, k]) (hw1 : Z1w ops o1 n f true) (hw2 : Z1w ops o2 n f true) (hw3 : Z1w ops o3 n f true)
  (k1 : ∀ K : Act → World → Prop, (∀ g w', S w' → (WH P ops Q S fuel (listed.setIfInBounds i true) n g w') → K (fr n g) w') → WO P o1 K Q n f w)
  (k2 : ∀ K : Act → World → Prop, (∀ g w', S w' → (WH P ops Q S fuel (listed.setIfInBounds j true) n g w') → K (fr n g) w') → WO P o2 K Q n f w)
  (k3 : ∀ K : Act → World → Prop, (∀ g w', S w' → (WH P ops Q S fuel (listed.setIfInBounds k true) n g w') → K (fr n g) w') → WO P o3 K Q n f w) : WH P ops Q S (fuel + 1) listed n f w := by
 refine ⟨wpAnyH_all hr (by simp) fun q hq => ?_⟩
 rcases List.mem_cons.1 hq with rfl | hq
 ·refine wpOp_step hi fun K' hK => ?_
  rw [if_pos hw1.h]
  exact (k1 K' fun g w' hS hk => hK _ _ ⟨hS, hk.h⟩).h
 rcases List.mem_cons.1 hq with rfl | hq
 ·refine wpOp_step hj fun K' hK => ?_
  rw [if_pos hw2.h]
  exact (k2 K' fun g w' hS hk => hK _ _ ⟨hS, hk.h⟩).h
 ·obtain rfl := List.mem_singleton.1 hq
  refine wpOp_step hk fun K' hK => ?_
  rw [if_pos hw3.h]
  exact (k3 K' fun g w' hS hk => hK _ _ ⟨hS, hk.h⟩).h
end
end Go.Proofs.YtgigjkjdmalmaaaGreat
