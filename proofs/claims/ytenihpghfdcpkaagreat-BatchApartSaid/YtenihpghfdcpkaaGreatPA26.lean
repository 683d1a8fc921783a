/- WHAT IS PROVED: contracts and plain laws of Own12, MkO12, Law12M. Conditions: stated with each. -/
import Derived.Test.YtenihpghfdcpkaaGreatPA03
import Derived.Test.YtenihpghfdcpkaaGreatPA05
import Derived.Test.YtenihpghfdcpkaaGreatPA18
import Derived.Test.YtenihpghfdcpkaaGreatPA21
import Derived.Test.YtenihpghfdcpkaaGreatPA22
import Derived.Test.YtenihpghfdcpkaaGreatPA25
set_option maxHeartbeats 4000000
set_option maxRecDepth 100000
namespace Go.Proofs.YtenihpghfdcpkaaGreat
open Go.RowKit
abbrev Z5m (p0 : Int) (p1 : Int) (p2 : Nat) (p3 : Nat) (p4 : Int) (p5 : Int) (p6 : Int) (p7 : Int) (p8 : Option Addr) (p9 : Nat) (p10 : Nat) (p11 : Option Addr) (p12 : Nat) (p13 : Nat) : List Value := ([(.int .i64 p0), (.int .i64 p1), (pt p2 0), (pt p3 0), (.int .i64 p4), (.int .i64 p5), (.int .i64 p6), (.int .u64 p7), (.slice p8 p9 p10), (.slice p11 p12 p13)] : List Value)
abbrev Z4H (p0 : Value) : List Value := ([(.int .i64 (0)), (.int .i64 (0)), (.int .i64 (0)), (.int .u64 (0)), p0, p0] : List Value)
abbrev Z39 (p0 : Int) (p1 : Int) (p2 : Int) (p3 : Int) (p4 : Nat) (p5 : Nat) : List Value := ([(.int .i64 p0), (.int .i64 p1), (.int .i64 p2), (.int .u64 p3), (.map (some p4)), (.map (some p5))] : List Value)
abbrev ZaN (p0 : Z2l) : List Value := ([(.int .i64 p0.cl), (.int .i64 p0.sq)] : List Value) ++ hc p0.h ++ ([(.int .u64 p0.t)] : List Value)
def Z2D (O : List Z2l) : List (Int × Z1H) := O.foldl (fun M s => Z2j M s.i ⟨s.cl, s.sq, s.h, s.t⟩) []
def Z6n (G : List NmD) : List (NmD × Bool) := G.foldl (fun M n => Z2j M n true) []
theorem ZbL {O : List Z2l} {i : Nat} {x : Z2l} (h : O[i]? = some x) : Z2D (O.take (i + 1)) = Z2j (Z2D (O.take i)) x.i ⟨x.cl, x.sq, x.h, x.t⟩ := by
 unfold Z2D; rw [List.take_add_one, h, Option.toList_some, List.foldl_append]; rfl
theorem Za6 {O : List Z2l} {i : Nat} (h : i < O.length) : Z2D (O.take (i + 1)) = Z2j (Z2D (O.take i)) (O.getD i Z4y).i ⟨(O.getD i Z4y).cl, (O.getD i Z4y).sq, (O.getD i Z4y).h, (O.getD i Z4y).t⟩ := by
 refine ZbL ?_
 rw [List.getD_eq_getElem?_getD, List.getElem?_eq_getElem h]; rfl
theorem Zbb {G : List NmD} {i : Nat} (h : i < G.length) : Z6n (G.take (i + 1)) = Z2j (Z6n (G.take i)) (G.getD i nm0) true := by
 unfold Z6n
 have e : G.take (i + 1) = G.take i ++ [G.getD i nm0] := by
  rw [List.take_add_one, List.getElem?_eq_getElem h, List.getD_eq_getElem?_getD, List.getElem?_eq_getElem h]; rfl
 rw [e, List.foldl_append]; rfl
theorem Z6m (w : World) (b r : Nat) (F c1 F2 c2 ep last : Int) (la : Option Addr) (lc : Nat) (G : List NmD) (hG : ListAt Z2b 2 w (.slice la G.length lc) G) (oa : Option Addr) (oc : Nat) (O : List Z2l) (hO : ListAt Z3Z 36 w (.slice oa O.length oc) O) (hlG : G.length ≤ 1000) (hlO : O.length ≤ 1000) :
  Calls Tryz.prog 13 #[(.agg ⟨([(.int .i64 (F)), (.int .i64 (c1)), (.pointer (some ⟨b, 0, none⟩)), (.pointer (some ⟨r, 0, none⟩)), (.int .i64 (F2)), (.int .i64 (c2)), (.int .i64 (ep)), (.int .u64 (last)), (.slice la G.length lc), (.slice oa O.length oc)] : List Value)⟩)] w fun e w' => ∃ ml mo, e = .returned (.agg ⟨[.int .i64 F, .int .i64 c1, .int .i64 ep, .int .u64 last, .map (some ml), .map (some mo)]⟩) ∧ (ZR [Z0B ml nmV Value.bool (Z6n G), Z0B mo (Value.int .i64) Z3N (Z2D O)]).ok w' ∧ Upd [] w w' ∧ ∀ q_, (ZR [Z0B ml nmV Value.bool (Z6n G), Z0B mo (Value.int .i64) Z3N (Z2D O)]).fp q_ → w.heap.size ≤ q_ := by
 have H := Sat.start0 w
 refine Z8 Tryz.func13 rfl 58 rfl (Nat.le_of_ble_eq_true rfl) ?_
 refine zsl <| zwd fun Kq kq => zdb (Z5m F c1 b r F2 c2 ep last la G.length lc oa O.length oc) H fun b2 w3 H4 => ?_
 refine kq _ _ <| zwd fun Kq kq => zda (Z4H (Go.Value.map none)) H4 fun b6 w7 H8 => ?_
 refine kq _ _ <| Z0y <| wv 6 (pt b2 0) <| zwN 7 ([(.int .i64 (F)), (.int .i64 (c1))] : List Value) (H8.at 1 rfl) <| wv 8 (pt b2 4) <| wv 9 (pt b2 6) <| zw1 10 (.int .i64 (ep)) (H8.cell 1 rfl rfl) <| wv 11 (pt b2 4) <| wv 12 (pt b2 7) <| zw1 13 (.int .u64 (last)) (H8.cell 1 rfl rfl) ?_
 refine zwd fun Kq kq => Z2s nmV Value.bool rfl H8 fun b10 w11 H12 => ?_
 refine kq _ _ <| zwd fun Kq kq => Z2s (Value.int .i64) Z3N rfl H12 fun b14 w15 H16 => ?_
 refine kq _ _ <| wv 16 (.agg ⟨(Z39 F c1 ep last b10 b14)⟩) <| zwd fun Kq kq => zda (Z4H (Go.Value.map none)) H16 fun b18 w19 H20 => ?_
 refine kq _ _ <| zwd fun Kq kq => Z1z (Z39 F c1 ep last b10 b14) H20 5 fun w22 H23 => ?_
 refine kq _ _ <| znt <| Z5 <| zsl <| wv 17 (pt b2 4) <| wv 18 (pt b2 8) <| zw1 19 (.slice la G.length lc) (H23.cell 1 rfl rfl) <| wv 20 (.int .i64 ((G.length : Int))) <| wv 21 (.int .i64 (0)) <| znt ?_
 refine Za <| Zw ([4] ++ List.range' 21 12) (fun F_ W_ m_ => ∃ (i : Nat), F_ 21 = (.int .i64 ((i : Int))) ∧ (i ≤ G.length) ∧ Sat w [Z3 w (fun _ => False), Z0 b2 38 (Z5m F c1 b r F2 c2 ep last la G.length lc oa O.length oc), Z0 b6 54 (Z4H (Go.Value.map none)), Z0B b10 nmV Value.bool (Z6n (G.take i)), Z0B b14 (Value.int .i64) Z3N [], Z0 b18 54 (Z39 F c1 ep last b10 b14)] W_ ∧ m_ = G.length - i) _ ⟨0, (show ((.int .i64 (0)) : Value) = _ by first | rfl | go_num), (Nat.zero_le _), H23, rfl⟩ ?_
 rintro g25 w26 _ ⟨i, v28, hi, H27, rfl⟩
 refine Zd 21 _ v28 ?_
 refine zsl <| wv 22 (.bool (decide ((i : Int) < (G.length : Int)))) <| znt <| Z5 ?_
 refine (ZJ (decide ((i : Int) < (G.length : Int)))).elim (fun b30 => ?_) (fun b30 => ?_)
 ·have g31 := of_decide_eq_true b30
  refine Z33 _ b30 ?_
  refine Zt <| ztn <| Z5 <| Za <| zsl <| wv 23 (.int .i64 ((i : Int))) <| wv 4 (.int .i64 ((i : Int))) <| znt ?_
  obtain ⟨g33, o34, c35, e36, R37⟩ := SliceOf.atD hG nm0 (show i < G.length by omega)
  obtain ⟨g38, o39, c40, e41, R42⟩ := SliceOf.atD hG nm0 (show i < G.length by omega)
  obtain ⟨g43, o44, c45, e46, R47⟩ := SliceOf.atD hG nm0 (show i < G.length by omega)
  refine Z08 H27 [Z3 w (fun _ => False), Z0 b2 38 (Z5m F c1 b r F2 c2 ep last la G.length lc oa O.length oc), Z0 b6 54 (Z4H (Go.Value.map none)), Z0B b14 (Value.int .i64) Z3N [], Z0 b18 54 (Z39 F c1 ep last b10 b14)] 9 rfl (by kernel_rfl) (fun Hx => (Hx.pk [0, 1, 2, 4, 5])) ?_
  intro w48 H49 S50
  refine hv0 0 S50 24 (pt b18 4) <| hv0 1 S50 25 (.map (some b10)) ?_ (he := fun _ H' => (zl1 (H'.cell 4 rfl rfl)))
  refine hv0 2 S50 26 (pt b2 4) <| hv0 3 S50 27 (pt b2 8) <| hv0 4 S50 28 (.slice la G.length lc) ?_ (he := fun _ H' => (zl1 (H'.cell 1 rfl rfl)))
  refine hv0 5 S50 29 (.int .i64 ((i : Int))) ?_
  obtain ⟨g51, o52, c53, e54, R55⟩ := SliceOf.atD hG nm0 (show i < G.length by omega)
  refine Z3u 6 rfl (by kernel_rfl) (by kernel_rfl) (by kernel_rfl) (fun _ _ _ h => h) S50 (Zb rfl) (d := 30) (v := (.pointer (some ⟨g51, o52 + ((i : Int)).toNat * 2, none⟩))) rfl (fun _ H' => (Zh (E := 59) (by kernel_rfl) (by kernel_rfl) (Nat.le_of_ble_eq_true rfl) rfl e54 rfl (by omega) (by omega))) ?_
  refine hv0 7 S50 31 (.agg ⟨([(.int .i64 ((G.getD i nm0).cl)), (.int .i64 ((G.getD i nm0).sq))] : List Value)⟩) ?_ (he := fun _ H' => (Z05 (vs := ([(.int .i64 ((G.getD i nm0).cl)), (.int .i64 ((G.getD i nm0).sq))] : List Value)) rfl (by kernel_rfl) (by kernel_rfl) (Nat.le_of_ble_eq_true (by kernel_rfl)) (H'.runR 0 rfl (Z0W R55 0 (by kernel_rfl) (show o52 + ((i : Int)).toNat * 2 = o52 + i * 2 + 0 by omega)) (fun h => h))))
  refine Z4q 8 fun Kq kq => ?_
  refine Z0F (kt := 59) (et := 4) rfl H49 3 rfl nmK (by kernel_rfl) rfl (⟨(G.getD i nm0).cl, (G.getD i nm0).sq⟩ : NmD) rfl true rfl ?_
  intro w57 H58
  have S59 := H58.pk [0, 1, 2, 4, 5]
  refine kq _ _ S59 <| zhf <| Z7 <| ztn ?_
  have H60 : Sat w [Z3 w (fun _ => False), Z0 b2 38 ([(.int .i64 (F)), (.int .i64 (c1)), (pt b 0), (pt r 0), (.int .i64 (F2)), (.int .i64 (c2)), (.int .i64 (ep)), (.int .u64 (last)), (.slice la G.length lc), (.slice oa O.length oc)] : List Value), Z0 b6 54 ([(.int .i64 (0)), (.int .i64 (0)), (.int .i64 (0)), (.int .u64 (0)), ((Go.Value.map none)), ((Go.Value.map none))] : List Value), Z0B b10 nmV Value.bool (Z6n (G.take (i + 1))), Z0B b14 (Value.int .i64) Z3N [], Z0 b18 54 ([(.int .i64 (F)), (.int .i64 (c1)), (.int .i64 (ep)), (.int .u64 (last)), (.map (some b10)), (.map (some b14))] : List Value)] w57 := by rw [Zbb (by omega)]; exact H58
  refine Zl <| zwi 32 ((i : Int) + 1) <| wv 21 (.int .i64 ((i : Int) + 1)) <| Zu <| Z6 ?_ _ ⟨(i + 1), rfl, (by omega), H60, rfl⟩ (by omega)
  exact zs
 have g61 := of_decide_eq_false b30
 refine Z2X _ b30 ?_
 refine zxb <| ztn <| Z5 <| Z5 ?_
 have hiG : G.take i = G := List.take_of_length_le (by omega)
 refine Zl <| wv 33 (pt b2 4) <| wv 34 (pt b2 9) <| zw1 35 (.slice oa O.length oc) (H27.cell 1 rfl rfl) <| wv 36 (.int .i64 ((O.length : Int))) <| wv 37 (.int .i64 (0)) <| znt <| Za <| Zw ([5] ++ List.range' 37 20) (fun F_ W_ m_ => ∃ (k : Nat), F_ 37 = (.int .i64 ((k : Int))) ∧ (k ≤ O.length) ∧ Sat w [Z3 w (fun _ => False), Z0 b2 38 (Z5m F c1 b r F2 c2 ep last la G.length lc oa O.length oc), Z0 b6 54 (Z4H (Go.Value.map none)), Z0B b10 nmV Value.bool (Z6n (G.take i)), Z0B b14 (Value.int .i64) Z3N (Z2D (O.take k)), Z0 b18 54 (Z39 F c1 ep last b10 b14)] W_ ∧ m_ = O.length - k) _ ⟨0, (show ((.int .i64 (0)) : Value) = _ by first | rfl | go_num), (Nat.zero_le _), H27, rfl⟩ ?_
 rintro g63 w64 _ ⟨k, v66, hk, H65, rfl⟩
 refine Zd 37 _ v66 ?_
 refine zsl <| wv 38 (.bool (decide ((k : Int) < (O.length : Int)))) <| znt <| Z5 ?_
 refine (ZJ (decide ((k : Int) < (O.length : Int)))).elim (fun b68 => ?_) (fun b68 => ?_)
 ·have g69 := of_decide_eq_true b68
  refine Z33 _ b68 ?_
  refine Zt <| ztn <| Z5 <| Za <| zsl <| wv 39 (.int .i64 ((k : Int))) <| wv 5 (.int .i64 ((k : Int))) <| znt ?_
  obtain ⟨g71, o72, c73, e74, R75⟩ := SliceOf.atD hO Z4y (show k < O.length by omega)
  obtain ⟨g76, o77, c78, e79, R80⟩ := SliceOf.atD hO Z4y (show k < O.length by omega)
  obtain ⟨g81, o82, c83, e84, R85⟩ := SliceOf.atD hO Z4y (show k < O.length by omega)
  refine Z08 H65 [Z3 w (fun _ => False), Z0 b2 38 (Z5m F c1 b r F2 c2 ep last la G.length lc oa O.length oc), Z0 b6 54 (Z4H (Go.Value.map none)), Z0B b10 nmV Value.bool (Z6n (G.take i)), Z0 b18 54 (Z39 F c1 ep last b10 b14)] 17 rfl (by kernel_rfl) (fun Hx => (Hx.pk [0, 1, 2, 3, 5])) ?_
  intro w86 H87 S88
  refine hv0 0 S88 40 (pt b18 5) <| hv0 1 S88 41 (.map (some b14)) ?_ (he := fun _ H' => (zl1 (H'.cell 4 rfl rfl)))
  refine hv0 2 S88 42 (pt b2 4) <| hv0 3 S88 43 (pt b2 9) <| hv0 4 S88 44 (.slice oa O.length oc) ?_ (he := fun _ H' => (zl1 (H'.cell 1 rfl rfl)))
  refine hv0 5 S88 45 (.int .i64 ((k : Int))) ?_
  obtain ⟨g89, o90, c91, e92, R93⟩ := SliceOf.atD hO Z4y (show k < O.length by omega)
  refine Z3u 6 rfl (by kernel_rfl) (by kernel_rfl) (by kernel_rfl) (fun _ _ _ h => h) S88 (Zb rfl) (d := 46) (v := (.pointer (some ⟨g89, o90 + ((k : Int)).toNat * 36, none⟩))) rfl (fun _ H' => (Zh (E := 102) (by kernel_rfl) (by kernel_rfl) (Nat.le_of_ble_eq_true rfl) rfl e92 rfl (by omega) (by omega))) ?_
  refine hv0 7 S88 47 (.pointer (some ⟨g89, o90 + ((k : Int)).toNat * 36, none⟩)) <| hv0 8 S88 48 (.int .i64 ((O.getD k Z4y).i)) ?_ (he := fun _ H' => (zl1 (H'.cellR 0 rfl (Z0P R93 0 (by kernel_rfl) (show o90 + ((k : Int)).toNat * 36 = o90 + k * 36 + 0 by omega)) (fun h => h))))
  refine hv0 9 S88 49 (pt b2 4) <| hv0 10 S88 50 (pt b2 9) <| hv0 11 S88 51 (.slice oa O.length oc) ?_ (he := fun _ H' => (zl1 (H'.cell 1 rfl rfl)))
  refine hv0 12 S88 52 (.int .i64 ((k : Int))) <| Z3u 13 rfl (by kernel_rfl) (by kernel_rfl) (by kernel_rfl) (fun _ _ _ h => h) S88 (Zb rfl) (d := 53) (v := (.pointer (some ⟨g89, o90 + ((k : Int)).toNat * 36, none⟩))) rfl (fun _ H' => (Zh (E := 102) (by kernel_rfl) (by kernel_rfl) (Nat.le_of_ble_eq_true rfl) rfl e92 rfl (by omega) (by omega))) ?_
  refine hv0 14 S88 54 (.pointer (some ⟨g89, o90 + ((k : Int)).toNat * 36 + 1, none⟩)) <| hv0 15 S88 55 (.agg ⟨(ZaN (O.getD k Z4y))⟩) ?_ (he := fun _ H' => (Z05 (vs := (ZaN (O.getD k Z4y))) rfl (by kernel_rfl) (by kernel_rfl) (Nat.le_of_ble_eq_true (by kernel_rfl)) (H'.runR 0 rfl (Z0W R93 1 (by kernel_rfl) (show o90 + ((k : Int)).toNat * 36 + 1 = o90 + k * 36 + 1 by omega)) (fun h => h))))
  refine Z4q 16 fun Kq kq => ?_
  refine Z0F (kt := 3) (et := 63) rfl H87 4 rfl (KeyTy.int (by kernel_rfl)) (by kernel_rfl) rfl ((O.getD k Z4y).i) rfl (⟨(O.getD k Z4y).cl, (O.getD k Z4y).sq, ((O.getD k Z4y).h), (O.getD k Z4y).t⟩ : Z1H) rfl ?_
  intro w95 H96
  have S97 := H96.pk [0, 1, 2, 3, 5]
  refine kq _ _ S97 <| zhf <| Z7 <| ztn ?_
  have H98 : Sat w [Z3 w (fun _ => False), Z0 b2 38 ([(.int .i64 (F)), (.int .i64 (c1)), (pt b 0), (pt r 0), (.int .i64 (F2)), (.int .i64 (c2)), (.int .i64 (ep)), (.int .u64 (last)), (.slice la G.length lc), (.slice oa O.length oc)] : List Value), Z0 b6 54 ([(.int .i64 (0)), (.int .i64 (0)), (.int .i64 (0)), (.int .u64 (0)), ((Go.Value.map none)), ((Go.Value.map none))] : List Value), Z0B b10 nmV Value.bool (Z6n (G.take i)), Z0B b14 (Value.int .i64) Z3N (Z2D (O.take (k + 1))), Z0 b18 54 ([(.int .i64 (F)), (.int .i64 (c1)), (.int .i64 (ep)), (.int .u64 (last)), (.map (some b10)), (.map (some b14))] : List Value)] w95 := by rw [Za6 (by omega)]; exact H96
  refine Zl <| zwi 56 ((k : Int) + 1) <| wv 37 (.int .i64 ((k : Int) + 1)) <| Zu <| Z6 ?_ _ ⟨(k + 1), rfl, (by omega), H98, rfl⟩ (by omega)
  exact zs
 have g99 := of_decide_eq_false b68
 refine Z2X _ b68 ?_
 refine zxb <| ztn <| zsl <| zwN 57 (Z39 F c1 ep last b10 b14) (H65.at 5 rfl) <| zwd fun Kq kq => Z1z (Z39 F c1 ep last b10 b14) H65 2 fun w102 H103 => ?_
 refine kq _ _ <| znt <| Zq <| Z66 rfl (ZL (vs := (Z39 F c1 ep last b10 b14)) rfl (by kernel_rfl) (by kernel_rfl) (Nat.le_of_ble_eq_true (by kernel_rfl)) (H103.at 2 rfl) (by kernel_rfl)) ?_
 have hkO : O.take k = O := List.take_of_length_le (by omega)
 rw [hiG, hkO] at H103
 exact ⟨b10, b14, rfl, H103.fn [3, 4], H103.upd 0 rfl [] (fun _ h => h.elim), H103.freshS 0 rfl (fun _ h => h) [3, 4] rfl rfl⟩
abbrev Z4Y (p0 : OpR) : List Value := ([(.int .i64 p0.i), (.slice p0.pa p0.P.length p0.pc)] : List Value) ++ hc p0.h
abbrev ZaG (p0 : TbR) : List Value := ([(.int .i64 p0.i), (.slice p0.da p0.D.length p0.dc)] : List Value)
abbrev ZaY (p0 : Int) (p1 : Int) (p2 : Int) (p3 : Int) (p4 : Value) (p5 : Nat) : List Value := ([(.int .i64 p0), (.int .i64 p1), (.int .i64 p2), (.int .u64 p3), p4, (.map (some p5))] : List Value)
abbrev Z3x (p0 : Z1H) : List Value := ([(.int .i64 p0.cl), (.int .i64 p0.sq)] : List Value) ++ hc p0.h ++ ([(.int .u64 p0.t)] : List Value)
abbrev Zap : List Value := ([(.int .i64 (0)), (.int .i64 (0))] : List Value) ++ hc Zn ++ ([(.int .u64 (0))] : List Value)
def Z6Q (M : List (Int × Z1H)) (o : OpR) : Bool := (Zp M o.i).isSome && decide ((o.P.length : Int) ≤ 256) && decide (((Zp M o.i).getD Z2L).h = Z0l (ofT ((Zp M o.i).getD Z2L).cl ((Zp M o.i).getD Z2L).sq o.h o.P))
def Z8V (M : List (Int × Z1H)) (o : OpR) : Bool := Z6Q M o
def Z7m (M : List (Int × Z1H)) (X : List (Int × Bool)) (t : TbR) : Bool := (Zp M t.i).isSome && !((Zp X t.i).getD false)
def OpenOk (M : List (Int × Z1H)) : Prop := ∀ i, ((Zp M i).getD Z2L).cl ≤ 1000000 ∧ ((Zp M i).getD Z2L).sq ≤ 1000000
theorem Z9O (w : World) (p : OpR) :
  Calls Tryz.prog 51 #[(.agg ⟨(([(.int .i64 (p.i)), ((.slice p.pa p.P.length p.pc))] : List Value) ++ hc p.h)⟩)] w fun e w' => e = .returned (.int .i64 p.i) ∧ Upd [] w w' := by
 have H := Sat.start0 w
 refine Z8 Tryz.func51 rfl 5 rfl (Nat.le_of_ble_eq_true rfl) ?_
 refine zsl <| zwd fun Kq kq => zdb (Z4Y p) H fun b2 w3 H4 => ?_
 refine kq _ _ <| wv 2 (.int .i64 (0)) <| Z0y <| wv 3 (pt b2 0) <| zw1 4 (.int .i64 (p.i)) (H4.cell 1 rfl (by kernel_rfl)) <| wv 2 (.int .i64 (p.i)) <| znt <| Zq <| ze1 (.int .i64 (p.i)) ?_
 exact ⟨rfl, H4.upd 0 rfl [] (fun _ h => h.elim)⟩
theorem Z9I (w : World) (p : TbR) :
  Calls Tryz.prog 55 #[(.agg ⟨([(.int .i64 (p.i)), ((.slice p.da p.D.length p.dc))] : List Value)⟩)] w fun e w' => e = .returned (.int .i64 p.i) ∧ Upd [] w w' := by
 have H := Sat.start0 w
 refine Z8 Tryz.func55 rfl 5 rfl (Nat.le_of_ble_eq_true rfl) ?_
 refine zsl <| zwd fun Kq kq => zdb (ZaG p) H fun b2 w3 H4 => ?_
 refine kq _ _ <| wv 2 (.int .i64 (0)) <| Z0y <| wv 3 (pt b2 0) <| zw1 4 (.int .i64 (p.i)) (H4.cell 1 rfl rfl) <| wv 2 (.int .i64 (p.i)) <| znt <| Zq <| ze1 (.int .i64 (p.i)) ?_
 exact ⟨rfl, H4.upd 0 rfl [] (fun _ h => h.elim)⟩
theorem Za2 (w : World) (F c E last : Int) (vm : Value) (mo : Nat) (M : List (Int × Z1H)) (hmo : MapAt w mo (Value.int .i64) Z3N M) (hM : OpenOk M) (o : OpR) (ho : ListAt Zy 1 w (.slice o.pa o.P.length o.pc) o.P) (hlo : o.P.length ≤ 1000) :
  Calls Tryz.prog 49 #[(.agg ⟨([(.int .i64 (F)), (.int .i64 (c)), (.int .i64 (E)), (.int .u64 (last)), (vm), (.map (some mo))] : List Value)⟩), (.agg ⟨(([(.int .i64 (o.i)), (.slice o.pa o.P.length o.pc)] : List Value) ++ hc o.h)⟩)] w fun e w' => e = .returned (.bool (Z6Q M o)) ∧ Upd [] w w' := by
 have H := Sat.start0 w
 refine Z8 Tryz.func49 rfl 30 rfl (Nat.le_of_ble_eq_true rfl) ?_
 refine zsl <| zwd fun Kq kq => zdb (ZaY F c E last vm mo) H fun b2 w3 H4 => ?_
 refine kq _ _ <| zwd fun Kq kq => zdb (Z4Y o) H4 fun b6 w7 H8 => ?_
 refine kq _ _ <| wv 4 (.bool false) <| Z0y <| wv 8 (pt b2 5) <| zw1 9 (.map (some mo)) (H8.cell 1 rfl rfl) <| wv 10 (pt b6 0) <| zw1 11 (.int .i64 (o.i)) (H8.cell 2 rfl (by kernel_rfl)) <| wv 12 (.tuple #[(.agg ⟨(Z3x ((Zp M o.i).getD Z2L))⟩), (.bool ((Zp M o.i).isSome))]) ?_ (hr := Z5j (kt := 3) (et := 63) (KeyTy.int (by kernel_rfl)) (by kernel_rfl) Zaw rfl o.i rfl (H8.roMap 0 rfl hmo (fun h => h)) (ZaW Z3N _ _) rfl)
 refine wv 7 (.tuple #[(.agg ⟨(Z3x ((Zp M o.i).getD Z2L))⟩), (.bool ((Zp M o.i).isSome))]) <| wv 13 (.agg ⟨(Z3x ((Zp M o.i).getD Z2L))⟩) <| wv 14 (.bool ((Zp M o.i).isSome)) <| zwd fun Kq kq => zda (Zap) H8 fun b10 w11 H12 => ?_
 refine kq _ _ <| zwd fun Kq kq => Z1z (Z3x ((Zp M o.i).getD Z2L)) H12 3 fun w14 H15 => ?_
 refine kq _ _ <| wv 6 (.bool ((Zp M o.i).isSome)) <| Z0y <| wv 15 (.bool ((Zp M o.i).isSome)) <| wv 16 (.bool ((Zp M o.i).isSome)) ?_
 refine (ZJ ((Zp M o.i).isSome)).elim (fun b17 => ?_) (fun b17 => ?_)
 ·refine Z06 16 (.bool true) (congrArg Value.bool b17) ?_
  refine wy 1 16 true 17 (pt b6 1) <| wy 1 16 true 18 (.slice o.pa o.P.length o.pc) ?_ (hr := zl1 (H15.cell 2 rfl (by kernel_rfl)))
  refine wy 1 16 true 19 (.int .i64 ((o.P.length : Int))) <| wy 1 16 true 20 (.bool (decide ((o.P.length : Int) ≤ 256))) <| wv 21 (.bool (decide ((o.P.length : Int) ≤ 256))) <| wv 22 (.bool (decide ((o.P.length : Int) ≤ 256))) ?_
  refine (ZJ (decide ((o.P.length : Int) ≤ 256))).elim (fun b18 => ?_) (fun b18 => ?_)
  ·have g19 := of_decide_eq_true b18
   refine Z06 22 (.bool true) (congrArg Value.bool b18) ?_
   refine wy 7 22 true 23 (pt b10 2) <| wy 7 22 true 24 (.agg ⟨(hc ((Zp M o.i).getD Z2L).h)⟩) ?_ (hr := zlN (vs := (hc ((Zp M o.i).getD Z2L).h)) (H15.at 3 rfl))
   refine wy 7 22 true 25 (pt b10 0) <| wy 7 22 true 26 (.agg ⟨([(.int .i64 (((Zp M o.i).getD Z2L).cl)), (.int .i64 (((Zp M o.i).getD Z2L).sq))] : List Value)⟩) ?_ (hr := zlN (vs := ([(.int .i64 (((Zp M o.i).getD Z2L).cl)), (.int .i64 (((Zp M o.i).getD Z2L).sq))] : List Value)) (H15.at 3 rfl))
   refine wy 7 22 true 27 (.agg ⟨(Z4Y o)⟩) ?_ (hr := zlN (vs := (Z4Y o)) (H15.at 2 rfl))
   refine Z5I (Z11 7 22 true rfl (by kernel_rfl) rfl (by kernel_rfl)) (fun Kq kq => ?_)
   refine zdq 28 (Z9i w14 ((Zp M o.i).getD Z2L).h o.i ((Zp M o.i).getD Z2L).cl ((Zp M o.i).getD Z2L).sq o.h o.pa o.pc o.P (ListAt.now H15 0 rfl ho) (by have q := hM o.i; omega) (by have q := hM o.i; omega) hlo) H15 ?_
   intro w22 H23
   refine kq _ _ <| wv 29 (.bool (decide (((Zp M o.i).getD Z2L).h = Z0l (ofT ((Zp M o.i).getD Z2L).cl ((Zp M o.i).getD Z2L).sq o.h o.P)))) <| wv 4 (.bool (decide (((Zp M o.i).getD Z2L).h = Z0l (ofT ((Zp M o.i).getD Z2L).cl ((Zp M o.i).getD Z2L).sq o.h o.P)))) <| znt <| Zq <| ze1 (.bool (decide (((Zp M o.i).getD Z2L).h = Z0l (ofT ((Zp M o.i).getD Z2L).cl ((Zp M o.i).getD Z2L).sq o.h o.P)))) ?_
   exact ⟨by unfold Z6Q; simp [b17, b18], H23.upd 0 rfl [] (fun _ h => h.elim)⟩
  have g25 := of_decide_eq_false b18
  refine Z06 22 (.bool false) (congrArg Value.bool b18) ?_
  iterate 6 refine wn 7 22 true ?_
  refine wv 29 (.bool false) <| wv 4 (.bool false) <| znt <| Zq <| ze1 (.bool false) ?_
  exact ⟨by unfold Z6Q; simp [b17, b18], H15.upd 0 rfl [] (fun _ h => h.elim)⟩
 refine Z06 16 (.bool false) (congrArg Value.bool b17) ?_
 iterate 4 refine wn 1 16 true ?_
 refine wv 21 (.bool false) <| wv 22 (.bool false) ?_
 iterate 6 refine wn 7 22 true ?_
 refine wv 29 (.bool false) <| wv 4 (.bool false) <| znt <| Zq <| ze1 (.bool false) ?_
 exact ⟨by unfold Z6Q; simp [b17], H15.upd 0 rfl [] (fun _ h => h.elim)⟩
theorem Zb7 (w : World) (F c E last : Int) (vm : Value) (mo : Nat) (M : List (Int × Z1H)) (hmo : MapAt w mo (Value.int .i64) Z3N M) (hM : OpenOk M) (o : OpR) (ho : ListAt Zy 1 w (.slice o.pa o.P.length o.pc) o.P) (hlo : o.P.length ≤ 1000) (s : Nat) (hs : (Z0 s 54 ([(.int .i64 (F)), (.int .i64 (c)), (.int .i64 (E)), (.int .u64 (last)), (vm), (.map (some mo))] : List Value)).ok w) :
  Calls Tryz.prog 48 #[(.agg ⟨(([(.int .i64 (o.i)), (.slice o.pa o.P.length o.pc)] : List Value) ++ hc o.h)⟩), (.pointer (some ⟨s, 0, none⟩))] w fun e w' => e = .returned (.bool (Z8V M o)) ∧ Upd [] w w' := by
 have H := Sat.start0 w
 refine Z8 Tryz.func48 rfl 7 rfl (Nat.le_of_ble_eq_true rfl) ?_
 refine zsl <| zwd fun Kq kq => zdb (Z4Y o) H fun b2 w3 H4 => ?_
 refine kq _ _ <| wv 3 (.bool false) <| Z0y <| zwN 4 (ZaY F c E last vm mo) (H4.roCells 0 rfl hs (fun h => h)) <| zwN 5 (Z4Y o) (H4.at 1 rfl) <| zwd fun Kq kq => zdq 6 (Za2 w3 F c E last vm mo M (H4.roMap 0 rfl hmo (fun h => h)) hM o (ListAt.now H4 0 rfl ho) hlo) H4 fun w6 H7 => ?_
 refine kq _ _ <| wv 3 (.bool (Z6Q M o)) <| znt <| Zq <| ze1 (.bool (Z6Q M o)) ?_
 exact ⟨rfl, H7.upd 0 rfl [] (fun _ h => h.elim)⟩
theorem Zbq (w : World) (F c E last : Int) (vm : Value) (mo : Nat) (M : List (Int × Z1H)) (hmo : MapAt w mo (Value.int .i64) Z3N M) (s : Nat) (hs : (Z0 s 54 ([(.int .i64 (F)), (.int .i64 (c)), (.int .i64 (E)), (.int .u64 (last)), (vm), (.map (some mo))] : List Value)).ok w) (ob hm : Nat) (X : List (Int × Bool)) (hob : (Z0 ob 129 [.map (some hm)]).ok w) (hhm : MapAt w hm (Value.int .i64) Value.bool X) (t : TbR) :
  Calls Tryz.prog 53 #[(.agg ⟨([(.int .i64 (t.i)), ((.slice t.da t.D.length t.dc))] : List Value)⟩), (.pointer (some ⟨s, 0, none⟩)), (.pointer (some ⟨ob, 0, none⟩))] w fun e w' => e = .returned (.bool (Z7m M X t)) ∧ Upd [] w w' := by
 have H := Sat.start0 w
 refine Z8 Tryz.func53 rfl 23 rfl (Nat.le_of_ble_eq_true rfl) ?_
 refine zsl <| zwd fun Kq kq => zdb (ZaG t) H fun b2 w3 H4 => ?_
 refine kq _ _ <| wv 4 (.bool false) <| Z0y <| wv 8 (pt s 5) <| zw1 9 (.map (some mo)) (H4.roCell 0 rfl hs (fun h => h) rfl) <| wv 10 (pt b2 0) <| zw1 11 (.int .i64 (t.i)) (H4.cell 1 rfl rfl) <| wv 12 (.tuple #[(.agg ⟨(Z3x ((Zp M t.i).getD Z2L))⟩), (.bool ((Zp M t.i).isSome))]) ?_ (hr := Z5j (kt := 3) (et := 63) (KeyTy.int (by kernel_rfl)) (by kernel_rfl) Zaw rfl t.i rfl (H4.roMap 0 rfl hmo (fun h => h)) (ZaW Z3N _ _) rfl)
 refine wv 7 (.tuple #[(.agg ⟨(Z3x ((Zp M t.i).getD Z2L))⟩), (.bool ((Zp M t.i).isSome))]) <| wv 13 (.agg ⟨(Z3x ((Zp M t.i).getD Z2L))⟩) <| wv 14 (.bool ((Zp M t.i).isSome)) <| zwd fun Kq kq => zda (Zap) H4 fun b6 w7 H8 => ?_
 refine kq _ _ <| zwd fun Kq kq => Z1z (Z3x ((Zp M t.i).getD Z2L)) H8 2 fun w10 H11 => ?_
 refine kq _ _ <| wv 6 (.bool ((Zp M t.i).isSome)) <| Z0y <| wv 15 (.bool ((Zp M t.i).isSome)) <| wv 16 (.bool ((Zp M t.i).isSome)) ?_
 refine (ZJ ((Zp M t.i).isSome)).elim (fun b13 => ?_) (fun b13 => ?_)
 ·refine Z06 16 (.bool true) (congrArg Value.bool b13) ?_
  refine wy 1 16 true 17 (.map (some hm)) ?_ (hr := zl1 (H11.roCell 0 rfl hob (fun h => h) rfl))
  refine wy 1 16 true 18 (pt b2 0) <| wy 1 16 true 19 (.int .i64 (t.i)) ?_ (hr := zl1 (H11.cell 1 rfl rfl))
  refine wy 1 16 true 20 (.bool ((Zp X t.i).getD false)) ?_ (hr := Z35 (kt := 3) (et := 4) (KeyTy.int (by kernel_rfl)) (by kernel_rfl) (fun w => by kernel_rfl) rfl t.i rfl (H11.roMap 0 rfl hhm (fun h => h)) (ZaW Value.bool _ _))
  refine wy 1 16 true 21 (.bool (!((Zp X t.i).getD false))) <| wv 22 (.bool (!((Zp X t.i).getD false))) <| wv 4 (.bool (!((Zp X t.i).getD false))) <| znt <| Zq <| ze1 (.bool (!((Zp X t.i).getD false))) ?_
  exact ⟨by unfold Z7m; simp [b13], H11.upd 0 rfl [] (fun _ h => h.elim)⟩
 refine Z06 16 (.bool false) (congrArg Value.bool b13) ?_
 iterate 5 refine wn 1 16 true ?_
 refine wv 22 (.bool false) <| wv 4 (.bool false) <| znt <| Zq <| ze1 (.bool false) ?_
 exact ⟨by unfold Z7m; simp [b13], H11.upd 0 rfl [] (fun _ h => h.elim)⟩
section
variable {M : List (Int × Z1H)}
theorem OpenOk.nil : OpenOk [] := fun i => by simp [Zp, Z2L]
theorem OpenOk.put {a : Int} {v : Z1H} (h : OpenOk M) (hv : v.cl ≤ 1000000 ∧ v.sq ≤ 1000000) : OpenOk (Z2j M a v) := fun i => by
 by_cases e : i = a
 ·subst e; rw [Z5x]; exact hv
 ·rw [Z59 _ _ _ _ e]; exact h i
theorem open3 : OpenOk (Z2D (Z03 3)) := by
 have e : Z2D (Z03 3) = Z2j (Z2j (Z2j [] (Z2S 0).i ⟨(Z2S 0).cl, (Z2S 0).sq, (Z2S 0).h, (Z2S 0).t⟩) (Z2S 1).i ⟨(Z2S 1).cl, (Z2S 1).sq, (Z2S 1).h, (Z2S 1).t⟩) (Z2S 2).i ⟨(Z2S 2).cl, (Z2S 2).sq, (Z2S 2).h, (Z2S 2).t⟩ := rfl
 rw [e]
 exact ((OpenOk.nil.put ⟨by show ((0 : Nat) : Int) ≤ 1000000; decide, by show (50 : Int) ≤ 1000000; decide⟩).put ⟨by show ((1 : Nat) : Int) ≤ 1000000; decide, by show (50 : Int) ≤ 1000000; decide⟩).put ⟨by show ((2 : Nat) : Int) ≤ 1000000; decide, by show (50 : Int) ≤ 1000000; decide⟩
end
section
variable {α : Type} {num : α → Int} {may : α → Bool} {L D : List α}
theorem ZbO {n : Nat} (h : ∀ x ∈ L, 0 ≤ num x ∧ num x < n) : (Z13 num may L).length ≤ n := by
 have hd := Z5W (num := num) (may := may) (L := L)
 have hm : ∀ x ∈ Z13 num may L, 0 ≤ num x ∧ num x < n := fun x hx => h x (Z7q hx).1
 have := Z5h n ((Z13 num may L).map fun x => (num x).toNat) ?_ fun y hy => ?_
 ·simpa using this
 ·rw [List.Nodup, List.pairwise_map]
  refine (List.pairwise_iff_forall_sublist.2 fun {a b} hs => ?_)
  have ha : a ∈ Z13 num may L := hs.subset (by simp)
  have hb : b ∈ Z13 num may L := hs.subset (by simp)
  have hne := List.pairwise_iff_forall_sublist.1 hd hs
  have h1 := hm a ha; have h2 := hm b hb
  intro e; exact hne (by omega)
 ·obtain ⟨x, hx, rfl⟩ := List.mem_map.1 hy
  have := hm x hx; omega
theorem SortN.id (hs : SortN num may L D) (hup : L.Pairwise fun a b => num a < num b) (hm : ∀ x ∈ L, may x = true) : D = L := by
 refine Z5g hs.up hup fun x => ?_
 rw [hs.mem]
 constructor
 ·exact fun h => List.mem_of_find?_eq_some h
 ·intro hx
  obtain ⟨z, hz⟩ := Option.isSome_iff_exists.1 (List.find?_isSome (p := fun y => decide (num y = num x) && may y) (xs := L) |>.2 ⟨x, hx, by simp [hm x hx]⟩)
  rw [hz]
  have h1 := List.mem_of_find?_eq_some hz
  have h2 := List.find?_some hz
  simp only [Bool.and_eq_true, decide_eq_true_eq] at h2
  obtain ⟨i, hi, ei⟩ := List.mem_iff_getElem.1 h1
  obtain ⟨j, hj, ej⟩ := List.mem_iff_getElem.1 hx
  rcases Nat.lt_trichotomy i j with q | q | q
  ·have := List.pairwise_iff_getElem.1 hup i j hi hj q
   rw [ei, ej] at this; omega
  ·subst q; rw [ei] at ej; rw [ej]
  ·have := List.pairwise_iff_getElem.1 hup j i hj hi q
   rw [ei, ej] at this; omega
end
structure CeV (F last tm : Int) (Lb : List Signed) (c : CeR) : Prop where
 x : CoB c.x
 S : ∀ i, i < c.S.length → StB (c.S.getD i Zf)
 len : c.S.length ≤ 12
 sm : Z3B ⟨c.x.cl, c.x.seq⟩
 rt : Z14 F 3 Lb c.x c.S = true
 time : last < Zj c.S ∧ Zj c.S ≤ tm
structure PrV (F last tm : Int) (Lb : List Signed) (p : PrR) : Prop where
 r : 0 ≤ p.r ∧ p.r < 3 * F + 1
 e : p.e = 4
 f : p.f = tm
 sb : p.sb = p.r
 sm : Z0M Lb p.sb p.sm (Z0R p) = true
 len : p.C.length ≤ 5
 ce : ∀ c ∈ p.C, CeV F last tm Lb c
 up : p.C.Pairwise fun a b => Z7j a b = true
section
variable {F last tm : Int} {Lb Lb' : List Signed} {B : List Ck} {p q : PrR} {PS PD DP : List PrR} {w : World}
theorem PrG.val (h : PrG F last tm Lb B p) : PrV F last tm Lb p :=
 ⟨h.r, h.e, h.f, h.sb, h.sm, h.len, fun c hc => ⟨(h.tab.ct c hc).x, (h.tab.ct c hc).S, (h.tab.ct c hc).len, h.tab.sm c hc, h.tab.rt c hc, h.time c hc⟩, h.tab.up⟩
theorem PrG.prk (h : PrG F last tm Lb B p) (hb : (Z0b B).ok w) : PrK w p :=
 ⟨bag_ce hb h.inn, Nat.le_trans h.len (by decide), fun i hi => hb _ (h.tab.ct _ (Z3O hi)).bag, fun i hi => Nat.le_trans (h.tab.ct _ (Z3O hi)).len (by decide)⟩
theorem PrG.may (h : PrG F last tm Lb B p) : Z7o F 4 tm p = true := by
 unfold Z7o inB
 rw [decide_eq_true h.r.1, decide_eq_true h.r.2, decide_eq_true h.e, decide_eq_true h.f]; rfl
theorem PsF.up (h : PsF F last tm Lb B PS) : PS.Pairwise fun a b => a.r < b.r := by
 have h1 : (PS.map (·.r)).Pairwise (· < ·) := by
  rw [h.nums, List.pairwise_map]
  exact List.pairwise_lt_range.imp fun h => by omega
 exact List.pairwise_map.1 h1
theorem PsF.dp (h : PsF F last tm Lb B PS) (hs : SortN (fun x : PrR => x.r) (Z7o F 4 tm) PS DP) : DP = PS := hs.id h.up fun x hx => (h.all x hx).may
theorem PsF.lim (h : PsF F last tm Lb B PS) (hF : 1 ≤ F ∧ F ≤ 2) {m : PrR → Bool} : (Z13 (fun x : PrR => x.r) m PS).length ≤ 12 :=
 Nat.le_trans (ZbO (n := 7) fun x hx => by have := (h.all x hx).r; omega) (by decide)
theorem PsF.len (h : PsF F last tm Lb B PS) (hF : 1 ≤ F) : (PS.length : Int) = 3 * F + 1 := by
 have := h.length; omega
theorem Zf4 {β γ : Type} {key : β → γ} {X Y : List β} {y : β} (h : Y.map key = X.map key) (hy : y ∈ Y) : ∃ x ∈ X, key y = key x := by
 have : key y ∈ Y.map key := List.mem_map_of_mem hy
 rw [h] at this
 obtain ⟨x, hx, e⟩ := List.mem_map.1 this
 exact ⟨x, hx, e.symm⟩
theorem ce_key {c d : CeR} (e : (c.x, c.S) = (d.x, d.S)) : c.x = d.x ∧ c.S = d.S := by simpa using e
theorem Zdh (e : ZbB p = ZbB q) : Z0R p = Z0R q := by
 unfold ZbB at e
 simp only [Prod.mk.injEq] at e
 obtain ⟨e1, e2, e3, _, _, e6⟩ := e
 have hl : p.C.length = q.C.length := by simpa using congrArg List.length e6
 have hc : Z79 p.C = Z79 q.C := by
  have hpc : ∀ C : List CeR, Z79 C = (C.map fun c => (c.x, c.S)).flatMap fun y => [Z0f y.1, Zi (y.2.length : Int)].flatten ++ Z7V y.2 := fun C => by
   unfold Z79
   rw [List.flatMap_map]; rfl
  rw [hpc, hpc, e6]
 unfold Z0R Z1D
 rw [e1, e2, e3, hl, hc]
theorem Z9b {C D : List CeR} (e : C.map (fun c => (c.x, c.S)) = D.map fun c => (c.x, c.S)) (h : D.Pairwise fun a b => Z7j a b = true) : C.Pairwise fun a b => Z7j a b = true := by
 have f : ∀ (a b : Z9 × List Z4), Bool := fun a b => decide (a.1.cl < b.1.cl) || (decide (a.1.cl = b.1.cl) && decide (a.1.seq < b.1.seq))
 have hd : (D.map fun c => (c.x, c.S)).Pairwise fun a b => (decide (a.1.cl < b.1.cl) || (decide (a.1.cl = b.1.cl) && decide (a.1.seq < b.1.seq))) = true := List.pairwise_map.2 h
 rw [← e] at hd
 exact List.pairwise_map.1 hd
theorem PrV.key (h : PrV F last tm Lb q) (e : ZbB p = ZbB q) : PrV F last tm Lb p := by
 have hb := Zdh e
 unfold ZbB at e
 simp only [Prod.mk.injEq] at e
 obtain ⟨e1, e2, e3, e4, e5, e6⟩ := e
 have hl : p.C.length = q.C.length := by simpa using congrArg List.length e6
 refine ⟨by rw [e1]; exact h.r, by rw [e2]; exact h.e, by rw [e3]; exact h.f, by rw [e4, e1]; exact h.sb, by rw [e4, e5, hb]; exact h.sm, by rw [hl]; exact h.len, fun c hc => ?_, Z9b e6 h.up⟩
 obtain ⟨d, hd, ed⟩ := Zf4 e6 hc
 obtain ⟨ex, eS⟩ := ce_key ed
 have hv := h.ce d hd
 exact ⟨by rw [ex]; exact hv.x, by rw [eS]; exact hv.S, by rw [eS]; exact hv.len, by rw [ex]; exact hv.sm, by rw [ex, eS]; exact hv.rt, by rw [eS]; exact hv.time⟩
theorem Zev (h : PsF F last tm Lb B PS) {Q : Nat} (hc : CoPs (PS.take Q) PD) : ∀ p ∈ PD, PrV F last tm Lb p := fun p hp => by
 obtain ⟨q, hq, e⟩ := Zf4 hc hp
 exact (h.all q (List.mem_of_mem_take hq)).val.key e
theorem PrV.sms (h : ∀ p ∈ PD, PrV F last tm Lb p) : PSm PD := fun p hp c hc => by
 have hv := (h p hp).ce c hc
 exact ⟨hv.sm, hv.len, fun i hi => (hv.S i hi).1⟩
theorem PrV.more (h : PrV F last tm Lb p) (hp : Lb <+: Lb') : PrV F last tm Lb' p :=
 ⟨h.r, h.e, h.f, h.sb, Z3T hp h.sm, h.len, fun c hc => ⟨(h.ce c hc).x, (h.ce c hc).S, (h.ce c hc).len, (h.ce c hc).sm, Z7s hp (h.ce c hc).rt, (h.ce c hc).time⟩, h.up⟩
end
section
variable {last tm : Int} {lg : NmD → Bool} {Z : List CeR} {O : List Z1H} {c : CeR}
end
end Go.Proofs.YtenihpghfdcpkaaGreat
