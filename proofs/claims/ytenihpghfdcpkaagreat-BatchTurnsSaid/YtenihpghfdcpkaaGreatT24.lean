/- WHAT IS PROVED: contracts and plain laws of Own12, MkO12, Law12M. Conditions: stated with each. -/
import Derived.Test.YtenihpghfdcpkaaGreatT03
import Derived.Test.YtenihpghfdcpkaaGreatT05
import Derived.Test.YtenihpghfdcpkaaGreatT16
import Derived.Test.YtenihpghfdcpkaaGreatT19
import Derived.Test.YtenihpghfdcpkaaGreatT20
import Derived.Test.YtenihpghfdcpkaaGreatT23
set_option maxHeartbeats 4000000
set_option maxRecDepth 100000
namespace Go.Proofs.YtenihpghfdcpkaaGreat
open Go.RowKit
abbrev kOwn12_0 (p0 : Int) (p1 : Int) (p2 : Nat) (p3 : Nat) (p4 : Int) (p5 : Int) (p6 : Int) (p7 : Int) (p8 : Option Addr) (p9 : Nat) (p10 : Nat) (p11 : Option Addr) (p12 : Nat) (p13 : Nat) : List Value := ([(.int .i64 p0), (.int .i64 p1), (pt p2 0), (pt p3 0), (.int .i64 p4), (.int .i64 p5), (.int .i64 p6), (.int .u64 p7), (.slice p8 p9 p10), (.slice p11 p12 p13)] : List Value)
abbrev kOwn12_1 (p0 : Value) : List Value := ([(.int .i64 (0)), (.int .i64 (0)), (.int .i64 (0)), (.int .u64 (0)), p0, p0] : List Value)
abbrev kOwn12_2 (p0 : Int) (p1 : Int) (p2 : Int) (p3 : Int) (p4 : Nat) (p5 : Nat) : List Value := ([(.int .i64 p0), (.int .i64 p1), (.int .i64 p2), (.int .u64 p3), (.map (some p4)), (.map (some p5))] : List Value)
abbrev kOwn12_3 (p0 : SpotD) : List Value := ([(.int .i64 p0.cl), (.int .i64 p0.sq)] : List Value) ++ hc p0.h ++ ([(.int .u64 p0.t)] : List Value)
def openM (O : List SpotD) : List (Int × EntD) := O.foldl (fun M s => putM M s.i ⟨s.cl, s.sq, s.h, s.t⟩) []
def logM (G : List NmD) : List (NmD × Bool) := G.foldl (fun M n => putM M n true) []
theorem openM_step {O : List SpotD} {i : Nat} {x : SpotD} (h : O[i]? = some x) : openM (O.take (i + 1)) = putM (openM (O.take i)) x.i ⟨x.cl, x.sq, x.h, x.t⟩ := by
 unfold openM; rw [List.take_add_one, h, Option.toList_some, List.foldl_append]; rfl
theorem openM_stepD {O : List SpotD} {i : Nat} (h : i < O.length) : openM (O.take (i + 1)) = putM (openM (O.take i)) (O.getD i spot0).i ⟨(O.getD i spot0).cl, (O.getD i spot0).sq, (O.getD i spot0).h, (O.getD i spot0).t⟩ := by
 refine openM_step ?_
 rw [List.getD_eq_getElem?_getD, List.getElem?_eq_getElem h]; rfl
theorem logM_stepD {G : List NmD} {i : Nat} (h : i < G.length) : logM (G.take (i + 1)) = putM (logM (G.take i)) (G.getD i nm0) true := by
 unfold logM
 have e : G.take (i + 1) = G.take i ++ [G.getD i nm0] := by
  rw [List.take_add_one, List.getElem?_eq_getElem h, List.getD_eq_getElem?_getD, List.getElem?_eq_getElem h]; rfl
 rw [e, List.foldl_append]; rfl
theorem wOwn_any (w : World) (b r : Nat) (F c1 F2 c2 ep last : Int) (la : Option Addr) (lc : Nat) (G : List NmD) (hG : ListAt encNm 2 w (.slice la G.length lc) G) (oa : Option Addr) (oc : Nat) (O : List SpotD) (hO : ListAt encSp 36 w (.slice oa O.length oc) O) (hlG : G.length ≤ 1000) (hlO : O.length ≤ 1000) :
  Calls Tryz.prog 13 #[(.agg ⟨([(.int .i64 (F)), (.int .i64 (c1)), (.pointer (some ⟨b, 0, none⟩)), (.pointer (some ⟨r, 0, none⟩)), (.int .i64 (F2)), (.int .i64 (c2)), (.int .i64 (ep)), (.int .u64 (last)), (.slice la G.length lc), (.slice oa O.length oc)] : List Value)⟩)] w fun e w' => ∃ ml mo, e = .returned (.agg ⟨[.int .i64 F, .int .i64 c1, .int .i64 ep, .int .u64 last, .map (some ml), .map (some mo)]⟩) ∧ (sepC [mapC ml nmV Value.bool (logM G), mapC mo (Value.int .i64) entV (openM O)]).ok w' ∧ Upd [] w w' ∧ ∀ q_, (sepC [mapC ml nmV Value.bool (logM G), mapC mo (Value.int .i64) entV (openM O)]).fp q_ → w.heap.size ≤ q_ := by
 have H := Sat.start0 w
 refine calls_fr Tryz.func13 rfl 58 rfl (Nat.le_of_ble_eq_true rfl) ?_
 refine zsl <| zwd fun Kq kq => zdb (kOwn12_0 F c1 b r F2 c2 ep last la G.length lc oa O.length oc) H fun b2 w3 H4 => ?_
 refine kq _ _ <| zwd fun Kq kq => zda (kOwn12_1 (Go.Value.map none)) H4 fun b6 w7 H8 => ?_
 refine kq _ _ <| znsl <| wv 6 (pt b2 0) <| zwN 7 ([(.int .i64 (F)), (.int .i64 (c1))] : List Value) (H8.at 1 rfl) <| wv 8 (pt b2 4) <| wv 9 (pt b2 6) <| zw1 10 (.int .i64 (ep)) (H8.cell 1 rfl rfl) <| wv 11 (pt b2 4) <| wv 12 (pt b2 7) <| zw1 13 (.int .u64 (last)) (H8.cell 1 rfl rfl) ?_
 refine zwd fun Kq kq => d_makeMap nmV Value.bool rfl H8 fun b10 w11 H12 => ?_
 refine kq _ _ <| zwd fun Kq kq => d_makeMap (Value.int .i64) entV rfl H12 fun b14 w15 H16 => ?_
 refine kq _ _ <| wv 16 (.agg ⟨(kOwn12_2 F c1 ep last b10 b14)⟩) <| zwd fun Kq kq => zda (kOwn12_1 (Go.Value.map none)) H16 fun b18 w19 H20 => ?_
 refine kq _ _ <| zwd fun Kq kq => zds1 (kOwn12_2 F c1 ep last b10 b14) H20 5 fun w22 H23 => ?_
 refine kq _ _ <| znt <| w_seq <| zsl <| wv 17 (pt b2 4) <| wv 18 (pt b2 8) <| zw1 19 (.slice la G.length lc) (H23.cell 1 rfl rfl) <| wv 20 (.int .i64 ((G.length : Int))) <| wv 21 (.int .i64 (0)) <| znt ?_
 refine w_block <| wp_round ([4] ++ List.range' 21 12) (fun F_ W_ m_ => ∃ (i : Nat), F_ 21 = (.int .i64 ((i : Int))) ∧ (i ≤ G.length) ∧ Sat w [restC w (fun _ => False), cellC b2 38 (kOwn12_0 F c1 b r F2 c2 ep last la G.length lc oa O.length oc), cellC b6 54 (kOwn12_1 (Go.Value.map none)), mapC b10 nmV Value.bool (logM (G.take i)), mapC b14 (Value.int .i64) entV [], cellC b18 54 (kOwn12_2 F c1 ep last b10 b14)] W_ ∧ m_ = G.length - i) _ ⟨0, (show ((.int .i64 (0)) : Value) = _ by first | rfl | go_num), (Nat.zero_le _), H23, rfl⟩ ?_
 rintro g25 w26 _ ⟨i, v28, hi, H27, rfl⟩
 refine wp_know 21 _ v28 ?_
 refine zsl <| wv 22 (.bool (decide ((i : Int) < (G.length : Int)))) <| znt <| w_seq ?_
 refine (bsplit (decide ((i : Int) < (G.length : Int)))).elim (fun b30 => ?_) (fun b30 => ?_)
 ·have g31 := of_decide_eq_true b30
  refine zwkt _ b30 ?_
  refine w_skip <| ztn <| w_seq <| w_block <| zsl <| wv 23 (.int .i64 ((i : Int))) <| wv 4 (.int .i64 ((i : Int))) <| znt ?_
  obtain ⟨g33, o34, c35, e36, R37⟩ := SliceOf.atD hG nm0 (show i < G.length by omega)
  obtain ⟨g38, o39, c40, e41, R42⟩ := SliceOf.atD hG nm0 (show i < G.length by omega)
  obtain ⟨g43, o44, c45, e46, R47⟩ := SliceOf.atD hG nm0 (show i < G.length by omega)
  refine h_start H27 [restC w (fun _ => False), cellC b2 38 (kOwn12_0 F c1 b r F2 c2 ep last la G.length lc oa O.length oc), cellC b6 54 (kOwn12_1 (Go.Value.map none)), mapC b14 (Value.int .i64) entV [], cellC b18 54 (kOwn12_2 F c1 ep last b10 b14)] 9 rfl (by kernel_rfl) (fun Hx => (Hx.pk [0, 1, 2, 4, 5])) ?_
  intro w48 H49 S50
  refine hv0 0 S50 24 (pt b18 4) <| hv0 1 S50 25 (.map (some b10)) ?_ (he := fun _ H' => (zl1 (H'.cell 4 rfl rfl)))
  refine hv0 2 S50 26 (pt b2 4) <| hv0 3 S50 27 (pt b2 8) <| hv0 4 S50 28 (.slice la G.length lc) ?_ (he := fun _ H' => (zl1 (H'.cell 1 rfl rfl)))
  refine hv0 5 S50 29 (.int .i64 ((i : Int))) ?_
  obtain ⟨g51, o52, c53, e54, R55⟩ := SliceOf.atD hG nm0 (show i < G.length by omega)
  refine h_val 6 rfl (by kernel_rfl) (by kernel_rfl) (by kernel_rfl) (fun _ _ _ h => h) S50 (wants0 rfl) (d := 30) (v := (.pointer (some ⟨g51, o52 + ((i : Int)).toNat * 2, none⟩))) rfl (fun _ H' => (e_indexAddrW (E := 59) (by kernel_rfl) (by kernel_rfl) (Nat.le_of_ble_eq_true rfl) rfl e54 rfl (by omega) (by omega))) ?_
  refine hv0 7 S50 31 (.agg ⟨([(.int .i64 ((G.getD i nm0).cl)), (.int .i64 ((G.getD i nm0).sq))] : List Value)⟩) ?_ (he := fun _ H' => (e_loadRun (vs := ([(.int .i64 ((G.getD i nm0).cl)), (.int .i64 ((G.getD i nm0).sq))] : List Value)) rfl (by kernel_rfl) (by kernel_rfl) (Nat.le_of_ble_eq_true (by kernel_rfl)) (H'.runR 0 rfl (cells_run R55 0 (by kernel_rfl) (show o52 + ((i : Int)).toNat * 2 = o52 + i * 2 + 0 by omega)) (fun h => h))))
  refine zhd0 8 fun Kq kq => ?_
  refine d_mapUpdate (kt := 59) (et := 4) rfl H49 3 rfl nmK (by kernel_rfl) rfl (⟨(G.getD i nm0).cl, (G.getD i nm0).sq⟩ : NmD) rfl true rfl ?_
  intro w57 H58
  have S59 := H58.pk [0, 1, 2, 4, 5]
  refine kq _ _ S59 <| zhf <| blk_normal <| ztn ?_
  have H60 : Sat w [restC w (fun _ => False), cellC b2 38 ([(.int .i64 (F)), (.int .i64 (c1)), (pt b 0), (pt r 0), (.int .i64 (F2)), (.int .i64 (c2)), (.int .i64 (ep)), (.int .u64 (last)), (.slice la G.length lc), (.slice oa O.length oc)] : List Value), cellC b6 54 ([(.int .i64 (0)), (.int .i64 (0)), (.int .i64 (0)), (.int .u64 (0)), ((Go.Value.map none)), ((Go.Value.map none))] : List Value), mapC b10 nmV Value.bool (logM (G.take (i + 1))), mapC b14 (Value.int .i64) entV [], cellC b18 54 ([(.int .i64 (F)), (.int .i64 (c1)), (.int .i64 (ep)), (.int .u64 (last)), (.map (some b10)), (.map (some b14))] : List Value)] w57 := by rw [logM_stepD (by omega)]; exact H58
  refine w_lit <| zwi 32 ((i : Int) + 1) <| wv 21 (.int .i64 ((i : Int) + 1)) <| w_nil <| round_back ?_ _ ⟨(i + 1), rfl, (by omega), H60, rfl⟩ (by omega)
  exact zs
 have g61 := of_decide_eq_false b30
 refine zwkf _ b30 ?_
 refine zxb <| ztn <| w_seq <| w_seq ?_
 have hiG : G.take i = G := List.take_of_length_le (by omega)
 refine w_lit <| wv 33 (pt b2 4) <| wv 34 (pt b2 9) <| zw1 35 (.slice oa O.length oc) (H27.cell 1 rfl rfl) <| wv 36 (.int .i64 ((O.length : Int))) <| wv 37 (.int .i64 (0)) <| znt <| w_block <| wp_round ([5] ++ List.range' 37 20) (fun F_ W_ m_ => ∃ (k : Nat), F_ 37 = (.int .i64 ((k : Int))) ∧ (k ≤ O.length) ∧ Sat w [restC w (fun _ => False), cellC b2 38 (kOwn12_0 F c1 b r F2 c2 ep last la G.length lc oa O.length oc), cellC b6 54 (kOwn12_1 (Go.Value.map none)), mapC b10 nmV Value.bool (logM (G.take i)), mapC b14 (Value.int .i64) entV (openM (O.take k)), cellC b18 54 (kOwn12_2 F c1 ep last b10 b14)] W_ ∧ m_ = O.length - k) _ ⟨0, (show ((.int .i64 (0)) : Value) = _ by first | rfl | go_num), (Nat.zero_le _), H27, rfl⟩ ?_
 rintro g63 w64 _ ⟨k, v66, hk, H65, rfl⟩
 refine wp_know 37 _ v66 ?_
 refine zsl <| wv 38 (.bool (decide ((k : Int) < (O.length : Int)))) <| znt <| w_seq ?_
 refine (bsplit (decide ((k : Int) < (O.length : Int)))).elim (fun b68 => ?_) (fun b68 => ?_)
 ·have g69 := of_decide_eq_true b68
  refine zwkt _ b68 ?_
  refine w_skip <| ztn <| w_seq <| w_block <| zsl <| wv 39 (.int .i64 ((k : Int))) <| wv 5 (.int .i64 ((k : Int))) <| znt ?_
  obtain ⟨g71, o72, c73, e74, R75⟩ := SliceOf.atD hO spot0 (show k < O.length by omega)
  obtain ⟨g76, o77, c78, e79, R80⟩ := SliceOf.atD hO spot0 (show k < O.length by omega)
  obtain ⟨g81, o82, c83, e84, R85⟩ := SliceOf.atD hO spot0 (show k < O.length by omega)
  refine h_start H65 [restC w (fun _ => False), cellC b2 38 (kOwn12_0 F c1 b r F2 c2 ep last la G.length lc oa O.length oc), cellC b6 54 (kOwn12_1 (Go.Value.map none)), mapC b10 nmV Value.bool (logM (G.take i)), cellC b18 54 (kOwn12_2 F c1 ep last b10 b14)] 17 rfl (by kernel_rfl) (fun Hx => (Hx.pk [0, 1, 2, 3, 5])) ?_
  intro w86 H87 S88
  refine hv0 0 S88 40 (pt b18 5) <| hv0 1 S88 41 (.map (some b14)) ?_ (he := fun _ H' => (zl1 (H'.cell 4 rfl rfl)))
  refine hv0 2 S88 42 (pt b2 4) <| hv0 3 S88 43 (pt b2 9) <| hv0 4 S88 44 (.slice oa O.length oc) ?_ (he := fun _ H' => (zl1 (H'.cell 1 rfl rfl)))
  refine hv0 5 S88 45 (.int .i64 ((k : Int))) ?_
  obtain ⟨g89, o90, c91, e92, R93⟩ := SliceOf.atD hO spot0 (show k < O.length by omega)
  refine h_val 6 rfl (by kernel_rfl) (by kernel_rfl) (by kernel_rfl) (fun _ _ _ h => h) S88 (wants0 rfl) (d := 46) (v := (.pointer (some ⟨g89, o90 + ((k : Int)).toNat * 36, none⟩))) rfl (fun _ H' => (e_indexAddrW (E := 102) (by kernel_rfl) (by kernel_rfl) (Nat.le_of_ble_eq_true rfl) rfl e92 rfl (by omega) (by omega))) ?_
  refine hv0 7 S88 47 (.pointer (some ⟨g89, o90 + ((k : Int)).toNat * 36, none⟩)) <| hv0 8 S88 48 (.int .i64 ((O.getD k spot0).i)) ?_ (he := fun _ H' => (zl1 (H'.cellR 0 rfl (cells_at R93 0 (by kernel_rfl) (show o90 + ((k : Int)).toNat * 36 = o90 + k * 36 + 0 by omega)) (fun h => h))))
  refine hv0 9 S88 49 (pt b2 4) <| hv0 10 S88 50 (pt b2 9) <| hv0 11 S88 51 (.slice oa O.length oc) ?_ (he := fun _ H' => (zl1 (H'.cell 1 rfl rfl)))
  refine hv0 12 S88 52 (.int .i64 ((k : Int))) <| h_val 13 rfl (by kernel_rfl) (by kernel_rfl) (by kernel_rfl) (fun _ _ _ h => h) S88 (wants0 rfl) (d := 53) (v := (.pointer (some ⟨g89, o90 + ((k : Int)).toNat * 36, none⟩))) rfl (fun _ H' => (e_indexAddrW (E := 102) (by kernel_rfl) (by kernel_rfl) (Nat.le_of_ble_eq_true rfl) rfl e92 rfl (by omega) (by omega))) ?_
  refine hv0 14 S88 54 (.pointer (some ⟨g89, o90 + ((k : Int)).toNat * 36 + 1, none⟩)) <| hv0 15 S88 55 (.agg ⟨(kOwn12_3 (O.getD k spot0))⟩) ?_ (he := fun _ H' => (e_loadRun (vs := (kOwn12_3 (O.getD k spot0))) rfl (by kernel_rfl) (by kernel_rfl) (Nat.le_of_ble_eq_true (by kernel_rfl)) (H'.runR 0 rfl (cells_run R93 1 (by kernel_rfl) (show o90 + ((k : Int)).toNat * 36 + 1 = o90 + k * 36 + 1 by omega)) (fun h => h))))
  refine zhd0 16 fun Kq kq => ?_
  refine d_mapUpdate (kt := 3) (et := 63) rfl H87 4 rfl (KeyTy.int (by kernel_rfl)) (by kernel_rfl) rfl ((O.getD k spot0).i) rfl (⟨(O.getD k spot0).cl, (O.getD k spot0).sq, ((O.getD k spot0).h), (O.getD k spot0).t⟩ : EntD) rfl ?_
  intro w95 H96
  have S97 := H96.pk [0, 1, 2, 3, 5]
  refine kq _ _ S97 <| zhf <| blk_normal <| ztn ?_
  have H98 : Sat w [restC w (fun _ => False), cellC b2 38 ([(.int .i64 (F)), (.int .i64 (c1)), (pt b 0), (pt r 0), (.int .i64 (F2)), (.int .i64 (c2)), (.int .i64 (ep)), (.int .u64 (last)), (.slice la G.length lc), (.slice oa O.length oc)] : List Value), cellC b6 54 ([(.int .i64 (0)), (.int .i64 (0)), (.int .i64 (0)), (.int .u64 (0)), ((Go.Value.map none)), ((Go.Value.map none))] : List Value), mapC b10 nmV Value.bool (logM (G.take i)), mapC b14 (Value.int .i64) entV (openM (O.take (k + 1))), cellC b18 54 ([(.int .i64 (F)), (.int .i64 (c1)), (.int .i64 (ep)), (.int .u64 (last)), (.map (some b10)), (.map (some b14))] : List Value)] w95 := by rw [openM_stepD (by omega)]; exact H96
  refine w_lit <| zwi 56 ((k : Int) + 1) <| wv 37 (.int .i64 ((k : Int) + 1)) <| w_nil <| round_back ?_ _ ⟨(k + 1), rfl, (by omega), H98, rfl⟩ (by omega)
  exact zs
 have g99 := of_decide_eq_false b68
 refine zwkf _ b68 ?_
 refine zxb <| ztn <| zsl <| zwN 57 (kOwn12_2 F c1 ep last b10 b14) (H65.at 5 rfl) <| zwd fun Kq kq => zds1 (kOwn12_2 F c1 ep last b10 b14) H65 2 fun w102 H103 => ?_
 refine kq _ _ <| znt <| w_ret <| end1 rfl (res_cellN (vs := (kOwn12_2 F c1 ep last b10 b14)) rfl (by kernel_rfl) (by kernel_rfl) (Nat.le_of_ble_eq_true (by kernel_rfl)) (H103.at 2 rfl) (by kernel_rfl)) ?_
 have hkO : O.take k = O := List.take_of_length_le (by omega)
 rw [hiG, hkO] at H103
 exact ⟨b10, b14, rfl, H103.fn [3, 4], H103.upd 0 rfl [] (fun _ h => h.elim), H103.freshS 0 rfl (fun _ h => h) [3, 4] rfl rfl⟩
abbrev kMkO12_0 (p0 : OpR) : List Value := ([(.int .i64 p0.i), (.slice p0.pa p0.P.length p0.pc)] : List Value) ++ hc p0.h
abbrev kMkO12_1 (p0 : TbR) : List Value := ([(.int .i64 p0.i), (.slice p0.da p0.D.length p0.dc)] : List Value)
abbrev kMkO12_2 (p0 : Int) (p1 : Int) (p2 : Int) (p3 : Int) (p4 : Value) (p5 : Nat) : List Value := ([(.int .i64 p0), (.int .i64 p1), (.int .i64 p2), (.int .u64 p3), p4, (.map (some p5))] : List Value)
abbrev kMkO12_3 (p0 : EntD) : List Value := ([(.int .i64 p0.cl), (.int .i64 p0.sq)] : List Value) ++ hc p0.h ++ ([(.int .u64 p0.t)] : List Value)
abbrev kMkO12_4 : List Value := ([(.int .i64 (0)), (.int .i64 (0))] : List Value) ++ hc hash0 ++ ([(.int .u64 (0))] : List Value)
def matchO (M : List (Int × EntD)) (o : OpR) : Bool := (lookM M o.i).isSome && decide ((o.P.length : Int) ≤ 256) && decide (((lookM M o.i).getD ent0).h = shaR (ofT ((lookM M o.i).getD ent0).cl ((lookM M o.i).getD ent0).sq o.h o.P))
def mayOp (M : List (Int × EntD)) (o : OpR) : Bool := matchO M o
def mayTb (M : List (Int × EntD)) (X : List (Int × Bool)) (t : TbR) : Bool := (lookM M t.i).isSome && !((lookM X t.i).getD false)
def OpenOk (M : List (Int × EntD)) : Prop := ∀ i, ((lookM M i).getD ent0).cl ≤ 1000000 ∧ ((lookM M i).getD ent0).sq ≤ 1000000
theorem mkNumO2_any (w : World) (p : OpR) :
  Calls Tryz.prog 51 #[(.agg ⟨(([(.int .i64 (p.i)), ((.slice p.pa p.P.length p.pc))] : List Value) ++ hc p.h)⟩)] w fun e w' => e = .returned (.int .i64 p.i) ∧ Upd [] w w' := by
 have H := Sat.start0 w
 refine calls_fr Tryz.func51 rfl 5 rfl (Nat.le_of_ble_eq_true rfl) ?_
 refine zsl <| zwd fun Kq kq => zdb (kMkO12_0 p) H fun b2 w3 H4 => ?_
 refine kq _ _ <| wv 2 (.int .i64 (0)) <| znsl <| wv 3 (pt b2 0) <| zw1 4 (.int .i64 (p.i)) (H4.cell 1 rfl (by kernel_rfl)) <| wv 2 (.int .i64 (p.i)) <| znt <| w_ret <| ze1 (.int .i64 (p.i)) ?_
 exact ⟨rfl, H4.upd 0 rfl [] (fun _ h => h.elim)⟩
theorem mkNumT2_any (w : World) (p : TbR) :
  Calls Tryz.prog 55 #[(.agg ⟨([(.int .i64 (p.i)), ((.slice p.da p.D.length p.dc))] : List Value)⟩)] w fun e w' => e = .returned (.int .i64 p.i) ∧ Upd [] w w' := by
 have H := Sat.start0 w
 refine calls_fr Tryz.func55 rfl 5 rfl (Nat.le_of_ble_eq_true rfl) ?_
 refine zsl <| zwd fun Kq kq => zdb (kMkO12_1 p) H fun b2 w3 H4 => ?_
 refine kq _ _ <| wv 2 (.int .i64 (0)) <| znsl <| wv 3 (pt b2 0) <| zw1 4 (.int .i64 (p.i)) (H4.cell 1 rfl rfl) <| wv 2 (.int .i64 (p.i)) <| znt <| w_ret <| ze1 (.int .i64 (p.i)) ?_
 exact ⟨rfl, H4.upd 0 rfl [] (fun _ h => h.elim)⟩
theorem matches_any (w : World) (F c E last : Int) (vm : Value) (mo : Nat) (M : List (Int × EntD)) (hmo : MapAt w mo (Value.int .i64) entV M) (hM : OpenOk M) (o : OpR) (ho : ListAt encB 1 w (.slice o.pa o.P.length o.pc) o.P) (hlo : o.P.length ≤ 1000) :
  Calls Tryz.prog 49 #[(.agg ⟨([(.int .i64 (F)), (.int .i64 (c)), (.int .i64 (E)), (.int .u64 (last)), (vm), (.map (some mo))] : List Value)⟩), (.agg ⟨(([(.int .i64 (o.i)), (.slice o.pa o.P.length o.pc)] : List Value) ++ hc o.h)⟩)] w fun e w' => e = .returned (.bool (matchO M o)) ∧ Upd [] w w' := by
 have H := Sat.start0 w
 refine calls_fr Tryz.func49 rfl 30 rfl (Nat.le_of_ble_eq_true rfl) ?_
 refine zsl <| zwd fun Kq kq => zdb (kMkO12_2 F c E last vm mo) H fun b2 w3 H4 => ?_
 refine kq _ _ <| zwd fun Kq kq => zdb (kMkO12_0 o) H4 fun b6 w7 H8 => ?_
 refine kq _ _ <| wv 4 (.bool false) <| znsl <| wv 8 (pt b2 5) <| zw1 9 (.map (some mo)) (H8.cell 1 rfl rfl) <| wv 10 (pt b6 0) <| zw1 11 (.int .i64 (o.i)) (H8.cell 2 rfl (by kernel_rfl)) <| wv 12 (.tuple #[(.agg ⟨(kMkO12_3 ((lookM M o.i).getD ent0))⟩), (.bool ((lookM M o.i).isSome))]) ?_ (hr := e_lookup2 (kt := 3) (et := 63) (KeyTy.int (by kernel_rfl)) (by kernel_rfl) zeroEn rfl o.i rfl (H8.roMap 0 rfl hmo (fun h => h)) (optD entV _ _) rfl)
 refine wv 7 (.tuple #[(.agg ⟨(kMkO12_3 ((lookM M o.i).getD ent0))⟩), (.bool ((lookM M o.i).isSome))]) <| wv 13 (.agg ⟨(kMkO12_3 ((lookM M o.i).getD ent0))⟩) <| wv 14 (.bool ((lookM M o.i).isSome)) <| zwd fun Kq kq => zda (kMkO12_4) H8 fun b10 w11 H12 => ?_
 refine kq _ _ <| zwd fun Kq kq => zds1 (kMkO12_3 ((lookM M o.i).getD ent0)) H12 3 fun w14 H15 => ?_
 refine kq _ _ <| wv 6 (.bool ((lookM M o.i).isSome)) <| znsl <| wv 15 (.bool ((lookM M o.i).isSome)) <| wv 16 (.bool ((lookM M o.i).isSome)) ?_
 refine (bsplit ((lookM M o.i).isSome)).elim (fun b17 => ?_) (fun b17 => ?_)
 ·refine wl_know 16 (.bool true) (congrArg Value.bool b17) ?_
  refine wy 1 16 true 17 (pt b6 1) <| wy 1 16 true 18 (.slice o.pa o.P.length o.pc) ?_ (hr := zl1 (H15.cell 2 rfl (by kernel_rfl)))
  refine wy 1 16 true 19 (.int .i64 ((o.P.length : Int))) <| wy 1 16 true 20 (.bool (decide ((o.P.length : Int) ≤ 256))) <| wv 21 (.bool (decide ((o.P.length : Int) ≤ 256))) <| wv 22 (.bool (decide ((o.P.length : Int) ≤ 256))) ?_
  refine (bsplit (decide ((o.P.length : Int) ≤ 256))).elim (fun b18 => ?_) (fun b18 => ?_)
  ·have g19 := of_decide_eq_true b18
   refine wl_know 22 (.bool true) (congrArg Value.bool b18) ?_
   refine wy 7 22 true 23 (pt b10 2) <| wy 7 22 true 24 (.agg ⟨(hc ((lookM M o.i).getD ent0).h)⟩) ?_ (hr := zlN (vs := (hc ((lookM M o.i).getD ent0).h)) (H15.at 3 rfl))
   refine wy 7 22 true 25 (pt b10 0) <| wy 7 22 true 26 (.agg ⟨([(.int .i64 (((lookM M o.i).getD ent0).cl)), (.int .i64 (((lookM M o.i).getD ent0).sq))] : List Value)⟩) ?_ (hr := zlN (vs := ([(.int .i64 (((lookM M o.i).getD ent0).cl)), (.int .i64 (((lookM M o.i).getD ent0).sq))] : List Value)) (H15.at 3 rfl))
   refine wy 7 22 true 27 (.agg ⟨(kMkO12_0 o)⟩) ?_ (hr := zlN (vs := (kMkO12_0 o)) (H15.at 2 rfl))
   refine wl_do (wantsY 7 22 true rfl (by kernel_rfl) rfl (by kernel_rfl)) (fun Kq kq => ?_)
   refine zdq 28 (pMatches_any w14 ((lookM M o.i).getD ent0).h o.i ((lookM M o.i).getD ent0).cl ((lookM M o.i).getD ent0).sq o.h o.pa o.pc o.P (ListAt.now H15 0 rfl ho) (by have q := hM o.i; omega) (by have q := hM o.i; omega) hlo) H15 ?_
   intro w22 H23
   refine kq _ _ <| wv 29 (.bool (decide (((lookM M o.i).getD ent0).h = shaR (ofT ((lookM M o.i).getD ent0).cl ((lookM M o.i).getD ent0).sq o.h o.P)))) <| wv 4 (.bool (decide (((lookM M o.i).getD ent0).h = shaR (ofT ((lookM M o.i).getD ent0).cl ((lookM M o.i).getD ent0).sq o.h o.P)))) <| znt <| w_ret <| ze1 (.bool (decide (((lookM M o.i).getD ent0).h = shaR (ofT ((lookM M o.i).getD ent0).cl ((lookM M o.i).getD ent0).sq o.h o.P)))) ?_
   exact ⟨by unfold matchO; simp [b17, b18], H23.upd 0 rfl [] (fun _ h => h.elim)⟩
  have g25 := of_decide_eq_false b18
  refine wl_know 22 (.bool false) (congrArg Value.bool b18) ?_
  iterate 6 refine wn 7 22 true ?_
  refine wv 29 (.bool false) <| wv 4 (.bool false) <| znt <| w_ret <| ze1 (.bool false) ?_
  exact ⟨by unfold matchO; simp [b17, b18], H15.upd 0 rfl [] (fun _ h => h.elim)⟩
 refine wl_know 16 (.bool false) (congrArg Value.bool b17) ?_
 iterate 4 refine wn 1 16 true ?_
 refine wv 21 (.bool false) <| wv 22 (.bool false) ?_
 iterate 6 refine wn 7 22 true ?_
 refine wv 29 (.bool false) <| wv 4 (.bool false) <| znt <| w_ret <| ze1 (.bool false) ?_
 exact ⟨by unfold matchO; simp [b17], H15.upd 0 rfl [] (fun _ h => h.elim)⟩
theorem mkOpen_any (w : World) (F c E last : Int) (vm : Value) (mo : Nat) (M : List (Int × EntD)) (hmo : MapAt w mo (Value.int .i64) entV M) (hM : OpenOk M) (o : OpR) (ho : ListAt encB 1 w (.slice o.pa o.P.length o.pc) o.P) (hlo : o.P.length ≤ 1000) (s : Nat) (hs : (cellC s 54 ([(.int .i64 (F)), (.int .i64 (c)), (.int .i64 (E)), (.int .u64 (last)), (vm), (.map (some mo))] : List Value)).ok w) :
  Calls Tryz.prog 48 #[(.agg ⟨(([(.int .i64 (o.i)), (.slice o.pa o.P.length o.pc)] : List Value) ++ hc o.h)⟩), (.pointer (some ⟨s, 0, none⟩))] w fun e w' => e = .returned (.bool (mayOp M o)) ∧ Upd [] w w' := by
 have H := Sat.start0 w
 refine calls_fr Tryz.func48 rfl 7 rfl (Nat.le_of_ble_eq_true rfl) ?_
 refine zsl <| zwd fun Kq kq => zdb (kMkO12_0 o) H fun b2 w3 H4 => ?_
 refine kq _ _ <| wv 3 (.bool false) <| znsl <| zwN 4 (kMkO12_2 F c E last vm mo) (H4.roCells 0 rfl hs (fun h => h)) <| zwN 5 (kMkO12_0 o) (H4.at 1 rfl) <| zwd fun Kq kq => zdq 6 (matches_any w3 F c E last vm mo M (H4.roMap 0 rfl hmo (fun h => h)) hM o (ListAt.now H4 0 rfl ho) hlo) H4 fun w6 H7 => ?_
 refine kq _ _ <| wv 3 (.bool (matchO M o)) <| znt <| w_ret <| ze1 (.bool (matchO M o)) ?_
 exact ⟨rfl, H7.upd 0 rfl [] (fun _ h => h.elim)⟩
theorem mkTomb_any (w : World) (F c E last : Int) (vm : Value) (mo : Nat) (M : List (Int × EntD)) (hmo : MapAt w mo (Value.int .i64) entV M) (s : Nat) (hs : (cellC s 54 ([(.int .i64 (F)), (.int .i64 (c)), (.int .i64 (E)), (.int .u64 (last)), (vm), (.map (some mo))] : List Value)).ok w) (ob hm : Nat) (X : List (Int × Bool)) (hob : (cellC ob 129 [.map (some hm)]).ok w) (hhm : MapAt w hm (Value.int .i64) Value.bool X) (t : TbR) :
  Calls Tryz.prog 53 #[(.agg ⟨([(.int .i64 (t.i)), ((.slice t.da t.D.length t.dc))] : List Value)⟩), (.pointer (some ⟨s, 0, none⟩)), (.pointer (some ⟨ob, 0, none⟩))] w fun e w' => e = .returned (.bool (mayTb M X t)) ∧ Upd [] w w' := by
 have H := Sat.start0 w
 refine calls_fr Tryz.func53 rfl 23 rfl (Nat.le_of_ble_eq_true rfl) ?_
 refine zsl <| zwd fun Kq kq => zdb (kMkO12_1 t) H fun b2 w3 H4 => ?_
 refine kq _ _ <| wv 4 (.bool false) <| znsl <| wv 8 (pt s 5) <| zw1 9 (.map (some mo)) (H4.roCell 0 rfl hs (fun h => h) rfl) <| wv 10 (pt b2 0) <| zw1 11 (.int .i64 (t.i)) (H4.cell 1 rfl rfl) <| wv 12 (.tuple #[(.agg ⟨(kMkO12_3 ((lookM M t.i).getD ent0))⟩), (.bool ((lookM M t.i).isSome))]) ?_ (hr := e_lookup2 (kt := 3) (et := 63) (KeyTy.int (by kernel_rfl)) (by kernel_rfl) zeroEn rfl t.i rfl (H4.roMap 0 rfl hmo (fun h => h)) (optD entV _ _) rfl)
 refine wv 7 (.tuple #[(.agg ⟨(kMkO12_3 ((lookM M t.i).getD ent0))⟩), (.bool ((lookM M t.i).isSome))]) <| wv 13 (.agg ⟨(kMkO12_3 ((lookM M t.i).getD ent0))⟩) <| wv 14 (.bool ((lookM M t.i).isSome)) <| zwd fun Kq kq => zda (kMkO12_4) H4 fun b6 w7 H8 => ?_
 refine kq _ _ <| zwd fun Kq kq => zds1 (kMkO12_3 ((lookM M t.i).getD ent0)) H8 2 fun w10 H11 => ?_
 refine kq _ _ <| wv 6 (.bool ((lookM M t.i).isSome)) <| znsl <| wv 15 (.bool ((lookM M t.i).isSome)) <| wv 16 (.bool ((lookM M t.i).isSome)) ?_
 refine (bsplit ((lookM M t.i).isSome)).elim (fun b13 => ?_) (fun b13 => ?_)
 ·refine wl_know 16 (.bool true) (congrArg Value.bool b13) ?_
  refine wy 1 16 true 17 (.map (some hm)) ?_ (hr := zl1 (H11.roCell 0 rfl hob (fun h => h) rfl))
  refine wy 1 16 true 18 (pt b2 0) <| wy 1 16 true 19 (.int .i64 (t.i)) ?_ (hr := zl1 (H11.cell 1 rfl rfl))
  refine wy 1 16 true 20 (.bool ((lookM X t.i).getD false)) ?_ (hr := e_lookup (kt := 3) (et := 4) (KeyTy.int (by kernel_rfl)) (by kernel_rfl) (fun w => by kernel_rfl) rfl t.i rfl (H11.roMap 0 rfl hhm (fun h => h)) (optD Value.bool _ _))
  refine wy 1 16 true 21 (.bool (!((lookM X t.i).getD false))) <| wv 22 (.bool (!((lookM X t.i).getD false))) <| wv 4 (.bool (!((lookM X t.i).getD false))) <| znt <| w_ret <| ze1 (.bool (!((lookM X t.i).getD false))) ?_
  exact ⟨by unfold mayTb; simp [b13], H11.upd 0 rfl [] (fun _ h => h.elim)⟩
 refine wl_know 16 (.bool false) (congrArg Value.bool b13) ?_
 iterate 5 refine wn 1 16 true ?_
 refine wv 22 (.bool false) <| wv 4 (.bool false) <| znt <| w_ret <| ze1 (.bool false) ?_
 exact ⟨by unfold mayTb; simp [b13], H11.upd 0 rfl [] (fun _ h => h.elim)⟩
section
variable {M : List (Int × EntD)}
theorem OpenOk.nil : OpenOk [] := fun i => by simp [lookM, ent0]
theorem OpenOk.put {a : Int} {v : EntD} (h : OpenOk M) (hv : v.cl ≤ 1000000 ∧ v.sq ≤ 1000000) : OpenOk (putM M a v) := fun i => by
 by_cases e : i = a
 ·subst e; rw [look_put_same]; exact hv
 ·rw [look_put_other _ _ _ _ e]; exact h i
theorem open3 : OpenOk (openM (spotsN 3)) := by
 have e : openM (spotsN 3) = putM (putM (putM [] (spotAt 0).i ⟨(spotAt 0).cl, (spotAt 0).sq, (spotAt 0).h, (spotAt 0).t⟩) (spotAt 1).i ⟨(spotAt 1).cl, (spotAt 1).sq, (spotAt 1).h, (spotAt 1).t⟩) (spotAt 2).i ⟨(spotAt 2).cl, (spotAt 2).sq, (spotAt 2).h, (spotAt 2).t⟩ := rfl
 rw [e]
 exact ((OpenOk.nil.put ⟨by show ((0 : Nat) : Int) ≤ 1000000; decide, by show (50 : Int) ≤ 1000000; decide⟩).put ⟨by show ((1 : Nat) : Int) ≤ 1000000; decide, by show (50 : Int) ≤ 1000000; decide⟩).put ⟨by show ((2 : Nat) : Int) ≤ 1000000; decide, by show (50 : Int) ≤ 1000000; decide⟩
end
section
variable {α : Type} {num : α → Int} {may : α → Bool} {L D : List α}
theorem firstN_lim {n : Nat} (h : ∀ x ∈ L, 0 ≤ num x ∧ num x < n) : (firstN num may L).length ≤ n := by
 have hd := firstN_dif (num := num) (may := may) (L := L)
 have hm : ∀ x ∈ firstN num may L, 0 ≤ num x ∧ num x < n := fun x hx => h x (firstN_mem hx).1
 have := nodup_below n ((firstN num may L).map fun x => (num x).toNat) ?_ fun y hy => ?_
 ·simpa using this
 ·rw [List.Nodup, List.pairwise_map]
  refine (List.pairwise_iff_forall_sublist.2 fun {a b} hs => ?_)
  have ha : a ∈ firstN num may L := hs.subset (by simp)
  have hb : b ∈ firstN num may L := hs.subset (by simp)
  have hne := List.pairwise_iff_forall_sublist.1 hd hs
  have h1 := hm a ha; have h2 := hm b hb
  intro e; exact hne (by omega)
 ·obtain ⟨x, hx, rfl⟩ := List.mem_map.1 hy
  have := hm x hx; omega
theorem SortN.id (hs : SortN num may L D) (hup : L.Pairwise fun a b => num a < num b) (hm : ∀ x ∈ L, may x = true) : D = L := by
 refine sorted_same hs.up hup fun x => ?_
 rw [hs.mem]
 constructor
 ·exact fun h => List.mem_of_find?_eq_some h
 ·intro hx
  obtain ⟨z, hz⟩ := Option.isSome_iff_exists.1 (List.find?_isSome (p := fun y => decide (num y = num x) && may y) (xs := L) |>.2 ⟨x, hx, by simp [hm x hx]⟩)
  rw [hz]
  have h1 := List.mem_of_find?_eq_some hz
  have h2 := List.find?_some hz
  simp only [Bool.and_eq_true, decide_eq_true_eq] at h2
  obtain ⟨i, hi, ei⟩ := List.mem_iff_getElem.1 h1
  obtain ⟨j, hj, ej⟩ := List.mem_iff_getElem.1 hx
  rcases Nat.lt_trichotomy i j with q | q | q
  ·have := List.pairwise_iff_getElem.1 hup i j hi hj q
   rw [ei, ej] at this; omega
  ·subst q; rw [ei] at ej; rw [ej]
  ·have := List.pairwise_iff_getElem.1 hup j i hj hi q
   rw [ei, ej] at this; omega
end
structure CeV (F last tm : Int) (Lb : List Signed) (c : CeR) : Prop where
 x : CoB c.x
 S : ∀ i, i < c.S.length → StB (c.S.getD i stamp0)
 len : c.S.length ≤ 12
 sm : SmallN ⟨c.x.cl, c.x.seq⟩
 rt : rightX F 3 Lb c.x c.S = true
 time : last < timeD c.S ∧ timeD c.S ≤ tm
structure PrV (F last tm : Int) (Lb : List Signed) (p : PrR) : Prop where
 r : 0 ≤ p.r ∧ p.r < 3 * F + 1
 e : p.e = 4
 f : p.f = tm
 sb : p.sb = p.r
 sm : rightB Lb p.sb p.sm (promB p) = true
 len : p.C.length ≤ 5
 ce : ∀ c ∈ p.C, CeV F last tm Lb c
 up : p.C.Pairwise fun a b => ltNm a b = true
section
variable {F last tm : Int} {Lb Lb' : List Signed} {B : List Ck} {p q : PrR} {PS PD DP : List PrR} {w : World}
theorem PrG.prk (h : PrG F last tm Lb B p) (hb : (bagC B).ok w) : PrK w p :=
 ⟨bag_ce hb h.inn, Nat.le_trans h.len (by decide), fun i hi => hb _ (h.tab.ct _ (getD_memC hi)).bag, fun i hi => Nat.le_trans (h.tab.ct _ (getD_memC hi)).len (by decide)⟩
theorem PrG.may (h : PrG F last tm Lb B p) : mayPr F 4 tm p = true := by
 unfold mayPr inB
 rw [decide_eq_true h.r.1, decide_eq_true h.r.2, decide_eq_true h.e, decide_eq_true h.f]; rfl
theorem PsF.up (h : PsF F last tm Lb B PS) : PS.Pairwise fun a b => a.r < b.r := by
 have h1 : (PS.map (·.r)).Pairwise (· < ·) := by
  rw [h.nums, List.pairwise_map]
  exact List.pairwise_lt_range.imp fun h => by omega
 exact List.pairwise_map.1 h1
theorem PsF.lim (h : PsF F last tm Lb B PS) (hF : 1 ≤ F ∧ F ≤ 2) {m : PrR → Bool} : (firstN (fun x : PrR => x.r) m PS).length ≤ 12 :=
 Nat.le_trans (firstN_lim (n := 7) fun x hx => by have := (h.all x hx).r; omega) (by decide)
theorem PsF.len (h : PsF F last tm Lb B PS) (hF : 1 ≤ F) : (PS.length : Int) = 3 * F + 1 := by
 have := h.length; omega
theorem co_sub {β γ : Type} {key : β → γ} {X Y : List β} {y : β} (h : Y.map key = X.map key) (hy : y ∈ Y) : ∃ x ∈ X, key y = key x := by
 have : key y ∈ Y.map key := List.mem_map_of_mem hy
 rw [h] at this
 obtain ⟨x, hx, e⟩ := List.mem_map.1 this
 exact ⟨x, hx, e.symm⟩
theorem ce_key {c d : CeR} (e : (c.x, c.S) = (d.x, d.S)) : c.x = d.x ∧ c.S = d.S := by simpa using e
theorem promB_key (e : keyP p = keyP q) : promB p = promB q := by
 unfold keyP at e
 simp only [Prod.mk.injEq] at e
 obtain ⟨e1, e2, e3, _, _, e6⟩ := e
 have hl : p.C.length = q.C.length := by simpa using congrArg List.length e6
 have hc : certsB p.C = certsB q.C := by
  have hpc : ∀ C : List CeR, certsB C = (C.map fun c => (c.x, c.S)).flatMap fun y => [putCommitB y.1, intB (y.2.length : Int)].flatten ++ stampsB y.2 := fun C => by
   unfold certsB
   rw [List.flatMap_map]; rfl
  rw [hpc, hpc, e6]
 unfold promB barePrB
 rw [e1, e2, e3, hl, hc]
theorem pairwise_key {C D : List CeR} (e : C.map (fun c => (c.x, c.S)) = D.map fun c => (c.x, c.S)) (h : D.Pairwise fun a b => ltNm a b = true) : C.Pairwise fun a b => ltNm a b = true := by
 have f : ∀ (a b : CommitD × List StampD), Bool := fun a b => decide (a.1.cl < b.1.cl) || (decide (a.1.cl = b.1.cl) && decide (a.1.seq < b.1.seq))
 have hd : (D.map fun c => (c.x, c.S)).Pairwise fun a b => (decide (a.1.cl < b.1.cl) || (decide (a.1.cl = b.1.cl) && decide (a.1.seq < b.1.seq))) = true := List.pairwise_map.2 h
 rw [← e] at hd
 exact List.pairwise_map.1 hd
theorem PrV.key (h : PrV F last tm Lb q) (e : keyP p = keyP q) : PrV F last tm Lb p := by
 have hb := promB_key e
 unfold keyP at e
 simp only [Prod.mk.injEq] at e
 obtain ⟨e1, e2, e3, e4, e5, e6⟩ := e
 have hl : p.C.length = q.C.length := by simpa using congrArg List.length e6
 refine ⟨by rw [e1]; exact h.r, by rw [e2]; exact h.e, by rw [e3]; exact h.f, by rw [e4, e1]; exact h.sb, by rw [e4, e5, hb]; exact h.sm, by rw [hl]; exact h.len, fun c hc => ?_, pairwise_key e6 h.up⟩
 obtain ⟨d, hd, ed⟩ := co_sub e6 hc
 obtain ⟨ex, eS⟩ := ce_key ed
 have hv := h.ce d hd
 exact ⟨by rw [ex]; exact hv.x, by rw [eS]; exact hv.S, by rw [eS]; exact hv.len, by rw [ex]; exact hv.sm, by rw [ex, eS]; exact hv.rt, by rw [eS]; exact hv.time⟩
theorem PrV.more (h : PrV F last tm Lb p) (hp : Lb <+: Lb') : PrV F last tm Lb' p :=
 ⟨h.r, h.e, h.f, h.sb, rightB_pre hp h.sm, h.len, fun c hc => ⟨(h.ce c hc).x, (h.ce c hc).S, (h.ce c hc).len, (h.ce c hc).sm, rightX_pre hp (h.ce c hc).rt, (h.ce c hc).time⟩, h.up⟩
end
section
variable {last tm : Int} {lg : NmD → Bool} {Z : List CeR} {O : List EntD} {c : CeR}
end
end Go.Proofs.YtenihpghfdcpkaaGreat
