/- WHAT IS PROVED: contracts and plain laws of BatB. Conditions: stated with each. -/
import Derived.Test.YtenihpghfdcpkaaGreatT05
import Derived.Test.YtenihpghfdcpkaaGreatT18
set_option maxHeartbeats 4000000
set_option maxRecDepth 100000
namespace Go.Proofs.YtenihpghfdcpkaaGreat
open Go.RowKit
abbrev kBatB_0 (p0 : Value) (p1 : Value) (p2 : Value) (p3 : Int) (p4 : Value) (p5 : Value) (p6 : Int) (p7 : Option Addr) (p8 : Nat) (p9 : Nat) (p10 : Int) : List Value := ([p0, p1, p2, (.int .u64 p3), p4, p5, (.int .i64 p6), (.slice p7 p8 p9), (.int .u64 p10)] : List Value)
abbrev kBatB_1 : List Value := ([(.int .i64 (0)), (.int .i64 (0)), (.pointer none), (.pointer none), (.int .i64 (0)), (.int .i64 (0)), (.int .i64 (0)), (.int .u64 (0)), (.slice none 0 0), (.slice none 0 0)] : List Value)
abbrev kBatB_2 (p0 : Int) : List Value := ([(.int .i64 p0), (.int .i64 (3))] : List Value)
abbrev kBatB_3 : List Value := ([(.int .i64 (0)), (.int .i64 (0))] : List Value)
abbrev kBatB_4 (p0 : Nat) (p1 : List Signed) : Ck := mapC p0 signedV (Value.int .i64) (marks p1)
abbrev kBatB_5 (p0 : Nat) : List Value := ([(.map (some p0))] : List Value)
abbrev kBatB_6 : List Value := ([(.slice none 0 0)] : List Value)
abbrev kBatB_7 (p0 : Nat) (p1 : Nat) : List Value := ([(pt p0 0), (pt p1 0)] : List Value)
abbrev kBatB_8 (p0 : Int) (p1 : Nat) (p2 : Nat) (p3 : Int) : List Value := ([(.int .i64 p0), (.int .i64 (3)), (pt p1 0), (pt p2 0), (.int .i64 p0), (.int .i64 (3)), (.int .i64 (4)), (.int .u64 p3), (.slice none 0 0), (.slice none 0 0)] : List Value)
abbrev kBatB_9 (p0 : Int) (p1 : Nat) (p2 : Nat) (p3 : Int) (p4 : Option Addr) (p5 : Nat) (p6 : Nat) (p7 : Option Addr) (p8 : Nat) (p9 : Nat) : List Value := ([(.int .i64 p0), (.int .i64 (3)), (pt p1 0), (pt p2 0), (.int .i64 p0), (.int .i64 (3)), (.int .i64 (4)), (.int .u64 p3), (.slice p4 p5 p6), (.slice p7 p8 p9)] : List Value)
abbrev kBatB_10 (p0 : Option Addr) (p1 : List NmD) (p2 : Nat) : Ck := rowC 59 2 (.slice p0 p1.length p2) p1.length (p1.flatMap encNm)
abbrev kBatB_11 (p0 : Option Addr) (p1 : List SpotD) (p2 : Nat) : Ck := rowC 102 36 (.slice p0 p1.length p2) p1.length (p1.flatMap encSp)
abbrev kBatB_12 (p0 : Int) : List Value := ([(.int .i64 p0), (.int .i64 (50))] : List Value)
abbrev kBatB_13 (p0 : Int) (p1 : Int) (p2 : Hash) : List Value := ([(.int .i64 p0), (.int .i64 p1), (.int .i64 (50))] : List Value) ++ hc p2 ++ ([(.int .u64 (1))] : List Value)
theorem begin_any (w : World) (pn pt ph po pb : Value) (ptm psk pl : Int) (hpl : 0 ≤ pl ∧ pl < 18446744073709551616) (pa : Option Addr) (pc : Nat) (P : List NmD) (hP : ListAt encNm 2 w (.slice pa P.length pc) P) (f : Int) :
  Calls Tryz.prog 10 #[(.agg ⟨([(pn), (pt), (ph), (.int .u64 (ptm)), (po), (pb), (.int .i64 (psk)), (.slice pa P.length pc), (.int .u64 (pl))] : List Value)⟩), (.int .i64 (f))] w fun e w' => ∃ (b bm r : Nat) (la : Option Addr) (lc : Nat) (oa : Option Addr) (oc : Nat), e = .returned (.tuple #[(.agg ⟨([(.int .i64 (1 + withinV f 2)), (.int .i64 (3)), (.pointer (some ⟨b, 0, none⟩)), (.pointer (some ⟨r, 0, none⟩)), (.int .i64 (1 + withinV f 2)), (.int .i64 (3)), (.int .i64 (4)), (.int .u64 (pl % 20)), (.slice la (namesN 3 ++ (P.take 3).map smallN).length lc), (.slice oa (spotsN 3).length oc)] : List Value)⟩), .bool true]) ∧ (sepC [cellC b 179 [.map (some bm)], mapC bm signedV (Value.int .i64) (marks []), cellC r 165 [.slice none 0 0], rowC 59 2 (.slice la (namesN 3 ++ (P.take 3).map smallN).length lc) (namesN 3 ++ (P.take 3).map smallN).length ((namesN 3 ++ (P.take 3).map smallN).flatMap encNm), rowC 102 36 (.slice oa (spotsN 3).length oc) (spotsN 3).length ((spotsN 3).flatMap encSp)]).ok w' ∧ Upd [] w w' ∧ ∀ q_, (sepC [cellC b 179 [.map (some bm)], mapC bm signedV (Value.int .i64) (marks []), cellC r 165 [.slice none 0 0], rowC 59 2 (.slice la (namesN 3 ++ (P.take 3).map smallN).length lc) (namesN 3 ++ (P.take 3).map smallN).length ((namesN 3 ++ (P.take 3).map smallN).flatMap encNm), rowC 102 36 (.slice oa (spotsN 3).length oc) (spotsN 3).length ((spotsN 3).flatMap encSp)]).fp q_ → w.heap.size ≤ q_ := by
 have hwf := within_lim f 2 (by omega)
 have H := Sat.start0 w
 refine calls_fr Tryz.func10 rfl 90 rfl (Nat.le_of_ble_eq_true rfl) ?_
 refine zsl <| zwd fun Kq kq => zdb (kBatB_0 pn pt ph ptm po pb psk pa P.length pc pl) H fun b2 w3 H4 => ?_
 refine kq _ _ <| zwd fun Kq kq => zda (kBatB_1) H4 fun b6 w7 H8 => ?_
 refine kq _ _ <| wv 5 (.bool false) <| znsl <| wv 13 (.int .i64 (f)) <| zwd fun Kq kq => zdq 14 (within_any w7 f 2 (by omega)) H8 fun w10 H11 => ?_
 refine kq _ _ <| zwi 15 (1 + (withinV f 2)) <| wv 16 (.agg ⟨(kBatB_2 (1 + (withinV f 2)))⟩) <| zwd fun Kq kq => zda (kBatB_3) H11 fun b14 w15 H16 => ?_
 refine kq _ _ <| zwd fun Kq kq => zds1 (kBatB_2 (1 + (withinV f 2))) H16 3 fun w18 H19 => ?_
 refine kq _ _ <| znsl <| zwd fun Kq kq => zdc 18 (new10_any w18) ?_
 rintro _ w22 ⟨b23, m24, r25, rfl, k26, p27, q28⟩
 have H29 := H19.addU p27 k26 q28
 have H30 := H29.open 4 rfl
 refine ⟨_, rfl, ?_⟩
 refine kq _ _ <| wv 17 (.tuple #[(.agg ⟨(kBatB_7 b23 r25)⟩), (.bool true)]) <| wv 19 (.agg ⟨(kBatB_7 b23 r25)⟩) <| wv 20 (.bool true) <| zwd fun Kq kq => zda ([(.pointer none), (.pointer none)] : List Value) H30 fun b32 w33 H34 => ?_
 refine kq _ _ <| zwd fun Kq kq => zds1 (kBatB_7 b23 r25) H34 7 ?_
 intro w36 (H37 : Sat w [restC w (fun _ => False), cellC b2 27 (kBatB_0 pn pt ph ptm po pb psk pa P.length pc pl), cellC b6 38 (kBatB_1), cellC b14 29 (kBatB_2 (1 + (withinV f 2))), cellC b23 179 (kBatB_5 m24), (kBatB_4 m24 (([] : List Signed))), cellC r25 165 (kBatB_6), cellC b32 33 (kBatB_7 b23 r25)] w36)
 refine kq _ _ <| wv 8 (.bool true) <| znsl <| zwN 21 (kBatB_2 (1 + (withinV f 2))) (H37.at 3 rfl) <| zwN 22 (kBatB_7 b23 r25) (H37.at 7 rfl) <| zwN 23 (kBatB_2 (1 + (withinV f 2))) (H37.at 3 rfl) <| wl_pure (wants0 rfl) (d := 24) (v := (.pointer (some ⟨b2, 8, none⟩))) rfl (by kernel_rfl) ?_
 refine wl_pure (wants0 rfl) (d := 25) (v := (.int .u64 (pl))) rfl (zl1 (H37.cell 1 rfl rfl)) ?_
 refine wv 26 (.int .u64 (pl % 20)) ?_ (hr := e_rem (by kernel_rfl) (by omega) (by omega))
 refine wv 27 (.agg ⟨([(.int .i64 (1 + (withinV f 2))), (.int .i64 (3)), (.int .i64 (4)), (.int .u64 (pl % 20)), (.slice none 0 0), (.slice none 0 0)] : List Value)⟩) <| wv 28 (.agg ⟨(kBatB_8 (1 + (withinV f 2)) b23 r25 (pl % 20))⟩) <| zwd fun Kq kq => zda (kBatB_1) H37 fun b40 w41 H42 => ?_
 refine kq _ _ <| zwd fun Kq kq => zds1 (kBatB_8 (1 + (withinV f 2)) b23 r25 (pl % 20)) H42 8 fun w44 H45 => ?_
 refine kq _ _ <| znt <| w_seq <| zsl <| wv 10 (.int .i64 (0)) <| znt <| w_block ?_
 have H47 := H45.addNil 59 2
 have H48 := H47.addNil 102 36
 refine wp_round ([10, 11] ++ List.range' 29 35) (fun F_ W_ m_ => ∃ (i : Nat) (la : Option Addr) (lc : Nat) (LG : List NmD) (oa : Option Addr) (oc : Nat) (OP : List SpotD), F_ 10 = (.int .i64 ((i : Int))) ∧ (i ≤ 3) ∧ (LG = namesN i) ∧ (OP = spotsN i) ∧ Sat w [restC w (fun _ => False), cellC b2 27 (kBatB_0 pn pt ph ptm po pb psk pa P.length pc pl), cellC b6 38 (kBatB_1), cellC b14 29 (kBatB_2 (1 + (withinV f 2))), cellC b23 179 (kBatB_5 m24), (kBatB_4 m24 (([] : List Signed))), cellC r25 165 (kBatB_6), cellC b32 33 (kBatB_7 b23 r25), cellC b40 38 (kBatB_9 (1 + (withinV f 2)) b23 r25 (pl % 20) la LG.length lc oa OP.length oc), (kBatB_10 la LG lc), (kBatB_11 oa OP oc)] W_ ∧ m_ = 3 - i) _ ⟨0, none, 0, [], none, 0, [], (show ((.int .i64 (0)) : Value) = _ by first | rfl | go_num), (Nat.zero_le _), rfl, rfl, H48, rfl⟩ ?_
 rintro g49 w50 _ ⟨i, la, lc, LG, oa, oc, OP, v52, hi, hLG, hOP, H51, rfl⟩
 refine wp_know 10 _ v52 ?_
 have hll : LG.length = i := by rw [hLG, namesN_len]
 have hol : OP.length = i := by rw [hOP, spotsN_len]
 refine w_seq <| zsl <| wv 29 (.int .i64 ((i : Int))) <| wv 30 (.bool (decide ((i : Int) < 3))) <| wv 31 (.bool (decide ((i : Int) < 3))) ?_
 refine (bsplit (decide ((i : Int) < 3))).elim (fun b54 => ?_) (fun b54 => ?_)
 ·have g55 := of_decide_eq_true b54
  refine wl_know 31 (.bool true) (congrArg Value.bool b54) ?_
  refine wy 2 31 true 32 (.bool true) <| wv 33 (.bool true) <| znt <| wp_ift rfl ?_
  refine w_skip <| ztn <| w_seq <| w_block <| zsl <| wv 36 (.int .i64 ((i : Int))) <| wv 37 (.agg ⟨(kBatB_12 ((i : Int)))⟩) <| zwd fun Kq kq => zda (kBatB_3) H51 fun b58 w59 H60 => ?_
  refine kq _ _ <| zwd fun Kq kq => zds1 (kBatB_12 ((i : Int))) H60 11 fun w62 H63 => ?_
  refine kq _ _ <| znt <| w_seq <| k_start H63 [restC w (fun _ => False), cellC b2 27 (kBatB_0 pn pt ph ptm po pb psk pa P.length pc pl), cellC b6 38 (kBatB_1), cellC b14 29 (kBatB_2 (1 + (withinV f 2))), cellC b23 179 (kBatB_5 m24), (kBatB_4 m24 (([] : List Signed))), cellC r25 165 (kBatB_6), cellC b32 33 (kBatB_7 b23 r25), cellC b40 38 (kBatB_9 (1 + (withinV f 2)) b23 r25 (pl % 20) la LG.length lc oa OP.length oc), (kBatB_10 la LG lc), cellC b58 59 (kBatB_12 ((i : Int)))] [18] 19 rfl (by kernel_rfl) (fun Hx => (Hx.pk [0, 1, 2, 3, 4, 5, 6, 7, 8, 9, 11])) fun w65 H66 S67 => ?_
  refine k_pure 0 rfl (by kernel_rfl) (by kernel_rfl) (by kernel_rfl) (fun _ _ _ h => h) S67 (wants0 rfl) rfl (d := 38) (v := (.pointer (some ⟨b40, 4, none⟩))) rfl (fun _ => (by kernel_rfl)) ?_
  refine k_pure 1 rfl (by kernel_rfl) (by kernel_rfl) (by kernel_rfl) (fun _ _ _ h => h) S67 (wants0 rfl) rfl (d := 39) (v := (.pointer (some ⟨b40, 9, none⟩))) rfl (fun _ => (by kernel_rfl)) ?_
  refine k_val 2 rfl (by kernel_rfl) (by kernel_rfl) (by kernel_rfl) (fun _ _ _ h => h) S67 (wants0 rfl) rfl (by kernel_rfl) (d := 40) (v := (.slice oa OP.length oc)) rfl (fun _ H' => (zl1 (H'.cell 8 rfl rfl))) ?_
  refine zkp 3 S67 41 (.int .i64 ((i : Int))) <| zkp 4 S67 42 (.int .i64 (2 * (i : Int))) ?_ (he := fun _ => (e_int (z := 2 * (i : Int)) (by kernel_rfl) (IntWalk.i64_in _ (by omega))))
  refine zkv 5 S67 43 (.agg ⟨(kBatB_12 ((i : Int)))⟩) ?_ (he := fun _ H' => (zlN (vs := (kBatB_12 ((i : Int)))) (H'.at 10 rfl)))
  refine zkv 6 S67 44 (.agg ⟨(kBatB_12 ((i : Int)))⟩) ?_ (he := fun _ H' => (zlN (vs := (kBatB_12 ((i : Int)))) (H'.at 10 rfl)))
  refine k_pure 7 rfl (by kernel_rfl) (by kernel_rfl) (by kernel_rfl) (fun _ _ _ h => h) S67 (wants0 rfl) rfl (d := 45) (v := (.agg ⟨(hc hash0)⟩)) rfl (fun _ => (by kernel_rfl)) ?_
  refine zkp 8 S67 46 (.int .i64 ((i : Int))) <| zkp 9 S67 47 (.int .u8 ((i : Int))) ?_ (he := fun _ => (e_int (z := (i : Int)) (by kernel_rfl) (wrap_u8 (by omega))))
  refine zkd0 10 fun Kq kq => ?_
  refine zdbs 5 1 1 (.int .u8 (0)) [(0, (.int .u8 ((i : Int))))] ([(.int .u8 ((i : Int)))] : List Value) H66 ?_
  intro b69 w70 (H71 : Sat w [restC w (fun _ => False), cellC b2 27 (kBatB_0 pn pt ph ptm po pb psk pa P.length pc pl), cellC b6 38 (kBatB_1), cellC b14 29 (kBatB_2 (1 + (withinV f 2))), cellC b23 179 (kBatB_5 m24), (kBatB_4 m24 (([] : List Signed))), cellC r25 165 (kBatB_6), cellC b32 33 (kBatB_7 b23 r25), cellC b40 38 (kBatB_9 (1 + (withinV f 2)) b23 r25 (pl % 20) la LG.length lc oa OP.length oc), (kBatB_10 la LG lc), (kBatB_11 oa OP oc), cellC b58 59 (kBatB_12 ((i : Int))), rowC 5 1 (.slice (some ⟨b69, 0, none⟩) 1 1) 1 ([(.int .u8 ((i : Int)))] : List Value)] w70)
  have H72 : Sat w [restC w (fun _ => False), cellC b2 27 (kBatB_0 pn pt ph ptm po pb psk pa P.length pc pl), cellC b6 38 (kBatB_1), cellC b14 29 (kBatB_2 (1 + (withinV f 2))), cellC b23 179 (kBatB_5 m24), (kBatB_4 m24 (([] : List Signed))), cellC r25 165 (kBatB_6), cellC b32 33 (kBatB_7 b23 r25), cellC b40 38 (kBatB_9 (1 + (withinV f 2)) b23 r25 (pl % 20) la LG.length lc oa OP.length oc), (kBatB_10 la LG lc), (kBatB_11 oa OP oc), cellC b58 59 (kBatB_12 ((i : Int))), rowC 5 1 (.slice (some ⟨b69, 0, none⟩) 1 1) 1 ([UInt8.ofNat ((i : Int)).toNat].flatMap encB)] w70 := H71.cast (by rw [byte_enc (by omega)])
  have S73 := H72.pk [0, 1, 2, 3, 4, 5, 6, 7, 8, 9, 11]
  refine kq _ _ S73 <| zkd0 11 fun Kq kq => ?_
  refine zdq 49 (rOf_any w70 (i : Int) (50 : Int) hash0 (some ⟨b69, 0, none⟩) 1 ([UInt8.ofNat ((i : Int)).toNat]) (ListAt.row (enc := encB) (sz := 1) encB_len (by decide) (H72.at 12 rfl)) (by omega) (by omega) (by simp)) H72 ?_
  intro w75 H76
  have S78 := H76.pk [0, 1, 2, 3, 4, 5, 6, 7, 8, 9, 11]
  refine kq _ _ S78 <| k_pure 12 rfl (by kernel_rfl) (by kernel_rfl) (by kernel_rfl) (fun _ _ _ h => h) S78 (wants0 rfl) rfl (d := 50) (v := (.agg ⟨(([(.int .i64 ((i : Int))), (.int .i64 (50))] : List Value) ++ hc (shaR (ofT (i : Int) (50 : Int) hash0 ([UInt8.ofNat ((i : Int)).toNat]))) ++ ([(.int .u64 (1))] : List Value))⟩)) rfl (fun _ => (by kernel_rfl)) ?_
  refine k_pure 13 rfl (by kernel_rfl) (by kernel_rfl) (by kernel_rfl) (fun _ _ _ h => h) S78 (wants0 rfl) rfl (d := 51) (v := (.agg ⟨(kBatB_13 (2 * (i : Int)) ((i : Int)) (shaR (ofT (i : Int) (50 : Int) hash0 ([UInt8.ofNat ((i : Int)).toNat]))))⟩)) rfl (fun _ => (by kernel_rfl)) ?_
  refine zkd0 14 fun Kq kq => ?_
  refine zdbs 102 36 64 (.agg ⟨(([(.int .i64 (0)), (.int .i64 (0)), (.int .i64 (0))] : List Value) ++ hc hash0 ++ ([(.int .u64 (0))] : List Value))⟩) [(0, (.agg ⟨(kBatB_13 (2 * (i : Int)) ((i : Int)) (shaR (ofT (i : Int) (50 : Int) hash0 ([UInt8.ofNat ((i : Int)).toNat]))))⟩))] (kBatB_13 (2 * (i : Int)) ((i : Int)) (shaR (ofT (i : Int) (50 : Int) hash0 ([UInt8.ofNat ((i : Int)).toNat])))) H76 ?_
  intro b80 w81 (H82 : Sat w [restC w (fun _ => False), cellC b2 27 (kBatB_0 pn pt ph ptm po pb psk pa P.length pc pl), cellC b6 38 (kBatB_1), cellC b14 29 (kBatB_2 (1 + (withinV f 2))), cellC b23 179 (kBatB_5 m24), (kBatB_4 m24 (([] : List Signed))), cellC r25 165 (kBatB_6), cellC b32 33 (kBatB_7 b23 r25), cellC b40 38 (kBatB_9 (1 + (withinV f 2)) b23 r25 (pl % 20) la LG.length lc oa OP.length oc), (kBatB_10 la LG lc), (kBatB_11 oa OP oc), cellC b58 59 (kBatB_12 ((i : Int))), rowC 5 1 (.slice (some ⟨b69, 0, none⟩) 1 1) 1 ([UInt8.ofNat ((i : Int)).toNat].flatMap encB), rowC 102 36 (.slice (some ⟨b80, 0, none⟩) 1 1) 1 (kBatB_13 (2 * (i : Int)) ((i : Int)) (shaR (ofT (i : Int) (50 : Int) hash0 ([UInt8.ofNat ((i : Int)).toNat]))))] w81)
  have H83 : Sat w [restC w (fun _ => False), cellC b2 27 (kBatB_0 pn pt ph ptm po pb psk pa P.length pc pl), cellC b6 38 (kBatB_1), cellC b14 29 (kBatB_2 (1 + (withinV f 2))), cellC b23 179 (kBatB_5 m24), (kBatB_4 m24 (([] : List Signed))), cellC r25 165 (kBatB_6), cellC b32 33 (kBatB_7 b23 r25), cellC b40 38 (kBatB_9 (1 + (withinV f 2)) b23 r25 (pl % 20) la LG.length lc oa OP.length oc), (kBatB_10 la LG lc), (kBatB_11 oa OP oc), cellC b58 59 (kBatB_12 ((i : Int))), rowC 5 1 (.slice (some ⟨b69, 0, none⟩) 1 1) 1 ([UInt8.ofNat ((i : Int)).toNat].flatMap encB), rowC 102 36 (.slice (some ⟨b80, 0, none⟩) 1 1) 1 ([(⟨2 * (i : Int), (i : Int), 50, (shaR (ofT (i : Int) (50 : Int) hash0 ([UInt8.ofNat ((i : Int)).toNat]))), 1⟩ : SpotD)].flatMap encSp)] w81 := H82.cast (by rw [(show ((kBatB_13 (2 * (i : Int)) ((i : Int)) (shaR (ofT (i : Int) (50 : Int) hash0 ([UInt8.ofNat ((i : Int)).toNat])))) : List Value) = [(⟨2 * (i : Int), (i : Int), 50, (shaR (ofT (i : Int) (50 : Int) hash0 ([UInt8.ofNat ((i : Int)).toNat]))), 1⟩ : SpotD)].flatMap encSp by kernel_rfl)])
  have S84 := H83.pk [0, 1, 2, 3, 4, 5, 6, 7, 8, 9, 11]
  refine kq _ _ S84 <| zkd0 15 fun Kq kq => ?_
  refine d_append (T := 34) (e := 102) (size := 36) (bytes := 64) rfl H83 (by kernel_rfl) 10 13 rfl rfl rfl rfl (flat_one encSp encSp_one [(⟨2 * (i : Int), (i : Int), 50, (shaR (ofT (i : Int) (50 : Int) hash0 ([UInt8.ofNat ((i : Int)).toNat]))), 1⟩ : SpotD)]) (by omega) (by omega) ?_
  intro v86 w87 H88
  have H91 : Sat w [restC w (fun _ => False), cellC b2 27 (kBatB_0 pn pt ph ptm po pb psk pa P.length pc pl), cellC b6 38 (kBatB_1), cellC b14 29 (kBatB_2 (1 + (withinV f 2))), cellC b23 179 (kBatB_5 m24), (kBatB_4 m24 (([] : List Signed))), cellC r25 165 (kBatB_6), cellC b32 33 (kBatB_7 b23 r25), cellC b40 38 (kBatB_9 (1 + (withinV f 2)) b23 r25 (pl % 20) la LG.length lc oa OP.length oc), (kBatB_10 la LG lc), rowC 102 36 v86 ((OP ++ [(⟨2 * (i : Int), (i : Int), 50, (shaR (ofT (i : Int) (50 : Int) hash0 ([UInt8.ofNat ((i : Int)).toNat]))), 1⟩ : SpotD)]).length) ((OP ++ [(⟨2 * (i : Int), (i : Int), 50, (shaR (ofT (i : Int) (50 : Int) hash0 ([UInt8.ofNat ((i : Int)).toNat]))), 1⟩ : SpotD)]).flatMap encSp), cellC b58 59 (kBatB_12 ((i : Int))), rowC 5 1 (.slice (some ⟨b69, 0, none⟩) 1 1) 1 ([UInt8.ofNat ((i : Int)).toNat].flatMap encB), rowC 102 36 (.slice (some ⟨b80, 0, none⟩) 1 1) 1 ([(⟨2 * (i : Int), (i : Int), 50, (shaR (ofT (i : Int) (50 : Int) hash0 ([UInt8.ofNat ((i : Int)).toNat]))), 1⟩ : SpotD)].flatMap encSp)] w87 := H88.cast (by simp only [List.length_append, List.flatMap_append] <;> rfl)
  obtain ⟨a89, c90, rfl⟩ := ownsRow_shape (H91.at 10 rfl)
  have S92 := H91.pk [0, 1, 2, 3, 4, 5, 6, 7, 8, 9, 11]
  refine kq _ _ S92 <| k_pure 16 rfl (by kernel_rfl) (by kernel_rfl) (by kernel_rfl) (fun _ _ _ h => h) S92 (wants0 rfl) rfl (d := 54) (v := (.pointer (some ⟨b40, 4, none⟩))) rfl (fun _ => (by kernel_rfl)) ?_
  refine k_pure 17 rfl (by kernel_rfl) (by kernel_rfl) (by kernel_rfl) (fun _ _ _ h => h) S92 (wants0 rfl) rfl (d := 55) (v := (.pointer (some ⟨b40, 9, none⟩))) rfl (fun _ => (by kernel_rfl)) ?_
  refine k_brk 18 (Sat w [restC w (fun _ => False), cellC b2 27 (kBatB_0 pn pt ph ptm po pb psk pa P.length pc pl), cellC b6 38 (kBatB_1), cellC b14 29 (kBatB_2 (1 + (withinV f 2))), cellC b23 179 (kBatB_5 m24), (kBatB_4 m24 (([] : List Signed))), cellC r25 165 (kBatB_6), cellC b32 33 (kBatB_7 b23 r25), (kBatB_10 la LG lc), cellC b58 59 (kBatB_12 ((i : Int)))]) rfl (by kernel_rfl) (wants0 rfl) rfl (fun Kq kq => ?_)
  refine d_storeX (vs := ([(.slice a89 ((OP ++ [(⟨2 * (i : Int), (i : Int), 50, (shaR (ofT (i : Int) (50 : Int) hash0 ([UInt8.ofNat ((i : Int)).toNat]))), 1⟩ : SpotD)]).length) c90)] : List Value)) (cs' := (kBatB_9 (1 + (withinV f 2)) b23 r25 (pl % 20) la LG.length lc a89 ((OP ++ [(⟨2 * (i : Int), (i : Int), 50, (shaR (ofT (i : Int) (50 : Int) hash0 ([UInt8.ofNat ((i : Int)).toNat]))), 1⟩ : SpotD)]).length) c90)) rfl H91 8 rfl rfl rfl rfl (by kernel_rfl) (Nat.le_of_ble_eq_true (by kernel_rfl)) (Nat.le_of_ble_eq_true (by kernel_rfl)) (by kernel_rfl) (by kernel_rfl) ?_
  intro w94 (H95 : Sat w [restC w (fun _ => False), cellC b2 27 (kBatB_0 pn pt ph ptm po pb psk pa P.length pc pl), cellC b6 38 (kBatB_1), cellC b14 29 (kBatB_2 (1 + (withinV f 2))), cellC b23 179 (kBatB_5 m24), (kBatB_4 m24 (([] : List Signed))), cellC r25 165 (kBatB_6), cellC b32 33 (kBatB_7 b23 r25), cellC b40 38 (kBatB_9 (1 + (withinV f 2)) b23 r25 (pl % 20) la LG.length lc a89 ((OP ++ [(⟨2 * (i : Int), (i : Int), 50, (shaR (ofT (i : Int) (50 : Int) hash0 ([UInt8.ofNat ((i : Int)).toNat]))), 1⟩ : SpotD)]).length) c90), (kBatB_10 la LG lc), (kBatB_11 a89 (OP ++ [(⟨2 * (i : Int), (i : Int), 50, (shaR (ofT (i : Int) (50 : Int) hash0 ([UInt8.ofNat ((i : Int)).toNat]))), 1⟩ : SpotD)]) c90), cellC b58 59 (kBatB_12 ((i : Int))), rowC 5 1 (.slice (some ⟨b69, 0, none⟩) 1 1) 1 ([UInt8.ofNat ((i : Int)).toNat].flatMap encB), rowC 102 36 (.slice (some ⟨b80, 0, none⟩) 1 1) 1 ([(⟨2 * (i : Int), (i : Int), 50, (shaR (ofT (i : Int) (50 : Int) hash0 ([UInt8.ofNat ((i : Int)).toNat]))), 1⟩ : SpotD)].flatMap encSp)] w94)
  have S97 := H95.pk [0, 1, 2, 3, 4, 5, 6, 7, 9, 11]
  refine kq _ _ S97 <| zhf <| ztn <| w_lit <| wl_pure (wants0 rfl) (d := 56) (v := (.pointer (some ⟨b40, 4, none⟩))) rfl (by kernel_rfl) ?_
  refine wl_pure (wants0 rfl) (d := 57) (v := (.pointer (some ⟨b40, 8, none⟩))) rfl (by kernel_rfl) ?_
  refine wl_pure (wants0 rfl) (d := 58) (v := (.slice la LG.length lc)) rfl (zl1 (H95.cell 8 rfl rfl)) ?_
  refine zwN 59 (kBatB_12 ((i : Int))) (H95.at 11 rfl) <| zwd fun Kq kq => zdbs 59 2 16 (.agg ⟨(kBatB_3)⟩) [(0, (.agg ⟨(kBatB_12 ((i : Int)))⟩))] (kBatB_12 ((i : Int))) H95 ?_
  intro b99 w100 (H101 : Sat w [restC w (fun _ => False), cellC b2 27 (kBatB_0 pn pt ph ptm po pb psk pa P.length pc pl), cellC b6 38 (kBatB_1), cellC b14 29 (kBatB_2 (1 + (withinV f 2))), cellC b23 179 (kBatB_5 m24), (kBatB_4 m24 (([] : List Signed))), cellC r25 165 (kBatB_6), cellC b32 33 (kBatB_7 b23 r25), cellC b40 38 (kBatB_9 (1 + (withinV f 2)) b23 r25 (pl % 20) la LG.length lc a89 ((OP ++ [(⟨2 * (i : Int), (i : Int), 50, (shaR (ofT (i : Int) (50 : Int) hash0 ([UInt8.ofNat ((i : Int)).toNat]))), 1⟩ : SpotD)]).length) c90), (kBatB_10 la LG lc), (kBatB_11 a89 (OP ++ [(⟨2 * (i : Int), (i : Int), 50, (shaR (ofT (i : Int) (50 : Int) hash0 ([UInt8.ofNat ((i : Int)).toNat]))), 1⟩ : SpotD)]) c90), cellC b58 59 (kBatB_12 ((i : Int))), rowC 5 1 (.slice (some ⟨b69, 0, none⟩) 1 1) 1 ([UInt8.ofNat ((i : Int)).toNat].flatMap encB), rowC 102 36 (.slice (some ⟨b80, 0, none⟩) 1 1) 1 ([(⟨2 * (i : Int), (i : Int), 50, (shaR (ofT (i : Int) (50 : Int) hash0 ([UInt8.ofNat ((i : Int)).toNat]))), 1⟩ : SpotD)].flatMap encSp), rowC 59 2 (.slice (some ⟨b99, 0, none⟩) 1 1) 1 (kBatB_12 ((i : Int)))] w100)
  have H102 : Sat w [restC w (fun _ => False), cellC b2 27 (kBatB_0 pn pt ph ptm po pb psk pa P.length pc pl), cellC b6 38 (kBatB_1), cellC b14 29 (kBatB_2 (1 + (withinV f 2))), cellC b23 179 (kBatB_5 m24), (kBatB_4 m24 (([] : List Signed))), cellC r25 165 (kBatB_6), cellC b32 33 (kBatB_7 b23 r25), cellC b40 38 (kBatB_9 (1 + (withinV f 2)) b23 r25 (pl % 20) la LG.length lc a89 ((OP ++ [(⟨2 * (i : Int), (i : Int), 50, (shaR (ofT (i : Int) (50 : Int) hash0 ([UInt8.ofNat ((i : Int)).toNat]))), 1⟩ : SpotD)]).length) c90), (kBatB_10 la LG lc), (kBatB_11 a89 (OP ++ [(⟨2 * (i : Int), (i : Int), 50, (shaR (ofT (i : Int) (50 : Int) hash0 ([UInt8.ofNat ((i : Int)).toNat]))), 1⟩ : SpotD)]) c90), cellC b58 59 (kBatB_12 ((i : Int))), rowC 5 1 (.slice (some ⟨b69, 0, none⟩) 1 1) 1 ([UInt8.ofNat ((i : Int)).toNat].flatMap encB), rowC 102 36 (.slice (some ⟨b80, 0, none⟩) 1 1) 1 ([(⟨2 * (i : Int), (i : Int), 50, (shaR (ofT (i : Int) (50 : Int) hash0 ([UInt8.ofNat ((i : Int)).toNat]))), 1⟩ : SpotD)].flatMap encSp), rowC 59 2 (.slice (some ⟨b99, 0, none⟩) 1 1) 1 ([(⟨(i : Int), 50⟩ : NmD)].flatMap encNm)] w100 := H101.cast (by rw [(show ((kBatB_12 ((i : Int))) : List Value) = [(⟨(i : Int), 50⟩ : NmD)].flatMap encNm by kernel_rfl)])
  refine kq _ _ <| zwd fun Kq kq => d_append (T := 22) (e := 59) (size := 2) (bytes := 16) rfl H102 (by kernel_rfl) 9 14 rfl rfl rfl rfl (flat_one encNm encNm_one [(⟨(i : Int), 50⟩ : NmD)]) (by omega) (by omega) fun v104 w105 H106 => ?_
  have H109 : Sat w [restC w (fun _ => False), cellC b2 27 (kBatB_0 pn pt ph ptm po pb psk pa P.length pc pl), cellC b6 38 (kBatB_1), cellC b14 29 (kBatB_2 (1 + (withinV f 2))), cellC b23 179 (kBatB_5 m24), (kBatB_4 m24 (([] : List Signed))), cellC r25 165 (kBatB_6), cellC b32 33 (kBatB_7 b23 r25), cellC b40 38 (kBatB_9 (1 + (withinV f 2)) b23 r25 (pl % 20) la LG.length lc a89 ((OP ++ [(⟨2 * (i : Int), (i : Int), 50, (shaR (ofT (i : Int) (50 : Int) hash0 ([UInt8.ofNat ((i : Int)).toNat]))), 1⟩ : SpotD)]).length) c90), rowC 59 2 v104 ((LG ++ [(⟨(i : Int), 50⟩ : NmD)]).length) ((LG ++ [(⟨(i : Int), 50⟩ : NmD)]).flatMap encNm), (kBatB_11 a89 (OP ++ [(⟨2 * (i : Int), (i : Int), 50, (shaR (ofT (i : Int) (50 : Int) hash0 ([UInt8.ofNat ((i : Int)).toNat]))), 1⟩ : SpotD)]) c90), cellC b58 59 (kBatB_12 ((i : Int))), rowC 5 1 (.slice (some ⟨b69, 0, none⟩) 1 1) 1 ([UInt8.ofNat ((i : Int)).toNat].flatMap encB), rowC 102 36 (.slice (some ⟨b80, 0, none⟩) 1 1) 1 ([(⟨2 * (i : Int), (i : Int), 50, (shaR (ofT (i : Int) (50 : Int) hash0 ([UInt8.ofNat ((i : Int)).toNat]))), 1⟩ : SpotD)].flatMap encSp), rowC 59 2 (.slice (some ⟨b99, 0, none⟩) 1 1) 1 ([(⟨(i : Int), 50⟩ : NmD)].flatMap encNm)] w105 := H106.cast (by simp only [List.length_append, List.flatMap_append] <;> rfl)
  obtain ⟨a107, c108, rfl⟩ := ownsRow_shape (H109.at 9 rfl)
  refine kq _ _ <| wl_pure (wants0 rfl) (d := 62) (v := (.pointer (some ⟨b40, 4, none⟩))) rfl (by kernel_rfl) ?_
  refine wl_pure (wants0 rfl) (d := 63) (v := (.pointer (some ⟨b40, 8, none⟩))) rfl (by kernel_rfl) ?_
  refine zwd fun Kq kq => d_storeX (vs := ([(.slice a107 ((LG ++ [(⟨(i : Int), 50⟩ : NmD)]).length) c108)] : List Value)) (cs' := (kBatB_9 (1 + (withinV f 2)) b23 r25 (pl % 20) a107 ((LG ++ [(⟨(i : Int), 50⟩ : NmD)]).length) c108 a89 ((OP ++ [(⟨2 * (i : Int), (i : Int), 50, (shaR (ofT (i : Int) (50 : Int) hash0 ([UInt8.ofNat ((i : Int)).toNat]))), 1⟩ : SpotD)]).length) c90)) rfl H109 8 rfl rfl rfl rfl (by kernel_rfl) (Nat.le_of_ble_eq_true (by kernel_rfl)) (Nat.le_of_ble_eq_true (by kernel_rfl)) (by kernel_rfl) (by kernel_rfl) fun w111 H112 => ?_
  refine kq _ _ <| w_nil <| blk_normal <| ztn <| w_lit <| wv 34 (.int .i64 ((i : Int))) <| zwi 35 ((i : Int) + 1) <| wv 10 (.int .i64 ((i : Int) + 1)) <| w_nil ?_
  have H114 := H112.pk [0, 1, 2, 3, 4, 5, 6, 7, 8, 9, 10]
  refine round_back ?_ _ ⟨(i + 1), a107, c108, (LG ++ [(⟨(i : Int), 50⟩ : NmD)]), a89, c90, (OP ++ [(⟨2 * (i : Int), (i : Int), 50, (shaR (ofT (i : Int) (50 : Int) hash0 ([UInt8.ofNat ((i : Int)).toNat]))), 1⟩ : SpotD)]), rfl, (by omega), (by rw [hLG, namesN_succ]), (by rw [hOP, spotsN_succ]; rfl), H114, rfl⟩ (by omega)
  exact zs
 have g115 := of_decide_eq_false b54
 refine wl_know 31 (.bool false) (congrArg Value.bool b54) ?_
 refine wn 2 31 true ?_
 refine wv 33 (.bool false) <| znt <| wp_iff rfl ?_
 refine zxb <| ztn <| w_seq <| w_seq ?_
 have hi3 : i = 3 := by omega
 refine w_lit <| wv 12 (.int .i64 (0)) <| znt <| w_block <| wp_round ([12] ++ List.range' 64 24) (fun F_ W_ m_ => ∃ (j : Nat) (ha : Option Addr) (hc_ : Nat) (LH : List NmD), F_ 12 = (.int .i64 ((j : Int))) ∧ (j ≤ 3) ∧ (j ≤ P.length) ∧ (LH = namesN 3 ++ (P.take j).map smallN) ∧ Sat w [restC w (fun _ => False), cellC b2 27 (kBatB_0 pn pt ph ptm po pb psk pa P.length pc pl), cellC b6 38 (kBatB_1), cellC b14 29 (kBatB_2 (1 + (withinV f 2))), cellC b23 179 (kBatB_5 m24), (kBatB_4 m24 (([] : List Signed))), cellC r25 165 (kBatB_6), cellC b32 33 (kBatB_7 b23 r25), cellC b40 38 (kBatB_9 (1 + (withinV f 2)) b23 r25 (pl % 20) ha LH.length hc_ oa OP.length oc), (kBatB_10 ha LH hc_), (kBatB_11 oa OP oc)] W_ ∧ m_ = 3 - j) _ ⟨0, la, lc, LG, (show ((.int .i64 (0)) : Value) = _ by first | rfl | go_num), (Nat.zero_le _), (Nat.zero_le _), (by rw [hLG, hi3]; simp), H51, rfl⟩ ?_
 rintro g117 w118 _ ⟨j, ha, hc_, LH, v120, hj, hj2, hLH, H119, rfl⟩
 refine wp_know 12 _ v120 ?_
 have hhl : LH.length = 3 + j := by rw [hLH, List.length_append, namesN_len, List.length_map, List.length_take]; omega
 refine w_seq <| zsl <| wv 64 (.int .i64 ((j : Int))) <| wl_pure (wants0 rfl) (d := 65) (v := (.pointer (some ⟨b2, 7, none⟩))) rfl (by kernel_rfl) ?_
 refine wl_pure (wants0 rfl) (d := 66) (v := (.slice pa P.length pc)) rfl (zl1 (H119.cell 1 rfl rfl)) ?_
 refine wv 67 (.int .i64 ((P.length : Int))) <| wv 68 (.bool (decide ((j : Int) < (P.length : Int)))) <| wv 69 (.bool (decide ((j : Int) < (P.length : Int)))) ?_
 refine (bsplit (decide ((j : Int) < (P.length : Int)))).elim (fun b122 => ?_) (fun b122 => ?_)
 ·have g123 := of_decide_eq_true b122
  refine wl_know 69 (.bool true) (congrArg Value.bool b122) ?_
  refine wy 5 69 true 70 (.int .i64 ((j : Int))) <| wy 5 69 true 71 (.bool (decide ((j : Int) < 3))) <| wv 72 (.bool (decide ((j : Int) < 3))) <| znt ?_
  refine (bsplit (decide ((j : Int) < 3))).elim (fun b125 => ?_) (fun b125 => ?_)
  ·have g126 := of_decide_eq_true b125
   refine zwkt _ b125 ?_
   refine w_skip <| ztn <| w_seq <| w_block ?_
   obtain ⟨g128, o129, c130, e131, R132⟩ := SliceOf.atD hP nm0 (show j < P.length by omega)
   obtain ⟨g133, o134, c135, e136, R137⟩ := SliceOf.atD hP nm0 (show j < P.length by omega)
   refine k_start H119 [restC w (fun _ => False), cellC b2 27 (kBatB_0 pn pt ph ptm po pb psk pa P.length pc pl), cellC b6 38 (kBatB_1), cellC b14 29 (kBatB_2 (1 + (withinV f 2))), cellC b23 179 (kBatB_5 m24), (kBatB_4 m24 (([] : List Signed))), cellC r25 165 (kBatB_6), cellC b32 33 (kBatB_7 b23 r25), cellC b40 38 (kBatB_9 (1 + (withinV f 2)) b23 r25 (pl % 20) ha LH.length hc_ oa OP.length oc), (kBatB_11 oa OP oc)] [13] 14 rfl (by kernel_rfl) (fun Hx => (Hx.pk [0, 1, 2, 3, 4, 5, 6, 7, 8, 10])) ?_
   intro w138 H139 S140
   refine k_pure 0 rfl (by kernel_rfl) (by kernel_rfl) (by kernel_rfl) (fun _ _ _ h => h) S140 (wants0 rfl) rfl (d := 75) (v := (.pointer (some ⟨b40, 4, none⟩))) rfl (fun _ => (by kernel_rfl)) ?_
   refine k_pure 1 rfl (by kernel_rfl) (by kernel_rfl) (by kernel_rfl) (fun _ _ _ h => h) S140 (wants0 rfl) rfl (d := 76) (v := (.pointer (some ⟨b40, 8, none⟩))) rfl (fun _ => (by kernel_rfl)) ?_
   refine k_val 2 rfl (by kernel_rfl) (by kernel_rfl) (by kernel_rfl) (fun _ _ _ h => h) S140 (wants0 rfl) rfl (by kernel_rfl) (d := 77) (v := (.slice ha LH.length hc_)) rfl (fun _ H' => (zl1 (H'.cell 8 rfl rfl))) ?_
   refine k_pure 3 rfl (by kernel_rfl) (by kernel_rfl) (by kernel_rfl) (fun _ _ _ h => h) S140 (wants0 rfl) rfl (d := 78) (v := (.pointer (some ⟨b2, 7, none⟩))) rfl (fun _ => (by kernel_rfl)) ?_
   refine k_val 4 rfl (by kernel_rfl) (by kernel_rfl) (by kernel_rfl) (fun _ _ _ h => h) S140 (wants0 rfl) rfl (by kernel_rfl) (d := 79) (v := (.slice pa P.length pc)) rfl (fun _ H' => (zl1 (H'.cell 1 rfl rfl))) ?_
   refine zkp 5 S140 80 (.int .i64 ((j : Int))) ?_
   obtain ⟨g141, o142, c143, e144, R145⟩ := SliceOf.atD hP nm0 (show j < P.length by omega)
   refine k_pure 6 rfl (by kernel_rfl) (by kernel_rfl) (by kernel_rfl) (fun _ _ _ h => h) S140 (wants0 rfl) rfl (d := 81) (v := (.pointer (some ⟨g141, o142 + ((j : Int)).toNat * 2, none⟩))) rfl (fun _ => (e_indexAddrW (E := 59) (by kernel_rfl) (by kernel_rfl) (Nat.le_of_ble_eq_true rfl) rfl e144 rfl (by omega) (by omega))) ?_
   refine zkv 7 S140 82 (.agg ⟨([(.int .i64 ((P.getD j nm0).cl)), (.int .i64 ((P.getD j nm0).sq))] : List Value)⟩) ?_ (he := fun _ H' => (e_loadRun (vs := ([(.int .i64 ((P.getD j nm0).cl)), (.int .i64 ((P.getD j nm0).sq))] : List Value)) rfl (by kernel_rfl) (by kernel_rfl) (Nat.le_of_ble_eq_true (by kernel_rfl)) (H'.runR 0 rfl (cells_run R145 0 (by kernel_rfl) (show o142 + ((j : Int)).toNat * 2 = o142 + j * 2 + 0 by omega)) (fun h => h))))
   refine zkd0 8 fun Kq kq => ?_
   refine zdq 83 (small_any w138 ((P.getD j nm0).cl) ((P.getD j nm0).sq)) H139 ?_
   intro w147 H148
   have S150 := H148.pk [0, 1, 2, 3, 4, 5, 6, 7, 8, 10]
   refine kq _ _ S150 <| zkd0 9 fun Kq kq => ?_
   refine zdbs 59 2 16 (.agg ⟨(kBatB_3)⟩) [(0, (.agg ⟨([(.int .i64 (withinV ((P.getD j nm0).cl) 3)), (.int .i64 (1 + withinV ((P.getD j nm0).sq) 4))] : List Value)⟩))] ([(.int .i64 (withinV ((P.getD j nm0).cl) 3)), (.int .i64 (1 + withinV ((P.getD j nm0).sq) 4))] : List Value) H148 ?_
   intro b152 w153 (H154 : Sat w [restC w (fun _ => False), cellC b2 27 (kBatB_0 pn pt ph ptm po pb psk pa P.length pc pl), cellC b6 38 (kBatB_1), cellC b14 29 (kBatB_2 (1 + (withinV f 2))), cellC b23 179 (kBatB_5 m24), (kBatB_4 m24 (([] : List Signed))), cellC r25 165 (kBatB_6), cellC b32 33 (kBatB_7 b23 r25), cellC b40 38 (kBatB_9 (1 + (withinV f 2)) b23 r25 (pl % 20) ha LH.length hc_ oa OP.length oc), (kBatB_10 ha LH hc_), (kBatB_11 oa OP oc), rowC 59 2 (.slice (some ⟨b152, 0, none⟩) 1 1) 1 ([(.int .i64 (withinV ((P.getD j nm0).cl) 3)), (.int .i64 (1 + withinV ((P.getD j nm0).sq) 4))] : List Value)] w153)
   have H155 : Sat w [restC w (fun _ => False), cellC b2 27 (kBatB_0 pn pt ph ptm po pb psk pa P.length pc pl), cellC b6 38 (kBatB_1), cellC b14 29 (kBatB_2 (1 + (withinV f 2))), cellC b23 179 (kBatB_5 m24), (kBatB_4 m24 (([] : List Signed))), cellC r25 165 (kBatB_6), cellC b32 33 (kBatB_7 b23 r25), cellC b40 38 (kBatB_9 (1 + (withinV f 2)) b23 r25 (pl % 20) ha LH.length hc_ oa OP.length oc), (kBatB_10 ha LH hc_), (kBatB_11 oa OP oc), rowC 59 2 (.slice (some ⟨b152, 0, none⟩) 1 1) 1 ([(⟨withinV ((P.getD j nm0).cl) 3, 1 + withinV ((P.getD j nm0).sq) 4⟩ : NmD)].flatMap encNm)] w153 := H154.cast (by rw [(show (([(.int .i64 (withinV ((P.getD j nm0).cl) 3)), (.int .i64 (1 + withinV ((P.getD j nm0).sq) 4))] : List Value) : List Value) = [(⟨withinV ((P.getD j nm0).cl) 3, 1 + withinV ((P.getD j nm0).sq) 4⟩ : NmD)].flatMap encNm by kernel_rfl)])
   have S156 := H155.pk [0, 1, 2, 3, 4, 5, 6, 7, 8, 10]
   refine kq _ _ S156 <| zkd0 10 fun Kq kq => ?_
   refine d_append (T := 22) (e := 59) (size := 2) (bytes := 16) rfl H155 (by kernel_rfl) 9 11 rfl rfl rfl rfl (flat_one encNm encNm_one [(⟨withinV ((P.getD j nm0).cl) 3, 1 + withinV ((P.getD j nm0).sq) 4⟩ : NmD)]) (by omega) (by omega) ?_
   intro v158 w159 H160
   have H163 : Sat w [restC w (fun _ => False), cellC b2 27 (kBatB_0 pn pt ph ptm po pb psk pa P.length pc pl), cellC b6 38 (kBatB_1), cellC b14 29 (kBatB_2 (1 + (withinV f 2))), cellC b23 179 (kBatB_5 m24), (kBatB_4 m24 (([] : List Signed))), cellC r25 165 (kBatB_6), cellC b32 33 (kBatB_7 b23 r25), cellC b40 38 (kBatB_9 (1 + (withinV f 2)) b23 r25 (pl % 20) ha LH.length hc_ oa OP.length oc), rowC 59 2 v158 ((LH ++ [(⟨withinV ((P.getD j nm0).cl) 3, 1 + withinV ((P.getD j nm0).sq) 4⟩ : NmD)]).length) ((LH ++ [(⟨withinV ((P.getD j nm0).cl) 3, 1 + withinV ((P.getD j nm0).sq) 4⟩ : NmD)]).flatMap encNm), (kBatB_11 oa OP oc), rowC 59 2 (.slice (some ⟨b152, 0, none⟩) 1 1) 1 ([(⟨withinV ((P.getD j nm0).cl) 3, 1 + withinV ((P.getD j nm0).sq) 4⟩ : NmD)].flatMap encNm)] w159 := H160.cast (by simp only [List.length_append, List.flatMap_append] <;> rfl)
   obtain ⟨a161, c162, rfl⟩ := ownsRow_shape (H163.at 9 rfl)
   have S164 := H163.pk [0, 1, 2, 3, 4, 5, 6, 7, 8, 10]
   refine kq _ _ S164 <| k_pure 11 rfl (by kernel_rfl) (by kernel_rfl) (by kernel_rfl) (fun _ _ _ h => h) S164 (wants0 rfl) rfl (d := 86) (v := (.pointer (some ⟨b40, 4, none⟩))) rfl (fun _ => (by kernel_rfl)) ?_
   refine k_pure 12 rfl (by kernel_rfl) (by kernel_rfl) (by kernel_rfl) (fun _ _ _ h => h) S164 (wants0 rfl) rfl (d := 87) (v := (.pointer (some ⟨b40, 8, none⟩))) rfl (fun _ => (by kernel_rfl)) ?_
   refine k_brk 13 (Sat w [restC w (fun _ => False), cellC b2 27 (kBatB_0 pn pt ph ptm po pb psk pa P.length pc pl), cellC b6 38 (kBatB_1), cellC b14 29 (kBatB_2 (1 + (withinV f 2))), cellC b23 179 (kBatB_5 m24), (kBatB_4 m24 (([] : List Signed))), cellC r25 165 (kBatB_6), cellC b32 33 (kBatB_7 b23 r25), (kBatB_11 oa OP oc)]) rfl (by kernel_rfl) (wants0 rfl) rfl (fun Kq kq => ?_)
   refine d_storeX (vs := ([(.slice a161 ((LH ++ [(⟨withinV ((P.getD j nm0).cl) 3, 1 + withinV ((P.getD j nm0).sq) 4⟩ : NmD)]).length) c162)] : List Value)) (cs' := (kBatB_9 (1 + (withinV f 2)) b23 r25 (pl % 20) a161 ((LH ++ [(⟨withinV ((P.getD j nm0).cl) 3, 1 + withinV ((P.getD j nm0).sq) 4⟩ : NmD)]).length) c162 oa OP.length oc)) rfl H163 8 rfl rfl rfl rfl (by kernel_rfl) (Nat.le_of_ble_eq_true (by kernel_rfl)) (Nat.le_of_ble_eq_true (by kernel_rfl)) (by kernel_rfl) (by kernel_rfl) ?_
   intro w166 H167
   have S169 := H167.pk [0, 1, 2, 3, 4, 5, 6, 7, 10]
   refine kq _ _ S169 <| zhf <| blk_normal <| ztn <| w_lit <| wv 73 (.int .i64 ((j : Int))) <| zwi 74 ((j : Int) + 1) <| wv 12 (.int .i64 ((j : Int) + 1)) <| w_nil ?_
   have H170 := H167.pk [0, 1, 2, 3, 4, 5, 6, 7, 8, 9, 10]
   refine round_back ?_ _ ⟨(j + 1), a161, c162, (LH ++ [(⟨withinV ((P.getD j nm0).cl) 3, 1 + withinV ((P.getD j nm0).sq) 4⟩ : NmD)]), rfl, (by omega), (by omega), (by rw [hLH, take_smallN P (by omega), List.append_assoc]; rfl), H170, rfl⟩ (by omega)
   exact zs
  have g171 := of_decide_eq_false b125
  refine zwkf _ b125 ?_
  refine zxb <| ztn <| zsl <| zwN 88 (kBatB_9 (1 + (withinV f 2)) b23 r25 (pl % 20) ha LH.length hc_ oa OP.length oc) (H119.at 8 rfl) <| wv 89 (.bool true) <| zwd fun Kq kq => zds1 (kBatB_9 (1 + (withinV f 2)) b23 r25 (pl % 20) ha LH.length hc_ oa OP.length oc) H119 2 fun w174 H175 => ?_
  refine kq _ _ <| wv 5 (.bool true) <| znt <| w_ret <| end2 rfl (res_cellN (vs := (kBatB_9 (1 + (withinV f 2)) b23 r25 (pl % 20) ha LH.length hc_ oa OP.length oc)) rfl (by kernel_rfl) (by kernel_rfl) (Nat.le_of_ble_eq_true (by kernel_rfl)) (H175.at 2 rfl) (by kernel_rfl)) (res_tmp (v := (.bool true)) rfl) ?_
  have hjt : LH = namesN 3 ++ (P.take 3).map smallN := by
   rw [hLH]; congr 2
   rcases Nat.lt_or_ge j 3 with h | h
   ·rw [List.take_of_length_le (by omega), List.take_of_length_le (by omega)]
   rw [show j = 3 by omega]
  subst hi3
  subst hOP
  subst hjt
  clear hLH
  exact ⟨b23, m24, r25, ha, hc_, oa, oc, rfl, H175.fn [4, 5, 6, 9, 10], H175.upd 0 rfl [] (fun _ h => h.elim), H175.freshS 0 rfl (fun _ h => h) [4, 5, 6, 9, 10] rfl rfl⟩
 have g178 := of_decide_eq_false b122
 refine wl_know 69 (.bool false) (congrArg Value.bool b122) ?_
 iterate 2 refine wn 5 69 true ?_
 refine wv 72 (.bool false) <| znt <| wp_iff rfl ?_
 refine zxb <| ztn <| zsl <| zwN 88 (kBatB_9 (1 + (withinV f 2)) b23 r25 (pl % 20) ha LH.length hc_ oa OP.length oc) (H119.at 8 rfl) <| wv 89 (.bool true) <| zwd fun Kq kq => zds1 (kBatB_9 (1 + (withinV f 2)) b23 r25 (pl % 20) ha LH.length hc_ oa OP.length oc) H119 2 fun w181 H182 => ?_
 refine kq _ _ <| wv 5 (.bool true) <| znt <| w_ret <| end2 rfl (res_cellN (vs := (kBatB_9 (1 + (withinV f 2)) b23 r25 (pl % 20) ha LH.length hc_ oa OP.length oc)) rfl (by kernel_rfl) (by kernel_rfl) (Nat.le_of_ble_eq_true (by kernel_rfl)) (H182.at 2 rfl) (by kernel_rfl)) (res_tmp (v := (.bool true)) rfl) ?_
 have hjt : LH = namesN 3 ++ (P.take 3).map smallN := by
  rw [hLH]; congr 2
  rcases Nat.lt_or_ge j 3 with h | h
  ·rw [List.take_of_length_le (by omega), List.take_of_length_le (by omega)]
  rw [show j = 3 by omega]
 subst hi3
 subst hOP
 subst hjt
 clear hLH
 exact ⟨b23, m24, r25, ha, hc_, oa, oc, rfl, H182.fn [4, 5, 6, 9, 10], H182.upd 0 rfl [] (fun _ h => h.elim), H182.freshS 0 rfl (fun _ h => h) [4, 5, 6, 9, 10] rfl rfl⟩
end Go.Proofs.YtenihpghfdcpkaaGreat
