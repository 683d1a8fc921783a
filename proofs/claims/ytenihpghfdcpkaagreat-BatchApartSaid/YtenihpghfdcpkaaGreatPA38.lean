/- WHAT IS PROVED: contracts and plain laws of BatB. Conditions: stated with each. -/
import Derived.Test.YtenihpghfdcpkaaGreatPA05
import Derived.Test.YtenihpghfdcpkaaGreatPA20
set_option maxHeartbeats 4000000
set_option maxRecDepth 100000
namespace Go.Proofs.YtenihpghfdcpkaaGreat
open Go.RowKit
abbrev Z30 (p0 : Value) (p1 : Value) (p2 : Value) (p3 : Int) (p4 : Value) (p5 : Value) (p6 : Int) (p7 : Option Addr) (p8 : Nat) (p9 : Nat) (p10 : Int) : List Value := ([p0, p1, p2, (.int .u64 p3), p4, p5, (.int .i64 p6), (.slice p7 p8 p9), (.int .u64 p10)] : List Value)
abbrev Z2A : List Value := ([(.int .i64 (0)), (.int .i64 (0)), (.pointer none), (.pointer none), (.int .i64 (0)), (.int .i64 (0)), (.int .i64 (0)), (.int .u64 (0)), (.slice none 0 0), (.slice none 0 0)] : List Value)
abbrev Z2d (p0 : Int) : List Value := ([(.int .i64 p0), (.int .i64 (3))] : List Value)
abbrev Z7X : List Value := ([(.int .i64 (0)), (.int .i64 (0))] : List Value)
abbrev Z3d (p0 : Nat) (p1 : List Signed) : Ck := Z0B p0 ZZ (Value.int .i64) (Z0a p1)
abbrev Z3j (p0 : Nat) : List Value := ([(.map (some p0))] : List Value)
abbrev Z3h : List Value := ([(.slice none 0 0)] : List Value)
abbrev Z2c (p0 : Nat) (p1 : Nat) : List Value := ([(pt p0 0), (pt p1 0)] : List Value)
abbrev Zdx (p0 : Int) (p1 : Nat) (p2 : Nat) (p3 : Int) : List Value := ([(.int .i64 p0), (.int .i64 (3)), (pt p1 0), (pt p2 0), (.int .i64 p0), (.int .i64 (3)), (.int .i64 (4)), (.int .u64 p3), (.slice none 0 0), (.slice none 0 0)] : List Value)
abbrev Z1R (p0 : Int) (p1 : Nat) (p2 : Nat) (p3 : Int) (p4 : Option Addr) (p5 : Nat) (p6 : Nat) (p7 : Option Addr) (p8 : Nat) (p9 : Nat) : List Value := ([(.int .i64 p0), (.int .i64 (3)), (pt p1 0), (pt p2 0), (.int .i64 p0), (.int .i64 (3)), (.int .i64 (4)), (.int .u64 p3), (.slice p4 p5 p6), (.slice p7 p8 p9)] : List Value)
abbrev Z4Q (p0 : Option Addr) (p1 : List NmD) (p2 : Nat) : Ck := Zc 59 2 (.slice p0 p1.length p2) p1.length (p1.flatMap Z2b)
abbrev Z46 (p0 : Option Addr) (p1 : List Z2l) (p2 : Nat) : Ck := Zc 102 36 (.slice p0 p1.length p2) p1.length (p1.flatMap Z3Z)
abbrev Z1p (p0 : Int) : List Value := ([(.int .i64 p0), (.int .i64 (50))] : List Value)
abbrev Z6k (p0 : Int) (p1 : Int) (p2 : Hash) : List Value := ([(.int .i64 p0), (.int .i64 p1), (.int .i64 (50))] : List Value) ++ hc p2 ++ ([(.int .u64 (1))] : List Value)
theorem Zcs (w : World) (pn pt ph po pb : Value) (ptm psk pl : Int) (hpl : 0 ≤ pl ∧ pl < 18446744073709551616) (pa : Option Addr) (pc : Nat) (P : List NmD) (hP : ListAt Z2b 2 w (.slice pa P.length pc) P) (f : Int) :
  Calls Tryz.prog 10 #[(.agg ⟨([(pn), (pt), (ph), (.int .u64 (ptm)), (po), (pb), (.int .i64 (psk)), (.slice pa P.length pc), (.int .u64 (pl))] : List Value)⟩), (.int .i64 (f))] w fun e w' => ∃ (b bm r : Nat) (la : Option Addr) (lc : Nat) (oa : Option Addr) (oc : Nat), e = .returned (.tuple #[(.agg ⟨([(.int .i64 (1 + Z1 f 2)), (.int .i64 (3)), (.pointer (some ⟨b, 0, none⟩)), (.pointer (some ⟨r, 0, none⟩)), (.int .i64 (1 + Z1 f 2)), (.int .i64 (3)), (.int .i64 (4)), (.int .u64 (pl % 20)), (.slice la (Z1G 3 ++ (P.take 3).map Z22).length lc), (.slice oa (Z03 3).length oc)] : List Value)⟩), .bool true]) ∧ (ZR [Z0 b 179 [.map (some bm)], Z0B bm ZZ (Value.int .i64) (Z0a []), Z0 r 165 [.slice none 0 0], Zc 59 2 (.slice la (Z1G 3 ++ (P.take 3).map Z22).length lc) (Z1G 3 ++ (P.take 3).map Z22).length ((Z1G 3 ++ (P.take 3).map Z22).flatMap Z2b), Zc 102 36 (.slice oa (Z03 3).length oc) (Z03 3).length ((Z03 3).flatMap Z3Z)]).ok w' ∧ Upd [] w w' ∧ ∀ q_, (ZR [Z0 b 179 [.map (some bm)], Z0B bm ZZ (Value.int .i64) (Z0a []), Z0 r 165 [.slice none 0 0], Zc 59 2 (.slice la (Z1G 3 ++ (P.take 3).map Z22).length lc) (Z1G 3 ++ (P.take 3).map Z22).length ((Z1G 3 ++ (P.take 3).map Z22).flatMap Z2b), Zc 102 36 (.slice oa (Z03 3).length oc) (Z03 3).length ((Z03 3).flatMap Z3Z)]).fp q_ → w.heap.size ≤ q_ := by
 have hwf := Z1V f 2 om
 have H := Sat.start0 w
 refine Z8 Tryz.func10 rfl 90 rfl kn ?_
 refine zsl <| zy <| zdb (Z30 pn pt ph ptm po pb psk pa P.length pc pl) H fun b2 w3 H4 => ?_
 refine kk <| zy <| zda (Z2A) H4 fun b6 w7 H8 => ?_
 refine kk <| wv 5 (.bool false) <| Z0y <| wv 13 (vi f) <| zy <| zdq 14 (Z3b w7 f 2 om) H8 fun w10 H11 => ?_
 refine kk <| zwi 15 (1 + (Z1 f 2)) <| wv 16 (.agg ⟨(Z2d (1 + (Z1 f 2)))⟩) <| zy <| zda (Z7X) H11 fun b14 w15 H16 => ?_
 refine kk <| zy <| Z1z (Z2d (1 + (Z1 f 2))) H16 3 fun w18 H19 => ?_
 refine kk <| Z0y <| zy <| zdc 18 (Z8W w18) ?_
 rintro _ w22 ⟨b23, m24, r25, rfl, k26, p27, q28⟩
 have H29 := H19.addU p27 k26 q28
 have H30 := H29.open 4 rfl
 refine ⟨_, rfl, ?_⟩
 refine kk <| wv 17 (.tuple #[(.agg ⟨(Z2c b23 r25)⟩), (.bool true)]) <| wv 19 (.agg ⟨(Z2c b23 r25)⟩) <| wv 20 (.bool true) <| zy <| zda ([(.pointer none), (.pointer none)] : List Value) H30 fun b32 w33 H34 => ?_
 refine kk <| zy <| Z1z (Z2c b23 r25) H34 7 ?_
 intro w36 (H37 : Sat w [Z3 w (fun _ => False), Z0 b2 27 (Z30 pn pt ph ptm po pb psk pa P.length pc pl), Z0 b6 38 (Z2A), Z0 b14 29 (Z2d (1 + (Z1 f 2))), Z0 b23 179 (Z3j m24), (Z3d m24 (([] : List Signed))), Z0 r25 165 (Z3h), Z0 b32 33 (Z2c b23 r25)] w36)
 refine kk <| wv 8 (.bool true) <| Z0y <| zwN 21 (Z2d (1 + (Z1 f 2))) (H37.at 3 rfl) <| zwN 22 (Z2c b23 r25) (H37.at 7 rfl) <| zwN 23 (Z2d (1 + (Z1 f 2))) (H37.at 3 rfl) <| Z0c (Zb rfl) (d := 24) (v := (.pointer (some ⟨b2, 8, none⟩))) rfl kr ?_
 refine Z0c (Zb rfl) (d := 25) (v := (vu pl)) rfl (zl1 (H37.cell 1 rfl rfl)) ?_
 refine wv 26 (vu (pl % 20)) ?_ (hr := Z8s kr om om)
 refine wv 27 (.agg ⟨([(vi (1 + (Z1 f 2))), (vi 3), (vi 4), (vu (pl % 20)), (.slice none 0 0), (.slice none 0 0)] : List Value)⟩) <| wv 28 (.agg ⟨(Zdx (1 + (Z1 f 2)) b23 r25 (pl % 20))⟩) <| zy <| zda (Z2A) H37 fun b40 w41 H42 => ?_
 refine kk <| zy <| Z1z (Zdx (1 + (Z1 f 2)) b23 r25 (pl % 20)) H42 8 fun w44 H45 => ?_
 refine kk <| znt <| Z5 <| zsl <| wv 10 (vi 0) <| znt <| Za ?_
 have H47 := H45.addNil 59 2
 have H48 := H47.addNil 102 36
 refine Zw ([10, 11] ++ List.range' 29 35) (fun F_ W_ m_ => ∃ (i : Nat) (la : Option Addr) (lc : Nat) (LG : List NmD) (oa : Option Addr) (oc : Nat) (OP : List Z2l), F_ 10 = (vi i) ∧ (i ≤ 3) ∧ (LG = Z1G i) ∧ (OP = Z03 i) ∧ Sat w [Z3 w (fun _ => False), Z0 b2 27 (Z30 pn pt ph ptm po pb psk pa P.length pc pl), Z0 b6 38 (Z2A), Z0 b14 29 (Z2d (1 + (Z1 f 2))), Z0 b23 179 (Z3j m24), (Z3d m24 (([] : List Signed))), Z0 r25 165 (Z3h), Z0 b32 33 (Z2c b23 r25), Z0 b40 38 (Z1R (1 + (Z1 f 2)) b23 r25 (pl % 20) la LG.length lc oa OP.length oc), (Z4Q la LG lc), (Z46 oa OP oc)] W_ ∧ m_ = 3 - i) _ ⟨0, none, 0, [], none, 0, [], (show ((vi 0) : Value) = _ by first | rfl | go_num), (Nat.zero_le _), rfl, rfl, H48, rfl⟩ ?_
 rintro g49 w50 _ ⟨i, la, lc, LG, oa, oc, OP, v52, hi, hLG, hOP, H51, rfl⟩
 refine Zd 10 _ v52 ?_
 have hll : LG.length = i := by rw [hLG, Z5R]
 have hol : OP.length = i := by rw [hOP, Zby]
 refine Z5 <| zsl <| wv 29 (vi i) <| wv 30 (.bool (decide ((i : Int) < 3))) <| wv 31 (.bool (decide ((i : Int) < 3))) ?_
 refine zil 31 (fun b54 g55 => ?_) fun b54 g115 => ?_
 ·refine wy 2 31 true 32 (.bool true) <| wv 33 (.bool true) <| znt <| Z1X rfl ?_
  refine Zt <| ztn <| Z5 <| Za <| zsl <| wv 36 (vi i) <| wv 37 (.agg ⟨(Z1p ((i : Int)))⟩) <| zy <| zda (Z7X) H51 fun b58 w59 H60 => ?_
  refine kk <| zy <| Z1z (Z1p ((i : Int))) H60 11 fun w62 H63 => ?_
  refine kk <| znt <| Z5 <| Z18 H63 [Z3 w (fun _ => False), Z0 b2 27 (Z30 pn pt ph ptm po pb psk pa P.length pc pl), Z0 b6 38 (Z2A), Z0 b14 29 (Z2d (1 + (Z1 f 2))), Z0 b23 179 (Z3j m24), (Z3d m24 (([] : List Signed))), Z0 r25 165 (Z3h), Z0 b32 33 (Z2c b23 r25), Z0 b40 38 (Z1R (1 + (Z1 f 2)) b23 r25 (pl % 20) la LG.length lc oa OP.length oc), (Z4Q la LG lc), Z0 b58 59 (Z1p ((i : Int)))] [18] 19 rfl kr (fun Hx => (Hx.pk [0, 1, 2, 3, 4, 5, 6, 7, 8, 9, 11])) fun w65 H66 S67 => ?_
  refine Z32 0 rfl kr kr kr (fun _ _ _ h => h) S67 (Zb rfl) rfl (d := 38) (v := (.pointer (some ⟨b40, 4, none⟩))) rfl (fun _ => kr) ?_
  refine Z32 1 rfl kr kr kr (fun _ _ _ h => h) S67 (Zb rfl) rfl (d := 39) (v := (.pointer (some ⟨b40, 9, none⟩))) rfl (fun _ => kr) ?_
  refine Zdl 2 rfl kr kr kr (fun _ _ _ h => h) S67 (Zb rfl) rfl kr (d := 40) (v := (.slice oa OP.length oc)) rfl (fun _ H' => (zl1 (H'.cell 8 rfl rfl))) ?_
  refine zkp 3 S67 41 (vi i) <| zkp 4 S67 42 (vi (2 * (i : Int))) ?_ (he := fun _ => (Z0g (z := 2 * (i : Int)) kr (IntWalk.i64_in _ om)))
  refine zkv 5 S67 43 (.agg ⟨(Z1p ((i : Int)))⟩) ?_ (he := fun _ H' => (zlN (vs := (Z1p ((i : Int)))) (H'.at 10 rfl)))
  refine zkv 6 S67 44 (.agg ⟨(Z1p ((i : Int)))⟩) ?_ (he := fun _ H' => (zlN (vs := (Z1p ((i : Int)))) (H'.at 10 rfl)))
  refine Z32 7 rfl kr kr kr (fun _ _ _ h => h) S67 (Zb rfl) rfl (d := 45) (v := (.agg ⟨(hc Zn)⟩)) rfl (fun _ => kr) ?_
  refine zkp 8 S67 46 (vi i) <| zkp 9 S67 47 (.int .u8 ((i : Int))) ?_ (he := fun _ => (Z0g (z := (i : Int)) kr (Z7Y om)))
  refine zky 10 ?_
  refine Z2w 5 1 1 (.int .u8 (0)) [(0, (.int .u8 ((i : Int))))] ([(.int .u8 ((i : Int)))] : List Value) H66 ?_
  intro b69 w70 H71
  have H72 := H71.ct 12 rfl (Zc 5 1 (.slice (some ⟨b69, 0, none⟩) 1 1) 1 ([UInt8.ofNat ((i : Int)).toNat].flatMap Zy)) (by rw [Z3H om])
  have S73 := H72.pk [0, 1, 2, 3, 4, 5, 6, 7, 8, 9, 11]
  refine ke S73 <| zky 11 ?_
  refine zdq 49 (Z9Z w70 (i : Int) (50 : Int) Zn (some ⟨b69, 0, none⟩) 1 ([UInt8.ofNat ((i : Int)).toNat]) (ListAt.row (enc := Zy) (sz := 1) Zk (by decide) (H72.at 12 rfl)) om om (by simp)) H72 ?_
  intro w75 H76
  have S78 := H76.pk [0, 1, 2, 3, 4, 5, 6, 7, 8, 9, 11]
  refine ke S78 <| Z32 12 rfl kr kr kr (fun _ _ _ h => h) S78 (Zb rfl) rfl (d := 50) (v := (.agg ⟨(([(vi i), (vi 50)] : List Value) ++ hc (Z0l (ofT (i : Int) (50 : Int) Zn ([UInt8.ofNat ((i : Int)).toNat]))) ++ ([(vu 1)] : List Value))⟩)) rfl (fun _ => kr) ?_
  refine Z32 13 rfl kr kr kr (fun _ _ _ h => h) S78 (Zb rfl) rfl (d := 51) (v := (.agg ⟨(Z6k (2 * (i : Int)) ((i : Int)) (Z0l (ofT (i : Int) (50 : Int) Zn ([UInt8.ofNat ((i : Int)).toNat]))))⟩)) rfl (fun _ => kr) ?_
  refine zky 14 ?_
  refine Z2w 102 36 64 (.agg ⟨(([(vi 0), (vi 0), (vi 0)] : List Value) ++ hc Zn ++ ([(vu 0)] : List Value))⟩) [(0, (.agg ⟨(Z6k (2 * (i : Int)) ((i : Int)) (Z0l (ofT (i : Int) (50 : Int) Zn ([UInt8.ofNat ((i : Int)).toNat]))))⟩))] (Z6k (2 * (i : Int)) ((i : Int)) (Z0l (ofT (i : Int) (50 : Int) Zn ([UInt8.ofNat ((i : Int)).toNat])))) H76 ?_
  intro b80 w81 H82
  have H83 := H82.ct 13 rfl (Zc 102 36 (.slice (some ⟨b80, 0, none⟩) 1 1) 1 ([(⟨2 * (i : Int), (i : Int), 50, (Z0l (ofT (i : Int) (50 : Int) Zn ([UInt8.ofNat ((i : Int)).toNat]))), 1⟩ : Z2l)].flatMap Z3Z)) (by rw [(show ((Z6k (2 * (i : Int)) ((i : Int)) (Z0l (ofT (i : Int) (50 : Int) Zn ([UInt8.ofNat ((i : Int)).toNat])))) : List Value) = [(⟨2 * (i : Int), (i : Int), 50, (Z0l (ofT (i : Int) (50 : Int) Zn ([UInt8.ofNat ((i : Int)).toNat]))), 1⟩ : Z2l)].flatMap Z3Z by kernel_rfl)])
  have S84 := H83.pk [0, 1, 2, 3, 4, 5, 6, 7, 8, 9, 11]
  refine ke S84 <| zky 15 ?_
  refine Z00 (T := 34) (e := 102) (size := 36) (bytes := 64) rfl H83 kr 10 13 rfl rfl rfl rfl (ZX Z3Z Zcy [(⟨2 * (i : Int), (i : Int), 50, (Z0l (ofT (i : Int) (50 : Int) Zn ([UInt8.ofNat ((i : Int)).toNat]))), 1⟩ : Z2l)]) om om ?_
  intro v86 w87 H88
  have H91 : Sat w [Z3 w (fun _ => False), Z0 b2 27 (Z30 pn pt ph ptm po pb psk pa P.length pc pl), Z0 b6 38 (Z2A), Z0 b14 29 (Z2d (1 + (Z1 f 2))), Z0 b23 179 (Z3j m24), (Z3d m24 (([] : List Signed))), Z0 r25 165 (Z3h), Z0 b32 33 (Z2c b23 r25), Z0 b40 38 (Z1R (1 + (Z1 f 2)) b23 r25 (pl % 20) la LG.length lc oa OP.length oc), (Z4Q la LG lc), Zc 102 36 v86 ((OP ++ [(⟨2 * (i : Int), (i : Int), 50, (Z0l (ofT (i : Int) (50 : Int) Zn ([UInt8.ofNat ((i : Int)).toNat]))), 1⟩ : Z2l)]).length) ((OP ++ [(⟨2 * (i : Int), (i : Int), 50, (Z0l (ofT (i : Int) (50 : Int) Zn ([UInt8.ofNat ((i : Int)).toNat]))), 1⟩ : Z2l)]).flatMap Z3Z), Z0 b58 59 (Z1p ((i : Int))), Zc 5 1 (.slice (some ⟨b69, 0, none⟩) 1 1) 1 ([UInt8.ofNat ((i : Int)).toNat].flatMap Zy), Zc 102 36 (.slice (some ⟨b80, 0, none⟩) 1 1) 1 ([(⟨2 * (i : Int), (i : Int), 50, (Z0l (ofT (i : Int) (50 : Int) Zn ([UInt8.ofNat ((i : Int)).toNat]))), 1⟩ : Z2l)].flatMap Z3Z)] w87 := H88.cast (by simp only [List.length_append, List.flatMap_append] <;> rfl)
  obtain ⟨a89, c90, rfl⟩ := Z2 (H91.at 10 rfl)
  have S92 := H91.pk [0, 1, 2, 3, 4, 5, 6, 7, 8, 9, 11]
  refine ke S92 <| Z32 16 rfl kr kr kr (fun _ _ _ h => h) S92 (Zb rfl) rfl (d := 54) (v := (.pointer (some ⟨b40, 4, none⟩))) rfl (fun _ => kr) ?_
  refine Z32 17 rfl kr kr kr (fun _ _ _ h => h) S92 (Zb rfl) rfl (d := 55) (v := (.pointer (some ⟨b40, 9, none⟩))) rfl (fun _ => kr) ?_
  refine Z3v 18 (Sat w [Z3 w (fun _ => False), Z0 b2 27 (Z30 pn pt ph ptm po pb psk pa P.length pc pl), Z0 b6 38 (Z2A), Z0 b14 29 (Z2d (1 + (Z1 f 2))), Z0 b23 179 (Z3j m24), (Z3d m24 (([] : List Signed))), Z0 r25 165 (Z3h), Z0 b32 33 (Z2c b23 r25), (Z4Q la LG lc), Z0 b58 59 (Z1p ((i : Int)))]) rfl kr (Zb rfl) rfl (fun Kq kq => ?_)
  refine Z5A (vs := ([(.slice a89 ((OP ++ [(⟨2 * (i : Int), (i : Int), 50, (Z0l (ofT (i : Int) (50 : Int) Zn ([UInt8.ofNat ((i : Int)).toNat]))), 1⟩ : Z2l)]).length) c90)] : List Value)) (cs' := (Z1R (1 + (Z1 f 2)) b23 r25 (pl % 20) la LG.length lc a89 ((OP ++ [(⟨2 * (i : Int), (i : Int), 50, (Z0l (ofT (i : Int) (50 : Int) Zn ([UInt8.ofNat ((i : Int)).toNat]))), 1⟩ : Z2l)]).length) c90)) rfl H91 8 rfl rfl rfl rfl kr kn kn kr kr ?_
  intro w94 (H95 : Sat w [Z3 w (fun _ => False), Z0 b2 27 (Z30 pn pt ph ptm po pb psk pa P.length pc pl), Z0 b6 38 (Z2A), Z0 b14 29 (Z2d (1 + (Z1 f 2))), Z0 b23 179 (Z3j m24), (Z3d m24 (([] : List Signed))), Z0 r25 165 (Z3h), Z0 b32 33 (Z2c b23 r25), Z0 b40 38 (Z1R (1 + (Z1 f 2)) b23 r25 (pl % 20) la LG.length lc a89 ((OP ++ [(⟨2 * (i : Int), (i : Int), 50, (Z0l (ofT (i : Int) (50 : Int) Zn ([UInt8.ofNat ((i : Int)).toNat]))), 1⟩ : Z2l)]).length) c90), (Z4Q la LG lc), (Z46 a89 (OP ++ [(⟨2 * (i : Int), (i : Int), 50, (Z0l (ofT (i : Int) (50 : Int) Zn ([UInt8.ofNat ((i : Int)).toNat]))), 1⟩ : Z2l)]) c90), Z0 b58 59 (Z1p ((i : Int))), Zc 5 1 (.slice (some ⟨b69, 0, none⟩) 1 1) 1 ([UInt8.ofNat ((i : Int)).toNat].flatMap Zy), Zc 102 36 (.slice (some ⟨b80, 0, none⟩) 1 1) 1 ([(⟨2 * (i : Int), (i : Int), 50, (Z0l (ofT (i : Int) (50 : Int) Zn ([UInt8.ofNat ((i : Int)).toNat]))), 1⟩ : Z2l)].flatMap Z3Z)] w94)
  have S97 := H95.pk [0, 1, 2, 3, 4, 5, 6, 7, 9, 11]
  refine kq _ _ S97 <| zhf <| ztn <| Zl <| Z0c (Zb rfl) (d := 56) (v := (.pointer (some ⟨b40, 4, none⟩))) rfl kr ?_
  refine Z0c (Zb rfl) (d := 57) (v := (.pointer (some ⟨b40, 8, none⟩))) rfl kr ?_
  refine Z0c (Zb rfl) (d := 58) (v := (.slice la LG.length lc)) rfl (zl1 (H95.cell 8 rfl rfl)) ?_
  refine zwN 59 (Z1p ((i : Int))) (H95.at 11 rfl) <| zy <| Z2w 59 2 16 (.agg ⟨(Z7X)⟩) [(0, (.agg ⟨(Z1p ((i : Int)))⟩))] (Z1p ((i : Int))) H95 fun b99 w100 H101 => ?_
  have H102 := H101.ct 14 rfl (Zc 59 2 (.slice (some ⟨b99, 0, none⟩) 1 1) 1 ([(⟨(i : Int), 50⟩ : NmD)].flatMap Z2b)) (by rw [(show ((Z1p ((i : Int))) : List Value) = [(⟨(i : Int), 50⟩ : NmD)].flatMap Z2b by kernel_rfl)])
  refine kk <| zy <| Z00 (T := 22) (e := 59) (size := 2) (bytes := 16) rfl H102 kr 9 14 rfl rfl rfl rfl (ZX Z2b Z98 [(⟨(i : Int), 50⟩ : NmD)]) om om fun v104 w105 H106 => ?_
  have H109 : Sat w [Z3 w (fun _ => False), Z0 b2 27 (Z30 pn pt ph ptm po pb psk pa P.length pc pl), Z0 b6 38 (Z2A), Z0 b14 29 (Z2d (1 + (Z1 f 2))), Z0 b23 179 (Z3j m24), (Z3d m24 (([] : List Signed))), Z0 r25 165 (Z3h), Z0 b32 33 (Z2c b23 r25), Z0 b40 38 (Z1R (1 + (Z1 f 2)) b23 r25 (pl % 20) la LG.length lc a89 ((OP ++ [(⟨2 * (i : Int), (i : Int), 50, (Z0l (ofT (i : Int) (50 : Int) Zn ([UInt8.ofNat ((i : Int)).toNat]))), 1⟩ : Z2l)]).length) c90), Zc 59 2 v104 ((LG ++ [(⟨(i : Int), 50⟩ : NmD)]).length) ((LG ++ [(⟨(i : Int), 50⟩ : NmD)]).flatMap Z2b), (Z46 a89 (OP ++ [(⟨2 * (i : Int), (i : Int), 50, (Z0l (ofT (i : Int) (50 : Int) Zn ([UInt8.ofNat ((i : Int)).toNat]))), 1⟩ : Z2l)]) c90), Z0 b58 59 (Z1p ((i : Int))), Zc 5 1 (.slice (some ⟨b69, 0, none⟩) 1 1) 1 ([UInt8.ofNat ((i : Int)).toNat].flatMap Zy), Zc 102 36 (.slice (some ⟨b80, 0, none⟩) 1 1) 1 ([(⟨2 * (i : Int), (i : Int), 50, (Z0l (ofT (i : Int) (50 : Int) Zn ([UInt8.ofNat ((i : Int)).toNat]))), 1⟩ : Z2l)].flatMap Z3Z), Zc 59 2 (.slice (some ⟨b99, 0, none⟩) 1 1) 1 ([(⟨(i : Int), 50⟩ : NmD)].flatMap Z2b)] w105 := H106.cast (by simp only [List.length_append, List.flatMap_append] <;> rfl)
  obtain ⟨a107, c108, rfl⟩ := Z2 (H109.at 9 rfl)
  refine kk <| Z0c (Zb rfl) (d := 62) (v := (.pointer (some ⟨b40, 4, none⟩))) rfl kr ?_
  refine Z0c (Zb rfl) (d := 63) (v := (.pointer (some ⟨b40, 8, none⟩))) rfl kr ?_
  refine zy <| Z5A (vs := ([(.slice a107 ((LG ++ [(⟨(i : Int), 50⟩ : NmD)]).length) c108)] : List Value)) (cs' := (Z1R (1 + (Z1 f 2)) b23 r25 (pl % 20) a107 ((LG ++ [(⟨(i : Int), 50⟩ : NmD)]).length) c108 a89 ((OP ++ [(⟨2 * (i : Int), (i : Int), 50, (Z0l (ofT (i : Int) (50 : Int) Zn ([UInt8.ofNat ((i : Int)).toNat]))), 1⟩ : Z2l)]).length) c90)) rfl H109 8 rfl rfl rfl rfl kr kn kn kr kr fun w111 H112 => ?_
  refine kk <| Zu <| Z7 <| ztn <| Zl <| wv 34 (vi i) <| zwi 35 ((i : Int) + 1) <| wv 10 (vi ((i : Int) + 1)) <| Zu ?_
  have H114 := H112.pk [0, 1, 2, 3, 4, 5, 6, 7, 8, 9, 10]
  refine Z6 ?_ _ ⟨(i + 1), a107, c108, (LG ++ [(⟨(i : Int), 50⟩ : NmD)]), a89, c90, (OP ++ [(⟨2 * (i : Int), (i : Int), 50, (Z0l (ofT (i : Int) (50 : Int) Zn ([UInt8.ofNat ((i : Int)).toNat]))), 1⟩ : Z2l)]), rfl, om, (by rw [hLG, Z9y]), (by rw [hOP, Z9F]; rfl), H114, rfl⟩ om
  exact zs
 refine wn 2 31 true ?_
 refine wv 33 (.bool false) <| znt <| Z2O rfl ?_
 refine zxb <| ztn <| Z5 <| Z5 ?_
 have hi3 : i = 3 := by omega
 refine Zl <| wv 12 (vi 0) <| znt <| Za <| Zw ([12] ++ List.range' 64 24) (fun F_ W_ m_ => ∃ (j : Nat) (ha : Option Addr) (hc_ : Nat) (LH : List NmD), F_ 12 = (vi j) ∧ (j ≤ 3) ∧ (j ≤ P.length) ∧ (LH = Z1G 3 ++ (P.take j).map Z22) ∧ Sat w [Z3 w (fun _ => False), Z0 b2 27 (Z30 pn pt ph ptm po pb psk pa P.length pc pl), Z0 b6 38 (Z2A), Z0 b14 29 (Z2d (1 + (Z1 f 2))), Z0 b23 179 (Z3j m24), (Z3d m24 (([] : List Signed))), Z0 r25 165 (Z3h), Z0 b32 33 (Z2c b23 r25), Z0 b40 38 (Z1R (1 + (Z1 f 2)) b23 r25 (pl % 20) ha LH.length hc_ oa OP.length oc), (Z4Q ha LH hc_), (Z46 oa OP oc)] W_ ∧ m_ = 3 - j) _ ⟨0, la, lc, LG, (show ((vi 0) : Value) = _ by first | rfl | go_num), (Nat.zero_le _), (Nat.zero_le _), (by rw [hLG, hi3]; simp), H51, rfl⟩ ?_
 rintro g117 w118 _ ⟨j, ha, hc_, LH, v120, hj, hj2, hLH, H119, rfl⟩
 refine Zd 12 _ v120 ?_
 have hhl : LH.length = 3 + j := by rw [hLH, List.length_append, Z5R, List.length_map, List.length_take]; omega
 refine Z5 <| zsl <| wv 64 (vi j) <| Z0c (Zb rfl) (d := 65) (v := (.pointer (some ⟨b2, 7, none⟩))) rfl kr ?_
 refine Z0c (Zb rfl) (d := 66) (v := (.slice pa P.length pc)) rfl (zl1 (H119.cell 1 rfl rfl)) ?_
 refine wv 67 (vi P.length) <| wv 68 (.bool (decide ((j : Int) < P.length))) <| wv 69 (.bool (decide ((j : Int) < P.length))) ?_
 refine zil 69 (fun b122 g123 => ?_) fun b122 g178 => ?_
 ·refine wy 5 69 true 70 (vi j) <| wy 5 69 true 71 (.bool (decide ((j : Int) < 3))) <| wv 72 (.bool (decide ((j : Int) < 3))) <| znt ?_
  refine zid (fun b125 g126 => ?_) fun b125 g171 => ?_
  ·refine Zt <| ztn <| Z5 <| Za ?_
   obtain ⟨g128, o129, c130, e131, R132⟩ := SliceOf.atD hP nm0 (show j < P.length by omega)
   obtain ⟨g133, o134, c135, e136, R137⟩ := SliceOf.atD hP nm0 (show j < P.length by omega)
   refine Z18 H119 [Z3 w (fun _ => False), Z0 b2 27 (Z30 pn pt ph ptm po pb psk pa P.length pc pl), Z0 b6 38 (Z2A), Z0 b14 29 (Z2d (1 + (Z1 f 2))), Z0 b23 179 (Z3j m24), (Z3d m24 (([] : List Signed))), Z0 r25 165 (Z3h), Z0 b32 33 (Z2c b23 r25), Z0 b40 38 (Z1R (1 + (Z1 f 2)) b23 r25 (pl % 20) ha LH.length hc_ oa OP.length oc), (Z46 oa OP oc)] [13] 14 rfl kr (fun Hx => (Hx.pk [0, 1, 2, 3, 4, 5, 6, 7, 8, 10])) ?_
   intro w138 H139 S140
   refine Z32 0 rfl kr kr kr (fun _ _ _ h => h) S140 (Zb rfl) rfl (d := 75) (v := (.pointer (some ⟨b40, 4, none⟩))) rfl (fun _ => kr) ?_
   refine Z32 1 rfl kr kr kr (fun _ _ _ h => h) S140 (Zb rfl) rfl (d := 76) (v := (.pointer (some ⟨b40, 8, none⟩))) rfl (fun _ => kr) ?_
   refine Zdl 2 rfl kr kr kr (fun _ _ _ h => h) S140 (Zb rfl) rfl kr (d := 77) (v := (.slice ha LH.length hc_)) rfl (fun _ H' => (zl1 (H'.cell 8 rfl rfl))) ?_
   refine Z32 3 rfl kr kr kr (fun _ _ _ h => h) S140 (Zb rfl) rfl (d := 78) (v := (.pointer (some ⟨b2, 7, none⟩))) rfl (fun _ => kr) ?_
   refine Zdl 4 rfl kr kr kr (fun _ _ _ h => h) S140 (Zb rfl) rfl kr (d := 79) (v := (.slice pa P.length pc)) rfl (fun _ H' => (zl1 (H'.cell 1 rfl rfl))) ?_
   refine zkp 5 S140 80 (vi j) ?_
   obtain ⟨g141, o142, c143, e144, R145⟩ := SliceOf.atD hP nm0 (show j < P.length by omega)
   refine Z32 6 rfl kr kr kr (fun _ _ _ h => h) S140 (Zb rfl) rfl (d := 81) (v := (.pointer (some ⟨g141, o142 + ((j : Int)).toNat * 2, none⟩))) rfl (fun _ => (Zh (E := 59) kr kr kn rfl e144 rfl om om)) ?_
   refine zkv 7 S140 82 (.agg ⟨([(vi ((P.getD j nm0).cl)), (vi ((P.getD j nm0).sq))] : List Value)⟩) ?_ (he := fun _ H' => (Z05 (vs := ([(vi ((P.getD j nm0).cl)), (vi ((P.getD j nm0).sq))] : List Value)) rfl kr kr kn (H'.runR 0 rfl (Z0W R145 0 kr (show o142 + ((j : Int)).toNat * 2 = o142 + j * 2 + 0 by omega)) (fun h => h))))
   refine zky 8 ?_
   refine zdq 83 (Z6U w138 ((P.getD j nm0).cl) ((P.getD j nm0).sq)) H139 ?_
   intro w147 H148
   have S150 := H148.pk [0, 1, 2, 3, 4, 5, 6, 7, 8, 10]
   refine ke S150 <| zky 9 ?_
   refine Z2w 59 2 16 (.agg ⟨(Z7X)⟩) [(0, (.agg ⟨([(vi (Z1 ((P.getD j nm0).cl) 3)), (vi (1 + Z1 ((P.getD j nm0).sq) 4))] : List Value)⟩))] ([(vi (Z1 ((P.getD j nm0).cl) 3)), (vi (1 + Z1 ((P.getD j nm0).sq) 4))] : List Value) H148 ?_
   intro b152 w153 H154
   have H155 := H154.ct 11 rfl (Zc 59 2 (.slice (some ⟨b152, 0, none⟩) 1 1) 1 ([(⟨Z1 ((P.getD j nm0).cl) 3, 1 + Z1 ((P.getD j nm0).sq) 4⟩ : NmD)].flatMap Z2b)) (by rw [(show (([(vi (Z1 ((P.getD j nm0).cl) 3)), (vi (1 + Z1 ((P.getD j nm0).sq) 4))] : List Value) : List Value) = [(⟨Z1 ((P.getD j nm0).cl) 3, 1 + Z1 ((P.getD j nm0).sq) 4⟩ : NmD)].flatMap Z2b by kernel_rfl)])
   have S156 := H155.pk [0, 1, 2, 3, 4, 5, 6, 7, 8, 10]
   refine ke S156 <| zky 10 ?_
   refine Z00 (T := 22) (e := 59) (size := 2) (bytes := 16) rfl H155 kr 9 11 rfl rfl rfl rfl (ZX Z2b Z98 [(⟨Z1 ((P.getD j nm0).cl) 3, 1 + Z1 ((P.getD j nm0).sq) 4⟩ : NmD)]) om om ?_
   intro v158 w159 H160
   have H163 : Sat w [Z3 w (fun _ => False), Z0 b2 27 (Z30 pn pt ph ptm po pb psk pa P.length pc pl), Z0 b6 38 (Z2A), Z0 b14 29 (Z2d (1 + (Z1 f 2))), Z0 b23 179 (Z3j m24), (Z3d m24 (([] : List Signed))), Z0 r25 165 (Z3h), Z0 b32 33 (Z2c b23 r25), Z0 b40 38 (Z1R (1 + (Z1 f 2)) b23 r25 (pl % 20) ha LH.length hc_ oa OP.length oc), Zc 59 2 v158 ((LH ++ [(⟨Z1 ((P.getD j nm0).cl) 3, 1 + Z1 ((P.getD j nm0).sq) 4⟩ : NmD)]).length) ((LH ++ [(⟨Z1 ((P.getD j nm0).cl) 3, 1 + Z1 ((P.getD j nm0).sq) 4⟩ : NmD)]).flatMap Z2b), (Z46 oa OP oc), Zc 59 2 (.slice (some ⟨b152, 0, none⟩) 1 1) 1 ([(⟨Z1 ((P.getD j nm0).cl) 3, 1 + Z1 ((P.getD j nm0).sq) 4⟩ : NmD)].flatMap Z2b)] w159 := H160.cast (by simp only [List.length_append, List.flatMap_append] <;> rfl)
   obtain ⟨a161, c162, rfl⟩ := Z2 (H163.at 9 rfl)
   have S164 := H163.pk [0, 1, 2, 3, 4, 5, 6, 7, 8, 10]
   refine ke S164 <| Z32 11 rfl kr kr kr (fun _ _ _ h => h) S164 (Zb rfl) rfl (d := 86) (v := (.pointer (some ⟨b40, 4, none⟩))) rfl (fun _ => kr) ?_
   refine Z32 12 rfl kr kr kr (fun _ _ _ h => h) S164 (Zb rfl) rfl (d := 87) (v := (.pointer (some ⟨b40, 8, none⟩))) rfl (fun _ => kr) ?_
   refine Z3v 13 (Sat w [Z3 w (fun _ => False), Z0 b2 27 (Z30 pn pt ph ptm po pb psk pa P.length pc pl), Z0 b6 38 (Z2A), Z0 b14 29 (Z2d (1 + (Z1 f 2))), Z0 b23 179 (Z3j m24), (Z3d m24 (([] : List Signed))), Z0 r25 165 (Z3h), Z0 b32 33 (Z2c b23 r25), (Z46 oa OP oc)]) rfl kr (Zb rfl) rfl (fun Kq kq => ?_)
   refine Z5A (vs := ([(.slice a161 ((LH ++ [(⟨Z1 ((P.getD j nm0).cl) 3, 1 + Z1 ((P.getD j nm0).sq) 4⟩ : NmD)]).length) c162)] : List Value)) (cs' := (Z1R (1 + (Z1 f 2)) b23 r25 (pl % 20) a161 ((LH ++ [(⟨Z1 ((P.getD j nm0).cl) 3, 1 + Z1 ((P.getD j nm0).sq) 4⟩ : NmD)]).length) c162 oa OP.length oc)) rfl H163 8 rfl rfl rfl rfl kr kn kn kr kr ?_
   intro w166 H167
   have S169 := H167.pk [0, 1, 2, 3, 4, 5, 6, 7, 10]
   refine kq _ _ S169 <| zhf <| Z7 <| ztn <| Zl <| wv 73 (vi j) <| zwi 74 ((j : Int) + 1) <| wv 12 (vi ((j : Int) + 1)) <| Zu ?_
   have H170 := H167.pk [0, 1, 2, 3, 4, 5, 6, 7, 8, 9, 10]
   refine Z6 ?_ _ ⟨(j + 1), a161, c162, (LH ++ [(⟨Z1 ((P.getD j nm0).cl) 3, 1 + Z1 ((P.getD j nm0).sq) 4⟩ : NmD)]), rfl, om, om, (by rw [hLH, Z9U P om, List.append_assoc]; rfl), H170, rfl⟩ om
   exact zs
  refine zxb <| ztn <| zsl <| zwN 88 (Z1R (1 + (Z1 f 2)) b23 r25 (pl % 20) ha LH.length hc_ oa OP.length oc) (H119.at 8 rfl) <| wv 89 (.bool true) <| zy <| Z1z (Z1R (1 + (Z1 f 2)) b23 r25 (pl % 20) ha LH.length hc_ oa OP.length oc) H119 2 fun w174 H175 => ?_
  refine kk <| wv 5 (.bool true) <| znt <| Zq <| Z9t rfl (ZL (vs := (Z1R (1 + (Z1 f 2)) b23 r25 (pl % 20) ha LH.length hc_ oa OP.length oc)) rfl kr kr kn (H175.at 2 rfl) kr) (Z10 (v := (.bool true)) rfl) ?_
  have hjt : LH = Z1G 3 ++ (P.take 3).map Z22 := by
   rw [hLH]; congr 2
   rcases Nat.lt_or_ge j 3 with h | h
   ·rw [List.take_of_length_le om, List.take_of_length_le om]
   rw [show j = 3 by omega]
  subst hi3
  subst hOP
  subst hjt
  clear hLH
  exact ⟨b23, m24, r25, ha, hc_, oa, oc, rfl, H175.fn [4, 5, 6, 9, 10], H175.upd 0 rfl [] ne, H175.freshS 0 rfl (fun _ h => h) [4, 5, 6, 9, 10] rfl rfl⟩
 iterate 2 refine wn 5 69 true ?_
 refine wv 72 (.bool false) <| znt <| Z2O rfl ?_
 refine zxb <| ztn <| zsl <| zwN 88 (Z1R (1 + (Z1 f 2)) b23 r25 (pl % 20) ha LH.length hc_ oa OP.length oc) (H119.at 8 rfl) <| wv 89 (.bool true) <| zy <| Z1z (Z1R (1 + (Z1 f 2)) b23 r25 (pl % 20) ha LH.length hc_ oa OP.length oc) H119 2 fun w181 H182 => ?_
 refine kk <| wv 5 (.bool true) <| znt <| Zq <| Z9t rfl (ZL (vs := (Z1R (1 + (Z1 f 2)) b23 r25 (pl % 20) ha LH.length hc_ oa OP.length oc)) rfl kr kr kn (H182.at 2 rfl) kr) (Z10 (v := (.bool true)) rfl) ?_
 have hjt : LH = Z1G 3 ++ (P.take 3).map Z22 := by
  rw [hLH]; congr 2
  rcases Nat.lt_or_ge j 3 with h | h
  ·rw [List.take_of_length_le om, List.take_of_length_le om]
  rw [show j = 3 by omega]
 subst hi3
 subst hOP
 subst hjt
 clear hLH
 exact ⟨b23, m24, r25, ha, hc_, oa, oc, rfl, H182.fn [4, 5, 6, 9, 10], H182.upd 0 rfl [] ne, H182.freshS 0 rfl (fun _ h => h) [4, 5, 6, 9, 10] rfl rfl⟩
end Go.Proofs.YtenihpghfdcpkaaGreat
