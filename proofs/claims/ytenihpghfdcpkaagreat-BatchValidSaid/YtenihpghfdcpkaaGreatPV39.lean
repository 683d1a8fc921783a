/- WHAT IS PROVED: contracts and plain laws of BatB. Conditions: stated with each. -/
import Derived.Test.YtenihpghfdcpkaaGreatPV02
import Derived.Test.YtenihpghfdcpkaaGreatPV05
import Derived.Test.YtenihpghfdcpkaaGreatPV14
set_option maxHeartbeats 4000000
set_option maxRecDepth 100000
namespace Go.Proofs.YtenihpghfdcpkaaGreat
open Go.RowKit
abbrev ZeG (p0 : Value) (p1 : Value) (p2 : Value) (p3 : Int) (p4 : Value) (p5 : Value) (p6 : Int) (p7 : Option Addr) (p8 : Nat) (p9 : Nat) (p10 : Int) : List Value := ([p0, p1, p2, u6 p3, p4, p5, i6 p6, (.slice p7 p8 p9), u6 p10] : LV)
abbrev Z9B : List Value := ([i6 0, i6 0, (.pointer none), (.pointer none), i6 0, i6 0, i6 0, u6 0, (.slice none 0 0), (.slice none 0 0)] : LV)
abbrev ZeB (p0 : Int) : List Value := ([i6 p0, i6 3] : LV)
abbrev Z7S : List Value := ([i6 0, i6 0] : LV)
abbrev Z3i (p0 : Nat) (p1 : List Signed) : Ck := Z2S p0 Z0c (Value.int .i64) (Z0o p1)
abbrev ZeM (p0 : Nat) : List Value := ([(.map (some p0))] : LV)
abbrev ZeY : List Value := ([(.slice none 0 0)] : LV)
abbrev Zev (p0 : Nat) (p1 : Nat) : List Value := ([(pt p0 0), (pt p1 0)] : LV)
abbrev ZeE (p0 : Int) (p1 : Nat) (p2 : Nat) (p3 : Int) : List Value := ([i6 p0, i6 3, (pt p1 0), (pt p2 0), i6 p0, i6 3, i6 4, u6 p3, (.slice none 0 0), (.slice none 0 0)] : LV)
abbrev Z3O (p0 : Int) (p1 : Nat) (p2 : Nat) (p3 : Int) (p4 : Option Addr) (p5 : Nat) (p6 : Nat) (p7 : Option Addr) (p8 : Nat) (p9 : Nat) : List Value := ([i6 p0, i6 3, (pt p1 0), (pt p2 0), i6 p0, i6 3, i6 4, u6 p3, (.slice p4 p5 p6), (.slice p7 p8 p9)] : LV)
abbrev Z7H (p0 : Option Addr) (p1 : List NmD) (p2 : Nat) : Ck := Zo 59 2 (.slice p0 p1.length p2) p1.length (p1.flatMap Z2n)
abbrev Z64 (p0 : Option Addr) (p1 : List Z1g) (p2 : Nat) : Ck := Zo 102 36 (.slice p0 p1.length p2) p1.length (p1.flatMap Z39)
abbrev Zdi (p0 : Int) : List Value := ([i6 p0, i6 50] : LV)
abbrev Z67 (p0 : Int) (p1 : Int) (p2 : Hash) : List Value := ([i6 p0, i6 p1, i6 50] : LV) ++ hc p2 ++ ([u6 1] : LV)
theorem ZbP (w : World) (pn pt ph po pb : Value) (ptm psk pl : Int) (hpl : 0 ≤ pl ∧ pl < 18446744073709551616) (pa : Option Addr) (pc : Nat) (P : List NmD) (hP : ListAt Z2n 2 w (.slice pa P.length pc) P) (f : Int) :
  Calls Tryz.prog 10 #[(.agg ⟨([(pn), (pt), (ph), u6 ptm, (po), (pb), i6 psk, (.slice pa P.length pc), u6 pl] : LV)⟩), i6 f] w fun e w' => ∃ (b bm r : Nat) (la : Option Addr) (lc : Nat) (oa : Option Addr) (oc : Nat), e = .returned (.tuple #[(.agg ⟨([(i6 (1 + Z1 f 2)), i6 3, zp b, zp r, (i6 (1 + Z1 f 2)), i6 3, i6 4, (u6 (pl % 20)), (.slice la (Z1C 3 ++ (P.take 3).map Z21).length lc), (.slice oa (Zq 3).length oc)] : LV)⟩), .bool true]) ∧ (Z0h [Z0 b 179 [.map (some bm)], Z2S bm Z0c (Value.int .i64) (Z0o []), Z0 r 165 [.slice none 0 0], Zo 59 2 (.slice la (Z1C 3 ++ (P.take 3).map Z21).length lc) (Z1C 3 ++ (P.take 3).map Z21).length ((Z1C 3 ++ (P.take 3).map Z21).flatMap Z2n), Zo 102 36 (.slice oa (Zq 3).length oc) (Zq 3).length ((Zq 3).flatMap Z39)]).ok w' ∧ Upd [] w w' ∧ ∀ q_, (Z0h [Z0 b 179 [.map (some bm)], Z2S bm Z0c (Value.int .i64) (Z0o []), Z0 r 165 [.slice none 0 0], Zo 59 2 (.slice la (Z1C 3 ++ (P.take 3).map Z21).length lc) (Z1C 3 ++ (P.take 3).map Z21).length ((Z1C 3 ++ (P.take 3).map Z21).flatMap Z2n), Zo 102 36 (.slice oa (Zq 3).length oc) (Zq 3).length ((Zq 3).flatMap Z39)]).fp q_ → w.heap.size ≤ q_ := by
 have hwf := Z1k f 2 om
 have H := Sat.start0 w
 refine Zg Tryz.func10 rfl 90 rfl kn ?_
 let An := ZeG pn pt ph ptm po pb psk pa P.length pc pl
 refine zsl <| zy <| zdb An H fun b2 w3 H4 => ?_
 refine kk <| zy <| zda (Z9B) H4 fun b6 w7 H8 => ?_
 refine kk <| wv 5 (.bool false) <| Z1a <| wv 13 (vi f) <| zy <| zdq 14 (Z1N w7 f 2 om) H8 fun w10 H11 => ?_
 let Ac := ZeB (1 + (Z1 f 2))
 refine kk <| zwi 15 (1 + (Z1 f 2)) <| wv 16 (.agg ⟨Ac⟩) <| zy <| zda (Z7S) H11 fun b14 w15 H16 => ?_
 refine kk <| zy <| Z1S Ac H16 3 fun w18 H19 => ?_
 refine kk <| Z1a <| zy <| zdc 18 (Z8Z w18) ?_
 rintro _ w22 ⟨b23, m24, r25, rfl, k26, p27, q28⟩
 have H29 := H19.addU p27 k26 q28
 have H30 := H29.open 4 rfl
 refine ⟨_, rfl, ?_⟩
 let Ag : Value := .bool true
 let Aj := Zev b23 r25
 refine kk <| wv 17 (.tuple #[(.agg ⟨Aj⟩), Ag]) <| wv 19 (.agg ⟨Aj⟩) <| wv 20 Ag <| zy <| zda ([(.pointer none), (.pointer none)] : LV) H30 fun b32 w33 H34 => ?_
 refine kk <| zy <| Z1S Aj H34 7 ?_
 let A1 := Z0 b2 27 An
 let A3 := Z0 b14 29 Ac
 let A5 := Z0 b32 33 Aj
 let A6 := Z0 b23 179 (ZeM m24)
 let A7 := Z0 r25 165 (ZeY)
 let A9 := Z0 b6 38 (Z9B)
 intro w36 (H37 : Sat w [zR w, A1, A9, A3, A6, (Z3i m24 (([] : List Signed))), A7, A5] w36)
 refine kk <| wv 8 Ag <| Z1a <| zwN 21 Ac (H37.at 3 rfl) <| zwN 22 Aj (H37.at 7 rfl) <| zwN 23 Ac (H37.at 3 rfl) <| Z1H (Zc rfl) (d := 24) (v := (.pointer (some ⟨b2, 8, none⟩))) rfl kr ?_
 refine Z1H (Zc rfl) (d := 25) (v := (vu pl)) rfl (zl1 (H37.cell 1 rfl rfl)) ?_
 refine wv 26 (vu (pl % 20)) ?_ (hr := Z7E kr om om)
 let Ao := ZeE (1 + (Z1 f 2)) b23 r25 (pl % 20)
 refine wv 27 (.agg ⟨([(vi (1 + (Z1 f 2))), (vi 3), (vi 4), (vu (pl % 20)), (.slice none 0 0), (.slice none 0 0)] : LV)⟩) <| wv 28 (.agg ⟨Ao⟩) <| zy <| zda (Z9B) H37 fun b40 w41 H42 => ?_
 refine kk <| zy <| Z1S Ao H42 8 fun w44 H45 => ?_
 refine kk <| znt <| Z9 <| zsl <| wv 10 (vi 0) <| znt <| Zh ?_
 have H47 := H45.addNil 59 2
 have H48 := H47.addNil 102 36
 refine ZB ([10, 11] ++ List.range' 29 35) (fun F_ W_ m_ => ∃ (i : Nat) (la : Option Addr) (lc : Nat) (LG : List NmD) (oa : Option Addr) (oc : Nat) (OP : List Z1g), F_ 10 = (vi i) ∧ (i ≤ 3) ∧ (LG = Z1C i) ∧ (OP = Zq i) ∧ Sat w [zR w, A1, A9, A3, A6, (Z3i m24 (([] : List Signed))), A7, A5, Z0 b40 38 (Z3O (1 + (Z1 f 2)) b23 r25 (pl % 20) la LG.length lc oa OP.length oc), (Z7H la LG lc), (Z64 oa OP oc)] W_ ∧ m_ = 3 - i) _ ⟨0, none, 0, [], none, 0, [], (show ((vi 0) : Value) = _ by first | rfl | go_num), (Nat.zero_le _), rfl, rfl, H48, rfl⟩ ?_
 rintro g49 w50 _ ⟨i, la, lc, LG, oa, oc, OP, v52, hi, hLG, hOP, H51, rfl⟩
 refine Zn 10 _ v52 ?_
 have hll : LG.length = i := by rw [hLG, Z5H]
 have hol : OP.length = i := by rw [hOP, Z36]
 refine Z9 <| zsl <| wv 29 (vi i) <| wv 30 (.bool (decide ((i : Int) < 3))) <| wv 31 (.bool (decide ((i : Int) < 3))) ?_
 let Ab : Value := .pointer (some ⟨b40, 4, none⟩)
 let Af : Value := .pointer (some ⟨b40, 8, none⟩)
 refine zil 31 (fun b54 g55 => ?_) fun b54 g115 => ?_
 ·refine wy 2 31 true 32 Ag <| wv 33 Ag <| znt <| Z06 rfl ?_
  let A4 := Zdi ((i : Int))
  refine Zp <| ztn <| Z9 <| Zh <| zsl <| wv 36 (vi i) <| wv 37 (.agg ⟨A4⟩) <| zy <| zda (Z7S) H51 fun b58 w59 H60 => ?_
  refine kk <| zy <| Z1S A4 H60 11 fun w62 H63 => ?_
  let Ah := Z0 b40 38 (Z3O (1 + (Z1 f 2)) b23 r25 (pl % 20) la LG.length lc oa OP.length oc)
  let Al := Z7H la LG lc
  let Am := Z0 b58 59 A4
  refine kk <| znt <| Z9 <| Z0Z H63 [zR w, A1, A9, A3, A6, (Z3i m24 (([] : List Signed))), A7, A5, Ah, Al, Am] [18] 19 rfl kr (fun Hx => (Hx.pk [0, 1, 2, 3, 4, 5, 6, 7, 8, 9, 11])) fun w65 H66 S67 => ?_
  refine Z2s 0 rfl kr kr kr (fun _ _ _ h => h) S67 (Zc rfl) rfl (d := 38) (v := Ab) rfl (fun _ => kr) ?_
  let At : Value := .pointer (some ⟨b40, 9, none⟩)
  refine Z2s 1 rfl kr kr kr (fun _ _ _ h => h) S67 (Zc rfl) rfl (d := 39) (v := At) rfl (fun _ => kr) ?_
  refine ZbS 2 rfl kr kr kr (fun _ _ _ h => h) S67 (Zc rfl) rfl kr (d := 40) (v := (.slice oa OP.length oc)) rfl (fun _ H' => (zl1 (H'.cell 8 rfl rfl))) ?_
  refine zkp 3 S67 41 (vi i) <| zkp 4 S67 42 (vi (2 * (i : Int))) ?_ (he := fun _ => (Z0A (z := 2 * (i : Int)) kr (IntWalk.i64_in _ om)))
  refine zkv 5 S67 43 (.agg ⟨A4⟩) ?_ (he := fun _ H' => (zlN (vs := A4) (H'.at 10 rfl)))
  refine zkv 6 S67 44 (.agg ⟨A4⟩) ?_ (he := fun _ H' => (zlN (vs := A4) (H'.at 10 rfl)))
  refine Z2s 7 rfl kr kr kr (fun _ _ _ h => h) S67 (Zc rfl) rfl (d := 45) (v := (.agg ⟨(hc Zz)⟩)) rfl (fun _ => kr) ?_
  let Ap : Value := .int .u8 ((i : Int))
  refine zkp 8 S67 46 (vi i) <| zkp 9 S67 47 Ap ?_ (he := fun _ => (Z0A (z := (i : Int)) kr (Z6n om)))
  refine zky 10 ?_
  refine Z2z 5 1 1 (.int .u8 (0)) [(0, Ap)] ([Ap] : LV) H66 ?_
  intro b69 w70 H71
  let Ad : Value := .slice (some ⟨b69, 0, none⟩) 1 1
  have H72 := H71.ct 12 rfl (Zo 5 1 Ad 1 ([UInt8.ofNat ((i : Int)).toNat].flatMap Zx)) (by rw [Z33 om])
  have S73 := H72.pk [0, 1, 2, 3, 4, 5, 6, 7, 8, 9, 11]
  refine ke S73 <| zky 11 ?_
  refine zdq 49 (Z8e w70 (i : Int) (50 : Int) Zz (some ⟨b69, 0, none⟩) 1 ([UInt8.ofNat ((i : Int)).toNat]) (ListAt.row (enc := Zx) (sz := 1) Zw (by decide) (H72.at 12 rfl)) om om (by simp)) H72 ?_
  intro w75 H76
  have S78 := H76.pk [0, 1, 2, 3, 4, 5, 6, 7, 8, 9, 11]
  refine ke S78 <| Z2s 12 rfl kr kr kr (fun _ _ _ h => h) S78 (Zc rfl) rfl (d := 50) (v := (.agg ⟨(([(vi i), (vi 50)] : LV) ++ hc (Z0E (ofT (i : Int) (50 : Int) Zz ([UInt8.ofNat ((i : Int)).toNat]))) ++ ([(vu 1)] : LV))⟩)) rfl (fun _ => kr) ?_
  refine Z2s 13 rfl kr kr kr (fun _ _ _ h => h) S78 (Zc rfl) rfl (d := 51) (v := (.agg ⟨(Z67 (2 * (i : Int)) ((i : Int)) (Z0E (ofT (i : Int) (50 : Int) Zz ([UInt8.ofNat ((i : Int)).toNat]))))⟩)) rfl (fun _ => kr) ?_
  refine zky 14 ?_
  refine Z2z 102 36 64 (.agg ⟨(([(vi 0), (vi 0), (vi 0)] : LV) ++ hc Zz ++ ([(vu 0)] : LV))⟩) [(0, (.agg ⟨(Z67 (2 * (i : Int)) ((i : Int)) (Z0E (ofT (i : Int) (50 : Int) Zz ([UInt8.ofNat ((i : Int)).toNat]))))⟩))] (Z67 (2 * (i : Int)) ((i : Int)) (Z0E (ofT (i : Int) (50 : Int) Zz ([UInt8.ofNat ((i : Int)).toNat])))) H76 ?_
  intro b80 w81 H82
  let Ae : Value := .slice (some ⟨b80, 0, none⟩) 1 1
  have H83 := H82.ct 13 rfl (Zo 102 36 Ae 1 ([(⟨2 * (i : Int), (i : Int), 50, (Z0E (ofT (i : Int) (50 : Int) Zz ([UInt8.ofNat ((i : Int)).toNat]))), 1⟩ : Z1g)].flatMap Z39)) (by rw [(show ((Z67 (2 * (i : Int)) ((i : Int)) (Z0E (ofT (i : Int) (50 : Int) Zz ([UInt8.ofNat ((i : Int)).toNat])))) : LV) = [(⟨2 * (i : Int), (i : Int), 50, (Z0E (ofT (i : Int) (50 : Int) Zz ([UInt8.ofNat ((i : Int)).toNat]))), 1⟩ : Z1g)].flatMap Z39 by kernel_rfl)])
  have S84 := H83.pk [0, 1, 2, 3, 4, 5, 6, 7, 8, 9, 11]
  refine ke S84 <| zky 15 ?_
  refine Z0t (T := 34) (e := 102) (size := 36) (bytes := 64) rfl H83 kr 10 13 rfl rfl rfl rfl (Z0q Z39 ZbB [(⟨2 * (i : Int), (i : Int), 50, (Z0E (ofT (i : Int) (50 : Int) Zz ([UInt8.ofNat ((i : Int)).toNat]))), 1⟩ : Z1g)]) om om ?_
  intro v86 w87 H88
  have H91 : Sat w [zR w, A1, A9, A3, A6, (Z3i m24 (([] : List Signed))), A7, A5, Ah, Al, Zo 102 36 v86 ((OP ++ [(⟨2 * (i : Int), (i : Int), 50, (Z0E (ofT (i : Int) (50 : Int) Zz ([UInt8.ofNat ((i : Int)).toNat]))), 1⟩ : Z1g)]).length) ((OP ++ [(⟨2 * (i : Int), (i : Int), 50, (Z0E (ofT (i : Int) (50 : Int) Zz ([UInt8.ofNat ((i : Int)).toNat]))), 1⟩ : Z1g)]).flatMap Z39), Am, Zo 5 1 Ad 1 ([UInt8.ofNat ((i : Int)).toNat].flatMap Zx), Zo 102 36 Ae 1 ([(⟨2 * (i : Int), (i : Int), 50, (Z0E (ofT (i : Int) (50 : Int) Zz ([UInt8.ofNat ((i : Int)).toNat]))), 1⟩ : Z1g)].flatMap Z39)] w87 := H88.cast (by simp only [List.length_append, List.flatMap_append] <;> rfl)
  obtain ⟨a89, c90, rfl⟩ := Z3 (H91.at 10 rfl)
  have S92 := H91.pk [0, 1, 2, 3, 4, 5, 6, 7, 8, 9, 11]
  refine ke S92 <| Z2s 16 rfl kr kr kr (fun _ _ _ h => h) S92 (Zc rfl) rfl (d := 54) (v := Ab) rfl (fun _ => kr) ?_
  refine Z2s 17 rfl kr kr kr (fun _ _ _ h => h) S92 (Zc rfl) rfl (d := 55) (v := At) rfl (fun _ => kr) ?_
  refine Z2B 18 (Sat w [zR w, A1, A9, A3, A6, (Z3i m24 (([] : List Signed))), A7, A5, Al, Am]) rfl kr (Zc rfl) rfl (fun Kq kq => ?_)
  refine Z5m (vs := ([(.slice a89 ((OP ++ [(⟨2 * (i : Int), (i : Int), 50, (Z0E (ofT (i : Int) (50 : Int) Zz ([UInt8.ofNat ((i : Int)).toNat]))), 1⟩ : Z1g)]).length) c90)] : LV)) (cs' := (Z3O (1 + (Z1 f 2)) b23 r25 (pl % 20) la LG.length lc a89 ((OP ++ [(⟨2 * (i : Int), (i : Int), 50, (Z0E (ofT (i : Int) (50 : Int) Zz ([UInt8.ofNat ((i : Int)).toNat]))), 1⟩ : Z1g)]).length) c90)) rfl H91 8 rfl rfl rfl rfl kr kn kn kr kr ?_
  intro w94 (H95 : Sat w [zR w, A1, A9, A3, A6, (Z3i m24 (([] : List Signed))), A7, A5, Z0 b40 38 (Z3O (1 + (Z1 f 2)) b23 r25 (pl % 20) la LG.length lc a89 ((OP ++ [(⟨2 * (i : Int), (i : Int), 50, (Z0E (ofT (i : Int) (50 : Int) Zz ([UInt8.ofNat ((i : Int)).toNat]))), 1⟩ : Z1g)]).length) c90), Al, (Z64 a89 (OP ++ [(⟨2 * (i : Int), (i : Int), 50, (Z0E (ofT (i : Int) (50 : Int) Zz ([UInt8.ofNat ((i : Int)).toNat]))), 1⟩ : Z1g)]) c90), Am, Zo 5 1 Ad 1 ([UInt8.ofNat ((i : Int)).toNat].flatMap Zx), Zo 102 36 Ae 1 ([(⟨2 * (i : Int), (i : Int), 50, (Z0E (ofT (i : Int) (50 : Int) Zz ([UInt8.ofNat ((i : Int)).toNat]))), 1⟩ : Z1g)].flatMap Z39)] w94)
  have S97 := H95.pk [0, 1, 2, 3, 4, 5, 6, 7, 9, 11]
  refine kq _ _ S97 <| zhf <| ztn <| ZG <| Z1H (Zc rfl) (d := 56) (v := Ab) rfl kr ?_
  refine Z1H (Zc rfl) (d := 57) (v := Af) rfl kr ?_
  refine Z1H (Zc rfl) (d := 58) (v := (.slice la LG.length lc)) rfl (zl1 (H95.cell 8 rfl rfl)) ?_
  refine zwN 59 A4 (H95.at 11 rfl) <| zy <| Z2z 59 2 16 (.agg ⟨(Z7S)⟩) [(0, (.agg ⟨A4⟩))] A4 H95 fun b99 w100 H101 => ?_
  let A8 := (⟨(i : Int), 50⟩ : NmD)
  let Ar : Value := .slice (some ⟨b99, 0, none⟩) 1 1
  have H102 := H101.ct 14 rfl (Zo 59 2 Ar 1 ([A8].flatMap Z2n)) (by rw [(show (A4 : LV) = [A8].flatMap Z2n by kernel_rfl)])
  refine kk <| zy <| Z0t (T := 22) (e := 59) (size := 2) (bytes := 16) rfl H102 kr 9 14 rfl rfl rfl rfl (Z0q Z2n Z90 [A8]) om om fun v104 w105 H106 => ?_
  have H109 : Sat w [zR w, A1, A9, A3, A6, (Z3i m24 (([] : List Signed))), A7, A5, Z0 b40 38 (Z3O (1 + (Z1 f 2)) b23 r25 (pl % 20) la LG.length lc a89 ((OP ++ [(⟨2 * (i : Int), (i : Int), 50, (Z0E (ofT (i : Int) (50 : Int) Zz ([UInt8.ofNat ((i : Int)).toNat]))), 1⟩ : Z1g)]).length) c90), Zo 59 2 v104 ((LG ++ [A8]).length) ((LG ++ [A8]).flatMap Z2n), (Z64 a89 (OP ++ [(⟨2 * (i : Int), (i : Int), 50, (Z0E (ofT (i : Int) (50 : Int) Zz ([UInt8.ofNat ((i : Int)).toNat]))), 1⟩ : Z1g)]) c90), Am, Zo 5 1 Ad 1 ([UInt8.ofNat ((i : Int)).toNat].flatMap Zx), Zo 102 36 Ae 1 ([(⟨2 * (i : Int), (i : Int), 50, (Z0E (ofT (i : Int) (50 : Int) Zz ([UInt8.ofNat ((i : Int)).toNat]))), 1⟩ : Z1g)].flatMap Z39), Zo 59 2 Ar 1 ([A8].flatMap Z2n)] w105 := H106.cast (by simp only [List.length_append, List.flatMap_append] <;> rfl)
  obtain ⟨a107, c108, rfl⟩ := Z3 (H109.at 9 rfl)
  refine kk <| Z1H (Zc rfl) (d := 62) (v := Ab) rfl kr ?_
  refine Z1H (Zc rfl) (d := 63) (v := Af) rfl kr ?_
  refine zy <| Z5m (vs := ([(.slice a107 ((LG ++ [A8]).length) c108)] : LV)) (cs' := (Z3O (1 + (Z1 f 2)) b23 r25 (pl % 20) a107 ((LG ++ [A8]).length) c108 a89 ((OP ++ [(⟨2 * (i : Int), (i : Int), 50, (Z0E (ofT (i : Int) (50 : Int) Zz ([UInt8.ofNat ((i : Int)).toNat]))), 1⟩ : Z1g)]).length) c90)) rfl H109 8 rfl rfl rfl rfl kr kn kn kr kr fun w111 H112 => ?_
  refine kk <| ZL <| Z6 <| ztn <| ZG <| wv 34 (vi i) <| zwi 35 ((i : Int) + 1) <| wv 10 (vi ((i : Int) + 1)) <| ZL ?_
  have H114 := H112.pk [0, 1, 2, 3, 4, 5, 6, 7, 8, 9, 10]
  refine Za ?_ _ ⟨(i + 1), a107, c108, (LG ++ [A8]), a89, c90, (OP ++ [(⟨2 * (i : Int), (i : Int), 50, (Z0E (ofT (i : Int) (50 : Int) Zz ([UInt8.ofNat ((i : Int)).toNat]))), 1⟩ : Z1g)]), rfl, om, (by rw [hLG, Z9J]), (by rw [hOP, Z9E]; rfl), H114, rfl⟩ om
  exact zs
 refine wn 2 31 true ?_
 refine wv 33 (.bool false) <| znt <| Z2h rfl ?_
 refine zxb <| ztn <| Z9 <| Z9 ?_
 have hi3 : i = 3 := by omega
 let Ak := Z64 oa OP oc
 refine ZG <| wv 12 (vi 0) <| znt <| Zh <| ZB ([12] ++ List.range' 64 24) (fun F_ W_ m_ => ∃ (j : Nat) (ha : Option Addr) (hc_ : Nat) (LH : List NmD), F_ 12 = (vi j) ∧ (j ≤ 3) ∧ (j ≤ P.length) ∧ (LH = Z1C 3 ++ (P.take j).map Z21) ∧ Sat w [zR w, A1, A9, A3, A6, (Z3i m24 (([] : List Signed))), A7, A5, Z0 b40 38 (Z3O (1 + (Z1 f 2)) b23 r25 (pl % 20) ha LH.length hc_ oa OP.length oc), (Z7H ha LH hc_), Ak] W_ ∧ m_ = 3 - j) _ ⟨0, la, lc, LG, (show ((vi 0) : Value) = _ by first | rfl | go_num), (Nat.zero_le _), (Nat.zero_le _), (by rw [hLG, hi3]; simp), H51, rfl⟩ ?_
 rintro g117 w118 _ ⟨j, ha, hc_, LH, v120, hj, hj2, hLH, H119, rfl⟩
 refine Zn 12 _ v120 ?_
 have hhl : LH.length = 3 + j := by rw [hLH, List.length_append, Z5H, List.length_map, List.length_take]; omega
 let Au : Value := .pointer (some ⟨b2, 7, none⟩)
 refine Z9 <| zsl <| wv 64 (vi j) <| Z1H (Zc rfl) (d := 65) (v := Au) rfl kr ?_
 refine Z1H (Zc rfl) (d := 66) (v := (.slice pa P.length pc)) rfl (zl1 (H119.cell 1 rfl rfl)) ?_
 let Aq : Value := .bool (decide ((j : Int) < P.length))
 refine wv 67 (vi P.length) <| wv 68 Aq <| wv 69 Aq ?_
 let A2 := Z3O (1 + (Z1 f 2)) b23 r25 (pl % 20) ha LH.length hc_ oa OP.length oc
 refine zil 69 (fun b122 g123 => ?_) fun b122 g178 => ?_
 ·refine wy 5 69 true 70 (vi j) <| wy 5 69 true 71 (.bool (decide ((j : Int) < 3))) <| wv 72 (.bool (decide ((j : Int) < 3))) <| znt ?_
  refine zid (fun b125 g126 => ?_) fun b125 g171 => ?_
  ·refine Zp <| ztn <| Z9 <| Zh ?_
   obtain ⟨g128, o129, c130, e131, R132⟩ := SliceOf.atD hP nm0 (show j < P.length by omega)
   obtain ⟨g133, o134, c135, e136, R137⟩ := SliceOf.atD hP nm0 (show j < P.length by omega)
   refine Z0Z H119 [zR w, A1, A9, A3, A6, (Z3i m24 (([] : List Signed))), A7, A5, Z0 b40 38 A2, Ak] [13] 14 rfl kr (fun Hx => (Hx.pk [0, 1, 2, 3, 4, 5, 6, 7, 8, 10])) ?_
   intro w138 H139 S140
   refine Z2s 0 rfl kr kr kr (fun _ _ _ h => h) S140 (Zc rfl) rfl (d := 75) (v := Ab) rfl (fun _ => kr) ?_
   refine Z2s 1 rfl kr kr kr (fun _ _ _ h => h) S140 (Zc rfl) rfl (d := 76) (v := Af) rfl (fun _ => kr) ?_
   refine ZbS 2 rfl kr kr kr (fun _ _ _ h => h) S140 (Zc rfl) rfl kr (d := 77) (v := (.slice ha LH.length hc_)) rfl (fun _ H' => (zl1 (H'.cell 8 rfl rfl))) ?_
   refine Z2s 3 rfl kr kr kr (fun _ _ _ h => h) S140 (Zc rfl) rfl (d := 78) (v := Au) rfl (fun _ => kr) ?_
   refine ZbS 4 rfl kr kr kr (fun _ _ _ h => h) S140 (Zc rfl) rfl kr (d := 79) (v := (.slice pa P.length pc)) rfl (fun _ H' => (zl1 (H'.cell 1 rfl rfl))) ?_
   refine zkp 5 S140 80 (vi j) ?_
   obtain ⟨g141, o142, c143, e144, R145⟩ := SliceOf.atD hP nm0 (show j < P.length by omega)
   refine Z2s 6 rfl kr kr kr (fun _ _ _ h => h) S140 (Zc rfl) rfl (d := 81) (v := (.pointer (some ⟨g141, o142 + ((j : Int)).toNat * 2, none⟩))) rfl (fun _ => (Z8 (E := 59) kr kr kn rfl e144 rfl om om)) ?_
   let Ai := ([(vi ((P.getD j nm0).cl)), (vi ((P.getD j nm0).sq))] : LV)
   refine zkv 7 S140 82 (.agg ⟨Ai⟩) ?_ (he := fun _ H' => (ZX (vs := Ai) rfl kr kr kn (H'.runR 0 rfl (Z08 R145 0 kr (show o142 + ((j : Int)).toNat * 2 = o142 + j * 2 + 0 by omega)) (fun h => h))))
   refine zky 8 ?_
   refine zdq 83 (Z6r w138 ((P.getD j nm0).cl) ((P.getD j nm0).sq)) H139 ?_
   intro w147 H148
   have S150 := H148.pk [0, 1, 2, 3, 4, 5, 6, 7, 8, 10]
   refine ke S150 <| zky 9 ?_
   let Aa := ([(vi (Z1 ((P.getD j nm0).cl) 3)), (vi (1 + Z1 ((P.getD j nm0).sq) 4))] : LV)
   refine Z2z 59 2 16 (.agg ⟨(Z7S)⟩) [(0, (.agg ⟨Aa⟩))] Aa H148 ?_
   intro b152 w153 H154
   let A0 := (⟨Z1 ((P.getD j nm0).cl) 3, 1 + Z1 ((P.getD j nm0).sq) 4⟩ : NmD)
   let As : Value := .slice (some ⟨b152, 0, none⟩) 1 1
   have H155 := H154.ct 11 rfl (Zo 59 2 As 1 ([A0].flatMap Z2n)) (by rw [(show (Aa : LV) = [A0].flatMap Z2n by kernel_rfl)])
   have S156 := H155.pk [0, 1, 2, 3, 4, 5, 6, 7, 8, 10]
   refine ke S156 <| zky 10 ?_
   refine Z0t (T := 22) (e := 59) (size := 2) (bytes := 16) rfl H155 kr 9 11 rfl rfl rfl rfl (Z0q Z2n Z90 [A0]) om om ?_
   intro v158 w159 H160
   have H163 : Sat w [zR w, A1, A9, A3, A6, (Z3i m24 (([] : List Signed))), A7, A5, Z0 b40 38 A2, Zo 59 2 v158 ((LH ++ [A0]).length) ((LH ++ [A0]).flatMap Z2n), Ak, Zo 59 2 As 1 ([A0].flatMap Z2n)] w159 := H160.cast (by simp only [List.length_append, List.flatMap_append] <;> rfl)
   obtain ⟨a161, c162, rfl⟩ := Z3 (H163.at 9 rfl)
   have S164 := H163.pk [0, 1, 2, 3, 4, 5, 6, 7, 8, 10]
   refine ke S164 <| Z2s 11 rfl kr kr kr (fun _ _ _ h => h) S164 (Zc rfl) rfl (d := 86) (v := Ab) rfl (fun _ => kr) ?_
   refine Z2s 12 rfl kr kr kr (fun _ _ _ h => h) S164 (Zc rfl) rfl (d := 87) (v := Af) rfl (fun _ => kr) ?_
   refine Z2B 13 (Sat w [zR w, A1, A9, A3, A6, (Z3i m24 (([] : List Signed))), A7, A5, Ak]) rfl kr (Zc rfl) rfl (fun Kq kq => ?_)
   refine Z5m (vs := ([(.slice a161 ((LH ++ [A0]).length) c162)] : LV)) (cs' := (Z3O (1 + (Z1 f 2)) b23 r25 (pl % 20) a161 ((LH ++ [A0]).length) c162 oa OP.length oc)) rfl H163 8 rfl rfl rfl rfl kr kn kn kr kr ?_
   intro w166 H167
   have S169 := H167.pk [0, 1, 2, 3, 4, 5, 6, 7, 10]
   refine kq _ _ S169 <| zhf <| Z6 <| ztn <| ZG <| wv 73 (vi j) <| zwi 74 ((j : Int) + 1) <| wv 12 (vi ((j : Int) + 1)) <| ZL ?_
   have H170 := H167.pk [0, 1, 2, 3, 4, 5, 6, 7, 8, 9, 10]
   refine Za ?_ _ ⟨(j + 1), a161, c162, (LH ++ [A0]), rfl, om, om, (by rw [hLH, Z9w P om, List.append_assoc]; rfl), H170, rfl⟩ om
   exact zs
  refine zxb <| ztn <| zsl <| zwN 88 A2 (H119.at 8 rfl) <| wv 89 Ag <| zy <| Z1S A2 H119 2 fun w174 H175 => ?_
  refine kk <| wv 5 Ag <| znt <| Zk <| Z8l rfl (Z02 (vs := A2) rfl kr kr kn (H175.at 2 rfl) kr) (Z0S (v := Ag) rfl) ?_
  have hjt : LH = Z1C 3 ++ (P.take 3).map Z21 := by
   rw [hLH]; congr 2
   rcases Nat.lt_or_ge j 3 with h | h
   ·rw [List.take_of_length_le om, List.take_of_length_le om]
   rw [show j = 3 by omega]
  subst hi3
  subst hOP
  subst hjt
  clear hLH
  exact ⟨b23, m24, r25, ha, hc_, oa, oc, rfl, H175.fn [4, 5, 6, 9, 10], H175.upd 0 rfl [] ne, H175.freshS 0 rfl (fun _ h => h) [4, 5, 6, 9, 10] rfl rfl⟩
 iterate 2 refine wn 5 69 true ?_
 refine wv 72 (.bool false) <| znt <| Z2h rfl ?_
 refine zxb <| ztn <| zsl <| zwN 88 A2 (H119.at 8 rfl) <| wv 89 Ag <| zy <| Z1S A2 H119 2 fun w181 H182 => ?_
 refine kk <| wv 5 Ag <| znt <| Zk <| Z8l rfl (Z02 (vs := A2) rfl kr kr kn (H182.at 2 rfl) kr) (Z0S (v := Ag) rfl) ?_
 have hjt : LH = Z1C 3 ++ (P.take 3).map Z21 := by
  rw [hLH]; congr 2
  rcases Nat.lt_or_ge j 3 with h | h
  ·rw [List.take_of_length_le om, List.take_of_length_le om]
  rw [show j = 3 by omega]
 subst hi3
 subst hOP
 subst hjt
 clear hLH
 exact ⟨b23, m24, r25, ha, hc_, oa, oc, rfl, H182.fn [4, 5, 6, 9, 10], H182.upd 0 rfl [] ne, H182.freshS 0 rfl (fun _ h => h) [4, 5, 6, 9, 10] rfl rfl⟩
end Go.Proofs.YtenihpghfdcpkaaGreat
