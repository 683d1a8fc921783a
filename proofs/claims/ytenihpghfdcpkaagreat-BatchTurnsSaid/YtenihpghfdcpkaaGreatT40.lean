/- WHAT IS PROVED: contracts and plain laws of Turns12. Conditions: stated with each. -/
import Derived.Test.YtenihpghfdcpkaaGreatT05
import Derived.Test.YtenihpghfdcpkaaGreatT24
import Derived.Test.YtenihpghfdcpkaaGreatT25
import Derived.Test.YtenihpghfdcpkaaGreatT26
import Derived.Test.YtenihpghfdcpkaaGreatT29
import Derived.Test.YtenihpghfdcpkaaGreatT38
import Derived.Test.YtenihpghfdcpkaaGreatT39
set_option maxHeartbeats 4000000
set_option maxRecDepth 100000
namespace Go.Proofs.YtenihpghfdcpkaaGreat
open Go.RowKit
abbrev kTurns12_0 (p0 : Option Addr) (p1 : Nat) (p2 : Nat) (p3 : Option Addr) (p4 : Nat) (p5 : Nat) (p6 : Option Addr) (p7 : Nat) (p8 : Nat) (p9 : Int) (p10 : Option Addr) (p11 : Nat) (p12 : Nat) (p13 : Option Addr) (p14 : Nat) (p15 : Nat) (p16 : Int) (p17 : Option Addr) (p18 : Nat) (p19 : Nat) (p20 : Int) : List Value := ([(.slice p0 p1 p2), (.slice p3 p4 p5), (.slice p6 p7 p8), (.int .u64 p9), (.slice p10 p11 p12), (.slice p13 p14 p15), (.int .i64 p16), (.slice p17 p18 p19), (.int .u64 p20)] : List Value)
abbrev kTurns12_1 (p0 : Nat) (p1 : List Signed) : Ck := mapC p0 signedV (Value.int .i64) (marks p1)
abbrev kTurns12_2 (p0 : Option Addr) (p1 : List NmD) (p2 : Nat) : Ck := rowC 59 2 (.slice p0 p1.length p2) p1.length (p1.flatMap encNm)
abbrev kTurns12_3 (p0 : Option Addr) (p1 : List SpotD) (p2 : Nat) : Ck := rowC 102 36 (.slice p0 p1.length p2) p1.length (p1.flatMap encSp)
abbrev kTurns12_4 (p0 : Nat) : List Value := ([(.map (some p0))] : List Value)
abbrev kTurns12_5 (p0 : Int) (p1 : Nat) (p2 : Nat) (p3 : Int) (p4 : Option Addr) (p5 : Nat) (p6 : Nat) (p7 : Option Addr) (p8 : Nat) (p9 : Nat) : List Value := ([(.int .i64 p0), (.int .i64 (3)), (pt p1 0), (pt p2 0), (.int .i64 p0), (.int .i64 (3)), (.int .i64 (4)), (.int .u64 p3), (.slice p4 p5 p6), (.slice p7 p8 p9)] : List Value)
abbrev kTurns12_6 : List Value := ([(.int .i64 (0)), (.int .i64 (0)), (.pointer none), (.pointer none), (.int .i64 (0)), (.int .i64 (0)), (.int .i64 (0)), (.int .u64 (0)), (.slice none 0 0), (.slice none 0 0)] : List Value)
abbrev kTurns12_7 (p0 : Option Addr) (p1 : Nat) (p2 : Nat) : List Value := ([(.slice p0 p1 p2)] : List Value)
abbrev kTurns12_8 (p0 : Option Addr) (p1 : List Signed) (p2 : Nat) : Ck := rowC 181 2 (.slice p0 p1.length p2) p1.length (p1.flatMap encS)
abbrev kTurns12_9 (p0 : Option Addr) (p1 : List PrR) (p2 : Nat) : Ck := rowC 71 6 (.slice p0 p1.length p2) p1.length (p1.flatMap encPr)
abbrev kTurns12_10 (p0 : Option Addr) (p1 : List OpR) (p2 : Nat) : Ck := rowC 86 34 (.slice p0 p1.length p2) p1.length (p1.flatMap encOp)
abbrev kTurns12_11 (p0 : Option Addr) (p1 : List TbR) (p2 : Nat) : Ck := rowC 89 2 (.slice p0 p1.length p2) p1.length (p1.flatMap encTb)
abbrev kTurns12_12 (p0 : Int) (p1 : Option Addr) (p2 : Nat) (p3 : Nat) (p4 : Option Addr) (p5 : Nat) (p6 : Nat) (p7 : Option Addr) (p8 : Nat) (p9 : Nat) : List Value := ([(.int .i64 (4)), (.int .u64 p0), (.slice p1 p2 p3), (.slice p4 p5 p6), (.slice p7 p8 p9)] : List Value)
abbrev kTurns12_13 : List Value := ([(.int .i64 (0)), (.int .u64 (0)), (.slice none 0 0), (.slice none 0 0), (.slice none 0 0)] : List Value)
theorem turns12_walk (w : World) (na ta ha oa ba lla : Option Addr) (nc tc hc_ oc bc llc : Nat) (N LL : List NmD) (TT : List TmR) (HH OO BB : List Int) (ptm psk pl : Int) (hN : ListAt encNm 2 w (.slice na N.length nc) N) (hTT : ListAt encTm 1 w (.slice ta TT.length tc) TT) (hHH : ListAt encJ 1 w (.slice ha HH.length hc_) HH) (hOO : ListAt encJ 1 w (.slice oa OO.length oc) OO) (hBB : ListAt encJ 1 w (.slice ba BB.length bc) BB) (hLL : ListAt encNm 2 w (.slice lla LL.length llc) LL) (htt : ∀ x ∈ TT, TmOk w x) (hptm : 0 ≤ ptm ∧ ptm ≤ 18446744073709551615) (hpl : 0 ≤ pl ∧ pl ≤ 18446744073709551615) (f turn : Int) :
  Calls Tryz.prog 5 #[(.agg ⟨([(.slice na N.length nc), (.slice ta TT.length tc), (.slice ha HH.length hc_), (.int .u64 (ptm)), (.slice oa OO.length oc), (.slice ba BB.length bc), (.int .i64 (psk)), (.slice lla LL.length llc), (.int .u64 (pl))] : List Value)⟩), (.int .i64 (f)), (.int .i64 (turn))] w fun e w' => e = .returned (.bool true) ∧ Upd [] w w' := by
 have hwf := within_lim f 2 (by omega)
 have H := Sat.start0 w
 refine calls_fr Tryz.func5 rfl 114 rfl (Nat.le_of_ble_eq_true rfl) ?_
 refine zsl <| zwd fun Kq kq => zdb (kTurns12_0 na N.length nc ta TT.length tc ha HH.length hc_ ptm oa OO.length oc ba BB.length bc psk lla LL.length llc pl) H fun b2 w3 H4 => ?_
 refine kq _ _ <| wv 6 (.bool false) <| znsl <| zwN 22 (kTurns12_0 na N.length nc ta TT.length tc ha HH.length hc_ ptm oa OO.length oc ba BB.length bc psk lla LL.length llc pl) (H4.at 1 rfl) <| wv 23 (.int .i64 (f)) <| zwd fun Kq kq => zdc 24 (begin_any w3 (.slice na N.length nc) (.slice ta TT.length tc) (.slice ha HH.length hc_) (.slice oa OO.length oc) (.slice ba BB.length bc) ptm psk pl (by first | decide | omega) lla llc LL ((ListAt.now H4 0 rfl hLL)) f) ?_
 rintro _ w6 ⟨b7, m8, r9, a10, c11, a12, c13, rfl, k14, p15, q16⟩
 have H17 := H4.addU p15 k14 q16
 have H18 := H17.open 2 rfl
 refine ⟨_, rfl, ?_⟩
 refine kq _ _ <| wv 21 (.tuple #[(.agg ⟨(kTurns12_5 (1 + withinV f 2) b7 r9 (pl % 20) a10 ((namesN 3 ++ (LL.take 3).map smallN).length) c11 a12 ((spotsN 3).length) c13)⟩), (.bool true)]) <| wv 25 (.agg ⟨(kTurns12_5 (1 + withinV f 2) b7 r9 (pl % 20) a10 ((namesN 3 ++ (LL.take 3).map smallN).length) c11 a12 ((spotsN 3).length) c13)⟩) <| wv 26 (.bool true) <| zwd fun Kq kq => zda (kTurns12_6) H18 fun b20 w21 H22 => ?_
 refine kq _ _ <| zwd fun Kq kq => zds1 (kTurns12_5 (1 + withinV f 2) b7 r9 (pl % 20) a10 ((namesN 3 ++ (LL.take 3).map smallN).length) c11 a12 ((spotsN 3).length) c13) H22 7 fun w24 H25 => ?_
 refine kq _ _ <| wv 8 (.bool true) <| znt <| w_seq <| w_seq ?_
 obtain ⟨F, hFe⟩ : ∃ F, F = 1 + withinV f 2 := ⟨_, rfl⟩
 have hF : 1 ≤ F ∧ F ≤ 2 := by omega
 obtain ⟨la, hlae⟩ : ∃ la, la = pl % 20 := ⟨_, rfl⟩
 have hla2 : 0 ≤ la ∧ la < 20 := by omega
 obtain ⟨tm, htm⟩ : ∃ tm, tm = la + 1 + ptm % 60 := ⟨_, rfl⟩
 have htm2 : la < tm ∧ tm ≤ la + 60 := by omega
 have H27 : Sat w [restC w (fun _ => False), cellC b2 27 ([(.slice na N.length nc), (.slice ta TT.length tc), (.slice ha HH.length hc_), (.int .u64 (ptm)), (.slice oa OO.length oc), (.slice ba BB.length bc), (.int .i64 (psk)), (.slice lla LL.length llc), (.int .u64 (pl))] : List Value), cellC b7 179 ([(.map (some m8))] : List Value), mapC m8 signedV (Value.int .i64) (marks ([] : List Signed)), cellC r9 165 ([(.slice none 0 0)] : List Value), rowC 59 2 (.slice a10 ((namesN 3 ++ (LL.take 3).map smallN).length) c11) ((namesN 3 ++ (LL.take 3).map smallN).length) ((namesN 3 ++ (LL.take 3).map smallN).flatMap encNm), rowC 102 36 (.slice a12 ((spotsN 3).length) c13) ((spotsN 3).length) ((spotsN 3).flatMap encSp), cellC b20 38 ([(.int .i64 (F)), (.int .i64 (3)), (pt b7 0), (pt r9 0), (.int .i64 (F)), (.int .i64 (3)), (.int .i64 (4)), (.int .u64 (la)), (.slice a10 ((namesN 3 ++ (LL.take 3).map smallN).length) c11), (.slice a12 ((spotsN 3).length) c13)] : List Value)] w24 := by rw [hFe, hlae]; exact H25
 obtain ⟨LG, hLG⟩ : ∃ LG : List NmD, LG = (namesN 3 ++ (LL.take 3).map smallN) := ⟨_, rfl⟩
 have lgl : LG.length ≤ 6 := by rw [hLG, List.length_append, namesN_len, List.length_map, List.length_take]; omega
 have H28 : Sat w [restC w (fun _ => False), cellC b2 27 ([(.slice na N.length nc), (.slice ta TT.length tc), (.slice ha HH.length hc_), (.int .u64 (ptm)), (.slice oa OO.length oc), (.slice ba BB.length bc), (.int .i64 (psk)), (.slice lla LL.length llc), (.int .u64 (pl))] : List Value), cellC b7 179 ([(.map (some m8))] : List Value), mapC m8 signedV (Value.int .i64) (marks ([] : List Signed)), cellC r9 165 ([(.slice none 0 0)] : List Value), rowC 59 2 (.slice a10 LG.length c11) LG.length (LG.flatMap encNm), rowC 102 36 (.slice a12 ((spotsN 3).length) c13) ((spotsN 3).length) ((spotsN 3).flatMap encSp), cellC b20 38 ([(.int .i64 (F)), (.int .i64 (3)), (pt b7 0), (pt r9 0), (.int .i64 (F)), (.int .i64 (3)), (.int .i64 (4)), (.int .u64 (la)), (.slice a10 LG.length c11), (.slice a12 ((spotsN 3).length) c13)] : List Value)] w24 := by rw [hLG]; exact H27
 refine w_lit <| wv 27 (.bool true) <| wv 28 (.bool false) <| znt <| wp_iff rfl ?_
 refine w_skip <| ztn <| zsl <| zwN 30 (kTurns12_5 F b7 r9 la a10 LG.length c11 a12 ((spotsN 3).length) c13) (H28.at 7 rfl) <| zwN 31 (kTurns12_0 na N.length nc ta TT.length tc ha HH.length hc_ ptm oa OO.length oc ba BB.length bc psk lla LL.length llc pl) (H28.at 1 rfl) <| zwd fun Kq kq => ?_
 have H30 := H28.addNil 181 2
 refine zdc 32 (wParts_any w24 F la hF hla2 b7 m8 r9 none 0 [] (H30.fn [2, 3, 4, 8]) List.nodup_nil (by decide) (.slice a10 LG.length c11) (.slice a12 ((spotsN 3).length) c13) (.slice lla LL.length llc) ptm psk pl hptm na nc N (ListAt.now H30 0 rfl hN) (list_offS encNm_len (by decide) H30 [2, 3, 4, 8] 0 rfl rfl (by decide) hN) ta tc TT (ListAt.now H30 0 rfl hTT) (list_offS encTm_len (by decide) H30 [2, 3, 4, 8] 0 rfl rfl (by decide) hTT) ha hc_ HH (ListAt.now H30 0 rfl hHH) (list_offS encJ_len (by decide) H30 [2, 3, 4, 8] 0 rfl rfl (by decide) hHH) oa oc OO (ListAt.now H30 0 rfl hOO) (list_offS encJ_len (by decide) H30 [2, 3, 4, 8] 0 rfl rfl (by decide) hOO) ba bc BB (ListAt.now H30 0 rfl hBB) (list_offS encJ_len (by decide) H30 [2, 3, 4, 8] 0 rfl rfl (by decide) hBB) (fun x hx => ⟨ListAt.now H30 0 rfl (htt x hx).1, (htt x hx).2⟩) (fun x hx => (list_offS encU_len (by decide) H30 [2, 3, 4, 8] 0 rfl rfl (by decide) (htt x hx).1))) ?_
 rintro _ w31 ⟨a32, c33, PS34, a35, c36, OS37, a38, c39, TS40, a41, c42, LB43, BG44, rfl, hps45, hos46, l47, hts48, l49, hnd50, l51, p52, T53⟩
 rw [← htm] at hps45 ⊢
 have H54 := H30.tl [cellC b7 179 (kTurns12_4 m8), (kTurns12_1 m8 LB43), cellC r9 165 (kTurns12_7 a41 LB43.length c42), (kTurns12_8 a41 LB43 c42), (kTurns12_9 a32 PS34 c33), (kTurns12_10 a35 OS37 c36), (kTurns12_11 a38 TS40 c39), bagC BG44] [2, 3, 4, 8] [0, 1, 5, 6, 7] T53 [8, 9, 0, 1, 2, 10, 11, 12, 3, 4, 5, 6, 7]
 refine ⟨_, rfl, ?_⟩
 have hPSl := hps45.len hF.1
 refine kq _ _ <| wv 29 (.tuple #[(.int .u64 (tm)), (.slice a32 PS34.length c33), (.slice a35 OS37.length c36), (.slice a38 TS40.length c39)]) <| wv 33 (.int .u64 (tm)) <| wv 34 (.slice a32 PS34.length c33) <| wv 35 (.slice a35 OS37.length c36) <| wv 36 (.slice a38 TS40.length c39) <| wv 9 (.int .u64 (tm)) <| wv 10 (.slice a32 PS34.length c33) <| wv 11 (.slice a35 OS37.length c36) <| wv 12 (.slice a38 TS40.length c39) ?_
 refine znt <| w_seq <| zsl <| wv 37 (.slice a32 PS34.length c33) <| wv 38 (.int .i64 ((PS34.length : Int))) <| wv 39 (.bool (decide ((PS34.length : Int) = 0))) <| znt ?_
 have b55 : (decide ((PS34.length : Int) = 0)) = false := by exact decide_eq_false (by omega)
 have g56 := of_decide_eq_false b55
 refine zwkf _ b55 ?_
 refine w_skip <| ztn <| zsl <| wv 40 (.int .i64 (turn)) <| wv 41 (.slice a32 PS34.length c33) <| wv 42 (.int .i64 ((PS34.length : Int))) <| zwd fun Kq kq => zdq 43 (within_any w31 turn (PS34.length : Int) (by omega)) H54 fun w58 H59 => ?_
 refine kq _ _ <| wv 13 (.int .i64 (withinV turn (PS34.length : Int))) <| znt <| w_seq ?_
 have hwt := within_lim turn (PS34.length : Int) (by omega)
 obtain ⟨k, hk⟩ : ∃ k : Nat, (k : Int) = withinV turn (PS34.length : Int) := ⟨(withinV turn (PS34.length : Int)).toNat, by omega⟩
 have hkl : k < PS34.length := by omega
 refine wp_know 13 (.int .i64 ((k : Int))) (show ((.int .i64 (withinV turn (PS34.length : Int))) : Value) = _ by rw [hk]) ?_
 have hcapP := ListAt.cap (ListAt.row (enc := encPr) (sz := 6) encPr_len (by decide) (H59.at 9 rfl))
 refine h_start H59 [restC w (fun _ => False), cellC b2 27 (kTurns12_0 na N.length nc ta TT.length tc ha HH.length hc_ ptm oa OO.length oc ba BB.length bc psk lla LL.length llc pl), cellC b7 179 (kTurns12_4 m8), (kTurns12_1 m8 LB43), cellC r9 165 (kTurns12_7 a41 LB43.length c42), (kTurns12_2 a10 LG c11), (kTurns12_3 a12 (spotsN 3) c13), cellC b20 38 (kTurns12_5 F b7 r9 la a10 LG.length c11 a12 ((spotsN 3).length) c13), (kTurns12_8 a41 LB43 c42), (kTurns12_9 a32 PS34 c33), (kTurns12_10 a35 OS37 c36), (kTurns12_11 a38 TS40 c39), bagC BG44] 9 rfl (by kernel_rfl) (fun Hx => (Hx.pk [0, 1, 2, 3, 4, 5, 6, 7, 8, 9, 10, 11, 12])) ?_
 intro w61 H62 S63
 refine hv0 0 S63 44 (.slice a32 PS34.length c33) <| hv0 1 S63 45 (.int .i64 ((k : Int))) <| hv0 2 S63 46 (.slice (if c33 = k then a32 else a32.map (·.add (k * 6))) (PS34.length - k) (c33 - k)) ?_ (he := fun _ H' => (e_sliceLoG (E := 71) (q := k) (by kernel_rfl) (by kernel_rfl) rfl rfl rfl (by omega)))
 refine hv0 4 S63 48 (.slice a32 PS34.length c33) <| hv0 5 S63 49 (.int .i64 ((k : Int))) <| hv0 6 S63 50 (.slice a32 k c33) ?_ (he := fun _ H' => (e_sliceHi (E := 71) (q := k) (by kernel_rfl) (by kernel_rfl) rfl rfl (by omega) (by omega)))
 refine zhd0 3 fun Kq kq => ?_
 refine d_appendNilL (T := 41) (e := 71) (size := 6) (bytes := 64) rfl H62 (by kernel_rfl) encPr_len encPr_one (ListAt.dropG (k := k) (ListAt.row (enc := encPr) (sz := 6) encPr_len (by decide) (H62.at 9 rfl)) (by omega)) rfl rfl (by first | omega | (simp only [List.length_append, List.length_drop, List.length_take]; omega)) (by first | omega | (simp only [List.length_append, List.length_drop, List.length_take]; omega)) ?_
 intro v65 w66 H67
 obtain ⟨a68, c69, rfl⟩ := ownsRow_shape (H67.at 13 rfl)
 have S70 := H67.pk [0, 1, 2, 3, 4, 5, 6, 7, 8, 9, 10, 11, 12]
 refine kq _ _ S70 <| zhd0 7 fun Kq kq => ?_
 refine d_appendL (T := 41) (e := 71) (size := 6) (bytes := 64) rfl H67 (by kernel_rfl) encPr_len encPr_one 13 rfl (ListAt.take (ListAt.row (enc := encPr) (sz := 6) encPr_len (by decide) (H67.at 9 rfl)) (by omega)) rfl rfl (by first | omega | (simp only [List.length_append, List.length_drop, List.length_take]; omega)) (by first | omega | (simp only [List.length_append, List.length_drop, List.length_take]; omega)) ?_
 intro v72 w73 (H75 : Sat w [restC w (fun _ => False), cellC b2 27 (kTurns12_0 na N.length nc ta TT.length tc ha HH.length hc_ ptm oa OO.length oc ba BB.length bc psk lla LL.length llc pl), cellC b7 179 (kTurns12_4 m8), (kTurns12_1 m8 LB43), cellC r9 165 (kTurns12_7 a41 LB43.length c42), (kTurns12_2 a10 LG c11), (kTurns12_3 a12 (spotsN 3) c13), cellC b20 38 (kTurns12_5 F b7 r9 la a10 LG.length c11 a12 ((spotsN 3).length) c13), (kTurns12_8 a41 LB43 c42), (kTurns12_9 a32 PS34 c33), (kTurns12_10 a35 OS37 c36), (kTurns12_11 a38 TS40 c39), bagC BG44, rowC 71 6 v72 ((PS34.drop k).length + (PS34.take k).length) ((PS34.drop k).flatMap encPr ++ (PS34.take k).flatMap encPr)] w73)
 have H74 : Sat w [restC w (fun _ => False), cellC b2 27 (kTurns12_0 na N.length nc ta TT.length tc ha HH.length hc_ ptm oa OO.length oc ba BB.length bc psk lla LL.length llc pl), cellC b7 179 (kTurns12_4 m8), (kTurns12_1 m8 LB43), cellC r9 165 (kTurns12_7 a41 LB43.length c42), (kTurns12_2 a10 LG c11), (kTurns12_3 a12 (spotsN 3) c13), cellC b20 38 (kTurns12_5 F b7 r9 la a10 LG.length c11 a12 ((spotsN 3).length) c13), (kTurns12_8 a41 LB43 c42), (kTurns12_9 a32 PS34 c33), (kTurns12_10 a35 OS37 c36), (kTurns12_11 a38 TS40 c39), bagC BG44, rowC 71 6 v72 (((PS34.drop k) ++ (PS34.take k)).length) (((PS34.drop k) ++ (PS34.take k)).flatMap encPr)] w73 := H75.cast (by simp only [List.length_append, List.flatMap_append])
 obtain ⟨a76, c77, rfl⟩ := ownsRow_shape (H74.at 13 rfl)
 have S78 := H74.pk [0, 1, 2, 3, 4, 5, 6, 7, 8, 9, 10, 11, 12]
 refine kq _ _ S78 <| hv0 8 S78 14 (.slice a76 (((PS34.drop k) ++ (PS34.take k)).length) c77) <| zhf <| ztn <| zsl <| zwN 53 (kTurns12_5 F b7 r9 la a10 LG.length c11 a12 ((spotsN 3).length) c13) (H74.at 7 rfl) <| zwd fun Kq kq => zdc 54 (wOwn_any w73 b7 r9 F (3 : Int) F (3 : Int) (4 : Int) la a10 c11 LG (ListAt.row (enc := encNm) (sz := 2) encNm_len (by decide) (H74.at 5 rfl)) a12 c13 (spotsN 3) (ListAt.row (enc := encSp) (sz := 36) encSp_len (by decide) (H74.at 6 rfl)) (by have q := lgl; omega) (by decide)) ?_
 rintro _ w80 ⟨m81, o82, rfl, k83, u84, f85⟩
 have H86 := H74.addU u84 k83 f85
 have H87 := H86.open 14 rfl
 refine ⟨_, rfl, ?_⟩
 refine kq _ _ <| wv 55 (.int .u64 (tm)) <| wv 56 (.slice a32 PS34.length c33) <| wv 57 (.slice a35 OS37.length c36) <| wv 58 (.slice a38 TS40.length c39) <| zwd fun Kq kq => zdc 59 (make_any w80 F (3 : Int) (4 : Int) tm la (by omega) (.map (some m81)) o82 (openM (spotsN 3)) (H87.at 15 rfl) open3 a32 c33 PS34 (ListAt.row (enc := encPr) (sz := 6) encPr_len (by decide) (H87.at 9 rfl)) (by first | omega | (simp only [List.length_append, List.length_drop, List.length_take]; omega)) (fun p hp => (hps45.all p (((fun _ => Iff.rfl) p).1 hp)).prk (H87.at 12 rfl)) (hps45.lims (fun _ => Iff.rfl) hF) a35 c36 OS37 (ListAt.row (enc := encOp) (sz := 34) encOp_len (by decide) (H87.at 10 rfl)) (by first | omega | (simp only [List.length_append, List.length_drop, List.length_take]; omega)) (fun o ho => (hos46 o ho).opk (H87.at 12 rfl)) (Nat.le_trans firstN_le (by first | omega | (rw [List.length_append]; omega))) a38 c39 TS40 (ListAt.row (enc := encTb) (sz := 2) encTb_len (by decide) (H87.at 11 rfl)) (by first | omega | (simp only [List.length_append, List.length_drop, List.length_take]; omega)) (fun o ho => (hts48 o ho).tbk (H87.at 12 rfl)) (fun X => Nat.le_trans firstN_le (by first | omega | (rw [List.length_append]; omega)))) ?_
 rintro _ w89 ⟨DP90, hDP91, ⟨hlt120, rfl, T121⟩ | ⟨Q92, hQ93, DO94, X95, DT96, xa97, xc98, PD99, ya100, yc101, OD102, za103, zc104, TD105, B106, hSO107, hHv108, hST109, hQl110, rfl, hcP111, hcO112, hcT113, hpin114, hoin115, htin116, hok117, hu118, hfr119⟩⟩
 ·exact absurd hlt120 (by rw [hps45.dps (fun _ => Iff.rfl) hDP91]; have q := hps45.len hF.1; omega)
 have H122 := H87.addU hu118 hok117 hfr119
 have H123 := H122.open 16 rfl
 refine ⟨_, rfl, ?_⟩
 have dpPD99 : DP90 = PS34 := hps45.dps (fun _ => Iff.rfl) hDP91
 refine kq _ _ <| wv 52 (.tuple #[(.agg ⟨(kTurns12_12 tm xa97 PD99.length xc98 ya100 OD102.length yc101 za103 TD105.length zc104)⟩), (.int .i64 (0))]) <| wv 60 (.agg ⟨(kTurns12_12 tm xa97 PD99.length xc98 ya100 OD102.length yc101 za103 TD105.length zc104)⟩) <| wv 61 (.int .i64 (0)) <| zwd fun Kq kq => zda (kTurns12_13) H123 fun b125 w126 H127 => ?_
 refine kq _ _ <| zwd fun Kq kq => zds1 (kTurns12_12 tm xa97 PD99.length xc98 ya100 OD102.length yc101 za103 TD105.length zc104) H127 20 fun w129 H130 => ?_
 refine kq _ _ <| wv 16 (.int .i64 (0)) <| znsl <| zwN 63 (kTurns12_5 F b7 r9 la a10 LG.length c11 a12 ((spotsN 3).length) c13) (H130.at 7 rfl) <| zwd fun Kq kq => zdc 64 (wOwn_any w129 b7 r9 F (3 : Int) F (3 : Int) (4 : Int) la a10 c11 LG (ListAt.row (enc := encNm) (sz := 2) encNm_len (by decide) (H130.at 5 rfl)) a12 c13 (spotsN 3) (ListAt.row (enc := encSp) (sz := 36) encSp_len (by decide) (H130.at 6 rfl)) (by have q := lgl; omega) (by decide)) ?_
 rintro _ w133 ⟨m134, o135, rfl, k136, u137, f138⟩
 have H139 := H130.addU u137 k136 f138
 have H140 := H139.open 21 rfl
 refine ⟨_, rfl, ?_⟩
 refine kq _ _ <| wv 65 (.int .u64 (tm)) <| wv 66 (.slice a76 (((PS34.drop k) ++ (PS34.take k)).length) c77) <| wv 67 (.slice a35 OS37.length c36) <| zwd fun Kq kq => d_appendNil (T := 42) (e := 86) (size := 34) (bytes := 64) rfl H140 (by kernel_rfl) (H140.at 10 rfl) rfl rfl (flat_one encOp encOp_one OS37) (by omega) (by omega) fun v142 w143 H144 => ?_
 obtain ⟨a145, c146, rfl⟩ := ownsRow_shape (H144.at 23 rfl)
 refine kq _ _ <| wv 69 (.slice a35 OS37.length c36) <| zwd fun Kq kq => d_append (T := 42) (e := 86) (size := 34) (bytes := 64) rfl H144 (by kernel_rfl) 23 10 rfl rfl rfl rfl (flat_one encOp encOp_one OS37) (by omega) (by omega) ?_
 intro v148 w149 (H150 : Sat w [restC w (fun _ => False), cellC b2 27 (kTurns12_0 na N.length nc ta TT.length tc ha HH.length hc_ ptm oa OO.length oc ba BB.length bc psk lla LL.length llc pl), cellC b7 179 (kTurns12_4 m8), (kTurns12_1 m8 LB43), cellC r9 165 (kTurns12_7 a41 LB43.length c42), (kTurns12_2 a10 LG c11), (kTurns12_3 a12 (spotsN 3) c13), cellC b20 38 (kTurns12_5 F b7 r9 la a10 LG.length c11 a12 ((spotsN 3).length) c13), (kTurns12_8 a41 LB43 c42), (kTurns12_9 a32 PS34 c33), (kTurns12_10 a35 OS37 c36), (kTurns12_11 a38 TS40 c39), bagC BG44, (kTurns12_9 a76 ((PS34.drop k) ++ (PS34.take k)) c77), mapC m81 nmV Value.bool (logM LG), mapC o82 (Value.int .i64) entV (openM (spotsN 3)), (kTurns12_9 xa97 PD99 xc98), (kTurns12_10 ya100 OD102 yc101), (kTurns12_11 za103 TD105 zc104), bagC B106, cellC b125 47 (kTurns12_12 tm xa97 PD99.length xc98 ya100 OD102.length yc101 za103 TD105.length zc104), mapC m134 nmV Value.bool (logM LG), mapC o135 (Value.int .i64) entV (openM (spotsN 3)), rowC 86 34 v148 (OS37.length + OS37.length) ((OS37.flatMap encOp) ++ (OS37.flatMap encOp))] w149)
 have H153 : Sat w [restC w (fun _ => False), cellC b2 27 (kTurns12_0 na N.length nc ta TT.length tc ha HH.length hc_ ptm oa OO.length oc ba BB.length bc psk lla LL.length llc pl), cellC b7 179 (kTurns12_4 m8), (kTurns12_1 m8 LB43), cellC r9 165 (kTurns12_7 a41 LB43.length c42), (kTurns12_2 a10 LG c11), (kTurns12_3 a12 (spotsN 3) c13), cellC b20 38 (kTurns12_5 F b7 r9 la a10 LG.length c11 a12 ((spotsN 3).length) c13), (kTurns12_8 a41 LB43 c42), (kTurns12_9 a32 PS34 c33), (kTurns12_10 a35 OS37 c36), (kTurns12_11 a38 TS40 c39), bagC BG44, (kTurns12_9 a76 ((PS34.drop k) ++ (PS34.take k)) c77), mapC m81 nmV Value.bool (logM LG), mapC o82 (Value.int .i64) entV (openM (spotsN 3)), (kTurns12_9 xa97 PD99 xc98), (kTurns12_10 ya100 OD102 yc101), (kTurns12_11 za103 TD105 zc104), bagC B106, cellC b125 47 (kTurns12_12 tm xa97 PD99.length xc98 ya100 OD102.length yc101 za103 TD105.length zc104), mapC m134 nmV Value.bool (logM LG), mapC o135 (Value.int .i64) entV (openM (spotsN 3)), rowC 86 34 v148 ((OS37 ++ OS37).length) ((OS37 ++ OS37).flatMap encOp)] w149 := H150.cast (by simp only [List.length_append, List.flatMap_append] <;> rfl)
 obtain ⟨a151, c152, rfl⟩ := ownsRow_shape (H153.at 23 rfl)
 refine kq _ _ <| wv 71 (.slice a38 TS40.length c39) <| zwd fun Kq kq => d_appendNil (T := 43) (e := 89) (size := 2) (bytes := 32) rfl H153 (by kernel_rfl) (H153.at 11 rfl) rfl rfl (flat_one encTb encTb_one TS40) (by omega) (by omega) fun v155 w156 H157 => ?_
 obtain ⟨a158, c159, rfl⟩ := ownsRow_shape (H157.at 24 rfl)
 refine kq _ _ <| wv 73 (.slice a38 TS40.length c39) <| zwd fun Kq kq => d_append (T := 43) (e := 89) (size := 2) (bytes := 32) rfl H157 (by kernel_rfl) 24 11 rfl rfl rfl rfl (flat_one encTb encTb_one TS40) (by omega) (by omega) ?_
 intro v161 w162 (H163 : Sat w [restC w (fun _ => False), cellC b2 27 (kTurns12_0 na N.length nc ta TT.length tc ha HH.length hc_ ptm oa OO.length oc ba BB.length bc psk lla LL.length llc pl), cellC b7 179 (kTurns12_4 m8), (kTurns12_1 m8 LB43), cellC r9 165 (kTurns12_7 a41 LB43.length c42), (kTurns12_2 a10 LG c11), (kTurns12_3 a12 (spotsN 3) c13), cellC b20 38 (kTurns12_5 F b7 r9 la a10 LG.length c11 a12 ((spotsN 3).length) c13), (kTurns12_8 a41 LB43 c42), (kTurns12_9 a32 PS34 c33), (kTurns12_10 a35 OS37 c36), (kTurns12_11 a38 TS40 c39), bagC BG44, (kTurns12_9 a76 ((PS34.drop k) ++ (PS34.take k)) c77), mapC m81 nmV Value.bool (logM LG), mapC o82 (Value.int .i64) entV (openM (spotsN 3)), (kTurns12_9 xa97 PD99 xc98), (kTurns12_10 ya100 OD102 yc101), (kTurns12_11 za103 TD105 zc104), bagC B106, cellC b125 47 (kTurns12_12 tm xa97 PD99.length xc98 ya100 OD102.length yc101 za103 TD105.length zc104), mapC m134 nmV Value.bool (logM LG), mapC o135 (Value.int .i64) entV (openM (spotsN 3)), (kTurns12_10 a151 (OS37 ++ OS37) c152), rowC 89 2 v161 (TS40.length + TS40.length) ((TS40.flatMap encTb) ++ (TS40.flatMap encTb))] w162)
 have H166 : Sat w [restC w (fun _ => False), cellC b2 27 (kTurns12_0 na N.length nc ta TT.length tc ha HH.length hc_ ptm oa OO.length oc ba BB.length bc psk lla LL.length llc pl), cellC b7 179 (kTurns12_4 m8), (kTurns12_1 m8 LB43), cellC r9 165 (kTurns12_7 a41 LB43.length c42), (kTurns12_2 a10 LG c11), (kTurns12_3 a12 (spotsN 3) c13), cellC b20 38 (kTurns12_5 F b7 r9 la a10 LG.length c11 a12 ((spotsN 3).length) c13), (kTurns12_8 a41 LB43 c42), (kTurns12_9 a32 PS34 c33), (kTurns12_10 a35 OS37 c36), (kTurns12_11 a38 TS40 c39), bagC BG44, (kTurns12_9 a76 ((PS34.drop k) ++ (PS34.take k)) c77), mapC m81 nmV Value.bool (logM LG), mapC o82 (Value.int .i64) entV (openM (spotsN 3)), (kTurns12_9 xa97 PD99 xc98), (kTurns12_10 ya100 OD102 yc101), (kTurns12_11 za103 TD105 zc104), bagC B106, cellC b125 47 (kTurns12_12 tm xa97 PD99.length xc98 ya100 OD102.length yc101 za103 TD105.length zc104), mapC m134 nmV Value.bool (logM LG), mapC o135 (Value.int .i64) entV (openM (spotsN 3)), (kTurns12_10 a151 (OS37 ++ OS37) c152), rowC 89 2 v161 ((TS40 ++ TS40).length) ((TS40 ++ TS40).flatMap encTb)] w162 := H163.cast (by simp only [List.length_append, List.flatMap_append] <;> rfl)
 obtain ⟨a164, c165, rfl⟩ := ownsRow_shape (H166.at 24 rfl)
 refine kq _ _ <| zwd fun Kq kq => zdc 75 (make_any w162 F (3 : Int) (4 : Int) tm la (by omega) (.map (some m134)) o135 (openM (spotsN 3)) (H166.at 22 rfl) open3 a76 c77 ((PS34.drop k) ++ (PS34.take k)) (ListAt.row (enc := encPr) (sz := 6) encPr_len (by decide) (H166.at 13 rfl)) (by first | omega | (simp only [List.length_append, List.length_drop, List.length_take]; omega)) (fun p hp => (hps45.all p ((turn_mem p).1 hp)).prk (H166.at 12 rfl)) (hps45.lims turn_mem hF) a151 c152 (OS37 ++ OS37) (ListAt.row (enc := encOp) (sz := 34) encOp_len (by decide) (H166.at 23 rfl)) (by first | omega | (simp only [List.length_append, List.length_drop, List.length_take]; omega)) (fun o ho => (hos46 o ((twice_mem o).1 ho)).opk (H166.at 12 rfl)) (Nat.le_trans firstN_le (by first | omega | (rw [List.length_append]; omega))) a164 c165 (TS40 ++ TS40) (ListAt.row (enc := encTb) (sz := 2) encTb_len (by decide) (H166.at 24 rfl)) (by first | omega | (simp only [List.length_append, List.length_drop, List.length_take]; omega)) (fun o ho => (hts48 o ((twice_mem o).1 ho)).tbk (H166.at 12 rfl)) (fun X => Nat.le_trans firstN_le (by first | omega | (rw [List.length_append]; omega)))) ?_
 rintro _ w168 ⟨DP169, hDP170, ⟨hlt199, rfl, T200⟩ | ⟨Q171, hQ172, DO173, X174, DT175, xa176, xc177, PD178, ya179, yc180, OD181, za182, zc183, TD184, B185, hSO186, hHv187, hST188, hQl189, rfl, hcP190, hcO191, hcT192, hpin193, hoin194, htin195, hok196, hu197, hfr198⟩⟩
 ·exact absurd hlt199 (by rw [hps45.dps turn_mem hDP170]; have q := hps45.len hF.1; omega)
 have H201 := H166.addU hu197 hok196 hfr198
 have H202 := H201.open 25 rfl
 refine ⟨_, rfl, ?_⟩
 have dpPD178 : DP169 = PS34 := hps45.dps turn_mem hDP170
 have hePPD178 : PD178.map keyP = PD99.map keyP := by
  have q1 := hcP111
  have q2 := hcP190
  unfold CoPs at q1 q2
  rw [q2, q1, dpPD178, dpPD99, show Q171 = Q92 by omega]
 have hDOPD178 : DO173 = DO94 := hSO186.two hSO107
 have heOPD178 : OD181.map keyO = OD102.map keyO := by
  have q1 := hcO112
  have q2 := hcO191
  unfold CoOs at q1 q2
  rw [q2, q1, hDOPD178]
 have heTPD178 : TD184.map keyT = TD105.map keyT := by
  have q1 := hcT113
  have q2 := hcT192
  have q3 := hST188
  unfold CoTs at q1 q2
  rw [mayTb_same hHv108 (hDOPD178 ▸ hHv187)] at q3
  rw [q2, q1, q3.two hST109]
 refine kq _ _ <| wv 62 (.tuple #[(.agg ⟨(kTurns12_12 tm xa176 PD178.length xc177 ya179 OD181.length yc180 za182 TD184.length zc183)⟩), (.int .i64 (0))]) <| wv 76 (.agg ⟨(kTurns12_12 tm xa176 PD178.length xc177 ya179 OD181.length yc180 za182 TD184.length zc183)⟩) <| wv 77 (.int .i64 (0)) <| zwd fun Kq kq => zda (kTurns12_13) H202 fun b204 w205 H206 => ?_
 refine kq _ _ <| zwd fun Kq kq => zds1 (kTurns12_12 tm xa176 PD178.length xc177 ya179 OD181.length yc180 za182 TD184.length zc183) H206 29 fun w208 H209 => ?_
 refine kq _ _ <| wv 18 (.int .i64 (0)) <| znsl <| zwN 79 (kTurns12_5 F b7 r9 la a10 LG.length c11 a12 ((spotsN 3).length) c13) (H209.at 7 rfl) <| zwd fun Kq kq => zdc 80 (wOwn_any w208 b7 r9 F (3 : Int) F (3 : Int) (4 : Int) la a10 c11 LG (ListAt.row (enc := encNm) (sz := 2) encNm_len (by decide) (H209.at 5 rfl)) a12 c13 (spotsN 3) (ListAt.row (enc := encSp) (sz := 36) encSp_len (by decide) (H209.at 6 rfl)) (by have q := lgl; omega) (by decide)) ?_
 rintro _ w212 ⟨m213, o214, rfl, k215, u216, f217⟩
 have H218 := H209.addU u216 k215 f217
 have H219 := H218.open 30 rfl
 refine ⟨_, rfl, ?_⟩
 refine kq _ _ <| wv 81 (.int .u64 (tm)) <| wv 82 (.slice a32 PS34.length c33) <| zwd fun Kq kq => d_appendNil (T := 41) (e := 71) (size := 6) (bytes := 64) rfl H219 (by kernel_rfl) (H219.at 9 rfl) rfl rfl (flat_one encPr encPr_one PS34) (by omega) (by omega) fun v221 w222 H223 => ?_
 obtain ⟨a224, c225, rfl⟩ := ownsRow_shape (H223.at 32 rfl)
 refine kq _ _ <| wv 84 (.slice a32 PS34.length c33) <| zwd fun Kq kq => d_append (T := 41) (e := 71) (size := 6) (bytes := 64) rfl H223 (by kernel_rfl) 32 9 rfl rfl rfl rfl (flat_one encPr encPr_one PS34) (by omega) (by omega) ?_
 intro v227 w228 (H229 : Sat w [restC w (fun _ => False), cellC b2 27 (kTurns12_0 na N.length nc ta TT.length tc ha HH.length hc_ ptm oa OO.length oc ba BB.length bc psk lla LL.length llc pl), cellC b7 179 (kTurns12_4 m8), (kTurns12_1 m8 LB43), cellC r9 165 (kTurns12_7 a41 LB43.length c42), (kTurns12_2 a10 LG c11), (kTurns12_3 a12 (spotsN 3) c13), cellC b20 38 (kTurns12_5 F b7 r9 la a10 LG.length c11 a12 ((spotsN 3).length) c13), (kTurns12_8 a41 LB43 c42), (kTurns12_9 a32 PS34 c33), (kTurns12_10 a35 OS37 c36), (kTurns12_11 a38 TS40 c39), bagC BG44, (kTurns12_9 a76 ((PS34.drop k) ++ (PS34.take k)) c77), mapC m81 nmV Value.bool (logM LG), mapC o82 (Value.int .i64) entV (openM (spotsN 3)), (kTurns12_9 xa97 PD99 xc98), (kTurns12_10 ya100 OD102 yc101), (kTurns12_11 za103 TD105 zc104), bagC B106, cellC b125 47 (kTurns12_12 tm xa97 PD99.length xc98 ya100 OD102.length yc101 za103 TD105.length zc104), mapC m134 nmV Value.bool (logM LG), mapC o135 (Value.int .i64) entV (openM (spotsN 3)), (kTurns12_10 a151 (OS37 ++ OS37) c152), (kTurns12_11 a164 (TS40 ++ TS40) c165), (kTurns12_9 xa176 PD178 xc177), (kTurns12_10 ya179 OD181 yc180), (kTurns12_11 za182 TD184 zc183), bagC B185, cellC b204 47 (kTurns12_12 tm xa176 PD178.length xc177 ya179 OD181.length yc180 za182 TD184.length zc183), mapC m213 nmV Value.bool (logM LG), mapC o214 (Value.int .i64) entV (openM (spotsN 3)), rowC 71 6 v227 (PS34.length + PS34.length) ((PS34.flatMap encPr) ++ (PS34.flatMap encPr))] w228)
 have H232 : Sat w [restC w (fun _ => False), cellC b2 27 (kTurns12_0 na N.length nc ta TT.length tc ha HH.length hc_ ptm oa OO.length oc ba BB.length bc psk lla LL.length llc pl), cellC b7 179 (kTurns12_4 m8), (kTurns12_1 m8 LB43), cellC r9 165 (kTurns12_7 a41 LB43.length c42), (kTurns12_2 a10 LG c11), (kTurns12_3 a12 (spotsN 3) c13), cellC b20 38 (kTurns12_5 F b7 r9 la a10 LG.length c11 a12 ((spotsN 3).length) c13), (kTurns12_8 a41 LB43 c42), (kTurns12_9 a32 PS34 c33), (kTurns12_10 a35 OS37 c36), (kTurns12_11 a38 TS40 c39), bagC BG44, (kTurns12_9 a76 ((PS34.drop k) ++ (PS34.take k)) c77), mapC m81 nmV Value.bool (logM LG), mapC o82 (Value.int .i64) entV (openM (spotsN 3)), (kTurns12_9 xa97 PD99 xc98), (kTurns12_10 ya100 OD102 yc101), (kTurns12_11 za103 TD105 zc104), bagC B106, cellC b125 47 (kTurns12_12 tm xa97 PD99.length xc98 ya100 OD102.length yc101 za103 TD105.length zc104), mapC m134 nmV Value.bool (logM LG), mapC o135 (Value.int .i64) entV (openM (spotsN 3)), (kTurns12_10 a151 (OS37 ++ OS37) c152), (kTurns12_11 a164 (TS40 ++ TS40) c165), (kTurns12_9 xa176 PD178 xc177), (kTurns12_10 ya179 OD181 yc180), (kTurns12_11 za182 TD184 zc183), bagC B185, cellC b204 47 (kTurns12_12 tm xa176 PD178.length xc177 ya179 OD181.length yc180 za182 TD184.length zc183), mapC m213 nmV Value.bool (logM LG), mapC o214 (Value.int .i64) entV (openM (spotsN 3)), rowC 71 6 v227 ((PS34 ++ PS34).length) ((PS34 ++ PS34).flatMap encPr)] w228 := H229.cast (by simp only [List.length_append, List.flatMap_append] <;> rfl)
 obtain ⟨a230, c231, rfl⟩ := ownsRow_shape (H232.at 32 rfl)
 refine kq _ _ <| wv 86 (.slice a35 OS37.length c36) <| wv 87 (.slice a38 TS40.length c39) <| zwd fun Kq kq => zdc 88 (make_any w228 F (3 : Int) (4 : Int) tm la (by omega) (.map (some m213)) o214 (openM (spotsN 3)) (H232.at 31 rfl) open3 a230 c231 (PS34 ++ PS34) (ListAt.row (enc := encPr) (sz := 6) encPr_len (by decide) (H232.at 32 rfl)) (by first | omega | (simp only [List.length_append, List.length_drop, List.length_take]; omega)) (fun p hp => (hps45.all p ((twice_mem p).1 hp)).prk (H232.at 12 rfl)) (hps45.lims twice_mem hF) a35 c36 OS37 (ListAt.row (enc := encOp) (sz := 34) encOp_len (by decide) (H232.at 10 rfl)) (by first | omega | (simp only [List.length_append, List.length_drop, List.length_take]; omega)) (fun o ho => (hos46 o ho).opk (H232.at 12 rfl)) (Nat.le_trans firstN_le (by first | omega | (rw [List.length_append]; omega))) a38 c39 TS40 (ListAt.row (enc := encTb) (sz := 2) encTb_len (by decide) (H232.at 11 rfl)) (by first | omega | (simp only [List.length_append, List.length_drop, List.length_take]; omega)) (fun o ho => (hts48 o ho).tbk (H232.at 12 rfl)) (fun X => Nat.le_trans firstN_le (by first | omega | (rw [List.length_append]; omega)))) ?_
 rintro _ w234 ⟨DP235, hDP236, ⟨hlt265, rfl, T266⟩ | ⟨Q237, hQ238, DO239, X240, DT241, xa242, xc243, PD244, ya245, yc246, OD247, za248, zc249, TD250, B251, hSO252, hHv253, hST254, hQl255, rfl, hcP256, hcO257, hcT258, hpin259, hoin260, htin261, hok262, hu263, hfr264⟩⟩
 ·exact absurd hlt265 (by rw [hps45.dps twice_mem hDP236]; have q := hps45.len hF.1; omega)
 have H267 := H232.addU hu263 hok262 hfr264
 have H268 := H267.open 33 rfl
 refine ⟨_, rfl, ?_⟩
 have dpPD244 : DP235 = PS34 := hps45.dps twice_mem hDP236
 have hePPD244 : PD244.map keyP = PD99.map keyP := by
  have q1 := hcP111
  have q2 := hcP256
  unfold CoPs at q1 q2
  rw [q2, q1, dpPD244, dpPD99, show Q237 = Q92 by omega]
 have hDOPD244 : DO239 = DO94 := hSO252.one hSO107
 have heOPD244 : OD247.map keyO = OD102.map keyO := by
  have q1 := hcO112
  have q2 := hcO257
  unfold CoOs at q1 q2
  rw [q2, q1, hDOPD244]
 have heTPD244 : TD250.map keyT = TD105.map keyT := by
  have q1 := hcT113
  have q2 := hcT258
  have q3 := hST254
  unfold CoTs at q1 q2
  rw [mayTb_same hHv108 (hDOPD244 ▸ hHv253)] at q3
  rw [q2, q1, q3.one hST109]
 refine kq _ _ <| wv 78 (.tuple #[(.agg ⟨(kTurns12_12 tm xa242 PD244.length xc243 ya245 OD247.length yc246 za248 TD250.length zc249)⟩), (.int .i64 (0))]) <| wv 89 (.agg ⟨(kTurns12_12 tm xa242 PD244.length xc243 ya245 OD247.length yc246 za248 TD250.length zc249)⟩) <| wv 90 (.int .i64 (0)) <| zwd fun Kq kq => zda (kTurns12_13) H268 fun b270 w271 H272 => ?_
 refine kq _ _ <| zwd fun Kq kq => zds1 (kTurns12_12 tm xa242 PD244.length xc243 ya245 OD247.length yc246 za248 TD250.length zc249) H272 37 fun w274 H275 => ?_
 refine kq _ _ <| wv 20 (.int .i64 (0)) <| znsl <| wv 91 (.int .i64 (0)) <| wv 92 (.bool true) <| wv 93 (.bool true) <| wy 2 93 true 94 (.int .i64 (0)) <| wy 2 93 true 95 (.bool true) <| wv 96 (.bool true) <| wv 97 (.bool true) ?_
 refine wy 6 97 true 98 (.int .i64 (0)) <| wy 6 97 true 99 (.bool true) <| wv 100 (.bool true) <| wv 101 (.bool true) <| wy 10 101 true 102 (.agg ⟨(kTurns12_12 tm xa97 PD99.length xc98 ya100 OD102.length yc101 za103 TD105.length zc104)⟩) ?_ (hr := zlN (vs := (kTurns12_12 tm xa97 PD99.length xc98 ya100 OD102.length yc101 za103 TD105.length zc104)) (H275.at 20 rfl))
 refine wy 10 101 true 103 (.agg ⟨(kTurns12_12 tm xa176 PD178.length xc177 ya179 OD181.length yc180 za182 TD184.length zc183)⟩) ?_ (hr := zlN (vs := (kTurns12_12 tm xa176 PD178.length xc177 ya179 OD181.length yc180 za182 TD184.length zc183)) (H275.at 29 rfl))
 refine wl_do (wantsY 10 101 true rfl (by kernel_rfl) rfl (by kernel_rfl)) (fun Kq kq => ?_)
 refine zdq 104 (kBatch_any w274 4 tm xa97 xc98 PD99 (ListAt.row encPr_len (by decide) (H275.at 16 rfl)) (fun p hp => (hpin114 p hp).ok (H275.at 19 rfl)) ya100 yc101 OD102 (ListAt.row encOp_len (by decide) (H275.at 17 rfl)) (fun x hx => ListAt.row encB_len (by decide) (show (opC x).ok _ from (H275.at 19 rfl) (opC x) (hoin115 x hx))) za103 zc104 TD105 (ListAt.row encTb_len (by decide) (H275.at 18 rfl)) (fun x hx => ListAt.row encDn_len (by decide) (show (tbC x).ok _ from (H275.at 19 rfl) (tbC x) (htin116 x hx))) xa176 xc177 PD178 (ListAt.row encPr_len (by decide) (H275.at 25 rfl)) (fun p hp => (hpin193 p hp).ok (H275.at 28 rfl)) ya179 yc180 OD181 (ListAt.row encOp_len (by decide) (H275.at 26 rfl)) (fun x hx => ListAt.row encB_len (by decide) (show (opC x).ok _ from (H275.at 28 rfl) (opC x) (hoin194 x hx))) za182 zc183 TD184 (ListAt.row encTb_len (by decide) (H275.at 27 rfl)) (fun x hx => ListAt.row encDn_len (by decide) (show (tbC x).ok _ from (H275.at 28 rfl) (tbC x) (htin195 x hx))) hePPD178 heOPD178 heTPD178) H275 ?_
 intro w278 H279
 refine kq _ _ <| wv 105 (.bool true) <| wv 106 (.bool true) <| wy 15 106 true 107 (.agg ⟨(kTurns12_12 tm xa97 PD99.length xc98 ya100 OD102.length yc101 za103 TD105.length zc104)⟩) ?_ (hr := zlN (vs := (kTurns12_12 tm xa97 PD99.length xc98 ya100 OD102.length yc101 za103 TD105.length zc104)) (H279.at 20 rfl))
 refine wy 15 106 true 108 (.agg ⟨(kTurns12_12 tm xa242 PD244.length xc243 ya245 OD247.length yc246 za248 TD250.length zc249)⟩) ?_ (hr := zlN (vs := (kTurns12_12 tm xa242 PD244.length xc243 ya245 OD247.length yc246 za248 TD250.length zc249)) (H279.at 37 rfl))
 refine wl_do (wantsY 15 106 true rfl (by kernel_rfl) rfl (by kernel_rfl)) (fun Kq kq => ?_)
 refine zdq 109 (kBatch_any w278 4 tm xa97 xc98 PD99 (ListAt.row encPr_len (by decide) (H279.at 16 rfl)) (fun p hp => (hpin114 p hp).ok (H279.at 19 rfl)) ya100 yc101 OD102 (ListAt.row encOp_len (by decide) (H279.at 17 rfl)) (fun x hx => ListAt.row encB_len (by decide) (show (opC x).ok _ from (H279.at 19 rfl) (opC x) (hoin115 x hx))) za103 zc104 TD105 (ListAt.row encTb_len (by decide) (H279.at 18 rfl)) (fun x hx => ListAt.row encDn_len (by decide) (show (tbC x).ok _ from (H279.at 19 rfl) (tbC x) (htin116 x hx))) xa242 xc243 PD244 (ListAt.row encPr_len (by decide) (H279.at 33 rfl)) (fun p hp => (hpin259 p hp).ok (H279.at 36 rfl)) ya245 yc246 OD247 (ListAt.row encOp_len (by decide) (H279.at 34 rfl)) (fun x hx => ListAt.row encB_len (by decide) (show (opC x).ok _ from (H279.at 36 rfl) (opC x) (hoin260 x hx))) za248 zc249 TD250 (ListAt.row encTb_len (by decide) (H279.at 35 rfl)) (fun x hx => ListAt.row encDn_len (by decide) (show (tbC x).ok _ from (H279.at 36 rfl) (tbC x) (htin261 x hx))) hePPD244 heOPD244 heTPD244) H279 ?_
 intro w282 H283
 refine kq _ _ <| wv 110 (.bool true) <| wv 111 (.bool true) <| wl_do (wantsY 20 111 true rfl (by kernel_rfl) rfl (by kernel_rfl)) (fun Kq kq => ?_)
 refine zdq 112 (wakes_any w282) H283 ?_
 intro w286 H287
 refine kq _ _ <| wv 113 (.bool true) <| wv 6 (.bool true) <| znt <| w_ret <| ze1 (.bool true) ?_
 exact ⟨rfl, H287.upd 0 rfl [] (fun _ h => h.elim)⟩
end Go.Proofs.YtenihpghfdcpkaaGreat
