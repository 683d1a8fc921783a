/- WHAT IS PROVED: contracts and plain laws of Logged12. Conditions: stated with each. -/
import Derived.Test.YtenihpghfdcpkaaGreatV05
import Derived.Test.YtenihpghfdcpkaaGreatV26
import Derived.Test.YtenihpghfdcpkaaGreatV27
import Derived.Test.YtenihpghfdcpkaaGreatV30
import Derived.Test.YtenihpghfdcpkaaGreatV39
import Derived.Test.YtenihpghfdcpkaaGreatV41
import Derived.Test.YtenihpghfdcpkaaGreatV42
set_option maxHeartbeats 4000000
set_option maxRecDepth 100000
namespace Go.Proofs.YtenihpghfdcpkaaGreat
open Go.RowKit
abbrev kLogged12_0 (p0 : Option Addr) (p1 : Nat) (p2 : Nat) (p3 : Option Addr) (p4 : Nat) (p5 : Nat) (p6 : Option Addr) (p7 : Nat) (p8 : Nat) (p9 : Int) (p10 : Option Addr) (p11 : Nat) (p12 : Nat) (p13 : Option Addr) (p14 : Nat) (p15 : Nat) (p16 : Int) (p17 : Option Addr) (p18 : Nat) (p19 : Nat) (p20 : Int) : List Value := ([(.slice p0 p1 p2), (.slice p3 p4 p5), (.slice p6 p7 p8), (.int .u64 p9), (.slice p10 p11 p12), (.slice p13 p14 p15), (.int .i64 p16), (.slice p17 p18 p19), (.int .u64 p20)] : List Value)
abbrev kLogged12_1 (p0 : Nat) (p1 : List Signed) : Ck := mapC p0 signedV (Value.int .i64) (marks p1)
abbrev kLogged12_4 (p0 : Nat) : List Value := ([(.map (some p0))] : List Value)
abbrev kLogged12_5 (p0 : Int) (p1 : Nat) (p2 : Nat) (p3 : Int) (p4 : Option Addr) (p5 : Nat) (p6 : Nat) (p7 : Option Addr) (p8 : Nat) (p9 : Nat) : List Value := ([(.int .i64 p0), (.int .i64 (3)), (pt p1 0), (pt p2 0), (.int .i64 p0), (.int .i64 (3)), (.int .i64 (4)), (.int .u64 p3), (.slice p4 p5 p6), (.slice p7 p8 p9)] : List Value)
abbrev kLogged12_6 : List Value := ([(.int .i64 (0)), (.int .i64 (0)), (.pointer none), (.pointer none), (.int .i64 (0)), (.int .i64 (0)), (.int .i64 (0)), (.int .u64 (0)), (.slice none 0 0), (.slice none 0 0)] : List Value)
abbrev kLogged12_7 (p0 : Option Addr) (p1 : List Signed) (p2 : Nat) : Ck := rowC 181 2 (.slice p0 p1.length p2) p1.length (p1.flatMap encS)
abbrev kLogged12_8 (p0 : Option Addr) (p1 : List PrR) (p2 : Nat) : Ck := rowC 71 6 (.slice p0 p1.length p2) p1.length (p1.flatMap encPr)
abbrev kLogged12_9 (p0 : Option Addr) (p1 : List OpR) (p2 : Nat) : Ck := rowC 86 34 (.slice p0 p1.length p2) p1.length (p1.flatMap encOp)
abbrev kLogged12_10 (p0 : Option Addr) (p1 : List TbR) (p2 : Nat) : Ck := rowC 89 2 (.slice p0 p1.length p2) p1.length (p1.flatMap encTb)
abbrev kLogged12_11 (p0 : Int) (p1 : Option Addr) (p2 : Nat) (p3 : Nat) (p4 : Option Addr) (p5 : Nat) (p6 : Nat) (p7 : Option Addr) (p8 : Nat) (p9 : Nat) : List Value := ([(.int .i64 (4)), (.int .u64 p0), (.slice p1 p2 p3), (.slice p4 p5 p6), (.slice p7 p8 p9)] : List Value)
abbrev kLogged12_12 : List Value := ([(.int .i64 (0)), (.int .u64 (0)), (.slice none 0 0), (.slice none 0 0), (.slice none 0 0)] : List Value)
abbrev kLogged12_13 (p0 : CommitD) (p1 : CeR) (p2 : Nat) : List Value := ([(.int .i64 p0.cl), (.int .i64 p0.seq)] : List Value) ++ hc p0.h ++ ([(.int .i64 p0.len), (.int .i64 p0.sb), (.int .i64 p0.sm), (.slice p1.sa p2 p1.sc)] : List Value)
abbrev kLogged12_14 : List Value := ([(.int .i64 (0)), (.int .i64 (0))] : List Value) ++ hc hash0 ++ ([(.int .i64 (0)), (.int .i64 (0)), (.int .i64 (0)), (.slice none 0 0)] : List Value)
abbrev kLogged12_15 (p0 : Int) (p1 : Int) : List Value := ([(.int .i64 p0), (.int .i64 p1)] : List Value)
abbrev kLogged12_16 (p0 : Option Addr) (p1 : List EntD) (p2 : Nat) : Ck := rowC 63 35 (.slice p0 p1.length p2) p1.length (p1.flatMap encEn)
theorem PrOk.now {w0 w : World} {G : List Ck} {p : PrR} (h : PrOk w0 p) (H : Sat w0 G w) (j : Nat) (hj : G[j]? = some (restC w0 fun _ => False)) : PrOk w p := ⟨ListAt.now H j hj h.1, fun c hc => ListAt.now H j hj (h.2 c hc)⟩
theorem logged12_walk (w : World) (na ta ha oa ba lla : Option Addr) (nc tc hc_ oc bc llc : Nat) (N LL : List NmD) (TT : List TmR) (HH OO BB : List Int) (ptm psk pl : Int) (hN : ListAt encNm 2 w (.slice na N.length nc) N) (hTT : ListAt encTm 1 w (.slice ta TT.length tc) TT) (hHH : ListAt encJ 1 w (.slice ha HH.length hc_) HH) (hOO : ListAt encJ 1 w (.slice oa OO.length oc) OO) (hBB : ListAt encJ 1 w (.slice ba BB.length bc) BB) (hLL : ListAt encNm 2 w (.slice lla LL.length llc) LL) (htt : ∀ x ∈ TT, TmOk w x) (hptm : 0 ≤ ptm ∧ ptm ≤ 18446744073709551615) (hpl : 0 ≤ pl ∧ pl ≤ 18446744073709551615) (f : Int) :
  Calls Tryz.prog 6 #[(.agg ⟨([(.slice na N.length nc), (.slice ta TT.length tc), (.slice ha HH.length hc_), (.int .u64 (ptm)), (.slice oa OO.length oc), (.slice ba BB.length bc), (.int .i64 (psk)), (.slice lla LL.length llc), (.int .u64 (pl))] : List Value)⟩), (.int .i64 (f))] w fun e w' => e = .returned (.bool true) ∧ Upd [] w w' := by
 have hwf := within_lim f 2 (by omega)
 have H := Sat.start0 w
 refine calls_fr Tryz.func6 rfl 123 rfl (Nat.le_of_ble_eq_true rfl) ?_
 refine zsl <| zwd fun Kq kq => zdb (kLogged12_0 na N.length nc ta TT.length tc ha HH.length hc_ ptm oa OO.length oc ba BB.length bc psk lla LL.length llc pl) H fun b2 w3 H4 => ?_
 refine kq _ _ <| wv 4 (.bool false) <| znsl <| zwN 21 (kLogged12_0 na N.length nc ta TT.length tc ha HH.length hc_ ptm oa OO.length oc ba BB.length bc psk lla LL.length llc pl) (H4.at 1 rfl) <| wv 22 (.int .i64 (f)) <| zwd fun Kq kq => zdc 23 (begin_any w3 (.slice na N.length nc) (.slice ta TT.length tc) (.slice ha HH.length hc_) (.slice oa OO.length oc) (.slice ba BB.length bc) ptm psk pl (by first | decide | omega) lla llc LL ((ListAt.now H4 0 rfl hLL)) f) ?_
 rintro _ w6 ⟨b7, m8, r9, a10, c11, a12, c13, rfl, k14, p15, q16⟩
 have H17 := H4.addU p15 k14 q16
 have H18 := H17.open 2 rfl
 refine ⟨_, rfl, ?_⟩
 refine kq _ _ <| wv 20 (.tuple #[(.agg ⟨(kLogged12_5 (1 + withinV f 2) b7 r9 (pl % 20) a10 ((namesN 3 ++ (LL.take 3).map smallN).length) c11 a12 ((spotsN 3).length) c13)⟩), (.bool true)]) <| wv 24 (.agg ⟨(kLogged12_5 (1 + withinV f 2) b7 r9 (pl % 20) a10 ((namesN 3 ++ (LL.take 3).map smallN).length) c11 a12 ((spotsN 3).length) c13)⟩) <| wv 25 (.bool true) <| zwd fun Kq kq => zda (kLogged12_6) H18 fun b20 w21 H22 => ?_
 refine kq _ _ <| zwd fun Kq kq => zds1 (kLogged12_5 (1 + withinV f 2) b7 r9 (pl % 20) a10 ((namesN 3 ++ (LL.take 3).map smallN).length) c11 a12 ((spotsN 3).length) c13) H22 7 fun w24 H25 => ?_
 refine kq _ _ <| wv 6 (.bool true) <| znt <| w_seq <| w_seq ?_
 obtain ⟨F, hFe⟩ : ∃ F, F = 1 + withinV f 2 := ⟨_, rfl⟩
 have hF : 1 ≤ F ∧ F ≤ 2 := by omega
 obtain ⟨la, hlae⟩ : ∃ la, la = pl % 20 := ⟨_, rfl⟩
 have hla2 : 0 ≤ la ∧ la < 20 := by omega
 obtain ⟨tm, htm⟩ : ∃ tm, tm = la + 1 + ptm % 60 := ⟨_, rfl⟩
 have htm2 : la < tm ∧ tm ≤ la + 60 := by omega
 have H27 : Sat w [restC w (fun _ => False), cellC b2 27 ([(.slice na N.length nc), (.slice ta TT.length tc), (.slice ha HH.length hc_), (.int .u64 (ptm)), (.slice oa OO.length oc), (.slice ba BB.length bc), (.int .i64 (psk)), (.slice lla LL.length llc), (.int .u64 (pl))] : List Value), cellC b7 179 ([(.map (some m8))] : List Value), mapC m8 signedV (Value.int .i64) (marks ([] : List Signed)), cellC r9 165 ([(.slice none 0 0)] : List Value), rowC 59 2 (.slice a10 ((namesN 3 ++ (LL.take 3).map smallN).length) c11) ((namesN 3 ++ (LL.take 3).map smallN).length) ((namesN 3 ++ (LL.take 3).map smallN).flatMap encNm), rowC 102 36 (.slice a12 ((spotsN 3).length) c13) ((spotsN 3).length) ((spotsN 3).flatMap encSp), cellC b20 38 ([(.int .i64 (F)), (.int .i64 (3)), (pt b7 0), (pt r9 0), (.int .i64 (F)), (.int .i64 (3)), (.int .i64 (4)), (.int .u64 (la)), (.slice a10 ((namesN 3 ++ (LL.take 3).map smallN).length) c11), (.slice a12 ((spotsN 3).length) c13)] : List Value)] w24 := by rw [hFe, hlae]; exact H25
 obtain ⟨LG, hLG⟩ : ∃ LG : List NmD, LG = (namesN 3 ++ (LL.take 3).map smallN) := ⟨_, rfl⟩
 have lgl : LG.length ≤ 6 := by rw [hLG, List.length_append, namesN_len, List.length_map, List.length_take]; omega
 have H28 : Sat w [restC w (fun _ => False), cellC b2 27 ([(.slice na N.length nc), (.slice ta TT.length tc), (.slice ha HH.length hc_), (.int .u64 (ptm)), (.slice oa OO.length oc), (.slice ba BB.length bc), (.int .i64 (psk)), (.slice lla LL.length llc), (.int .u64 (pl))] : List Value), cellC b7 179 ([(.map (some m8))] : List Value), mapC m8 signedV (Value.int .i64) (marks ([] : List Signed)), cellC r9 165 ([(.slice none 0 0)] : List Value), rowC 59 2 (.slice a10 LG.length c11) LG.length (LG.flatMap encNm), rowC 102 36 (.slice a12 ((spotsN 3).length) c13) ((spotsN 3).length) ((spotsN 3).flatMap encSp), cellC b20 38 ([(.int .i64 (F)), (.int .i64 (3)), (pt b7 0), (pt r9 0), (.int .i64 (F)), (.int .i64 (3)), (.int .i64 (4)), (.int .u64 (la)), (.slice a10 LG.length c11), (.slice a12 ((spotsN 3).length) c13)] : List Value)] w24 := by rw [hLG]; exact H27
 refine w_lit <| wv 26 (.bool true) <| wv 27 (.bool false) <| znt <| wp_iff rfl ?_
 refine w_skip <| ztn <| zsl <| zwN 29 (kLogged12_5 F b7 r9 la a10 LG.length c11 a12 ((spotsN 3).length) c13) (H28.at 7 rfl) <| zwN 30 (kLogged12_0 na N.length nc ta TT.length tc ha HH.length hc_ ptm oa OO.length oc ba BB.length bc psk lla LL.length llc pl) (H28.at 1 rfl) <| zwd fun Kq kq => ?_
 have H30 := H28.addNil 181 2
 refine zdc 31 (wParts_any w24 F la hF hla2 b7 m8 r9 none 0 [] (H30.fn [2, 3, 4, 8]) List.nodup_nil (by decide) (.slice a10 LG.length c11) (.slice a12 ((spotsN 3).length) c13) (.slice lla LL.length llc) ptm psk pl hptm na nc N (ListAt.now H30 0 rfl hN) (list_offS encNm_len (by decide) H30 [2, 3, 4, 8] 0 rfl rfl (by decide) hN) ta tc TT (ListAt.now H30 0 rfl hTT) (list_offS encTm_len (by decide) H30 [2, 3, 4, 8] 0 rfl rfl (by decide) hTT) ha hc_ HH (ListAt.now H30 0 rfl hHH) (list_offS encJ_len (by decide) H30 [2, 3, 4, 8] 0 rfl rfl (by decide) hHH) oa oc OO (ListAt.now H30 0 rfl hOO) (list_offS encJ_len (by decide) H30 [2, 3, 4, 8] 0 rfl rfl (by decide) hOO) ba bc BB (ListAt.now H30 0 rfl hBB) (list_offS encJ_len (by decide) H30 [2, 3, 4, 8] 0 rfl rfl (by decide) hBB) (fun x hx => ⟨ListAt.now H30 0 rfl (htt x hx).1, (htt x hx).2⟩) (fun x hx => (list_offS encU_len (by decide) H30 [2, 3, 4, 8] 0 rfl rfl (by decide) (htt x hx).1))) ?_
 rintro _ w31 ⟨a32, c33, PS34, a35, c36, OS37, a38, c39, TS40, a41, c42, LB43, BG44, rfl, hps45, hos46, l47, hts48, l49, hnd50, l51, p52, T53⟩
 rw [← htm] at hps45 ⊢
 have H54 := H30.tl [cellC b7 179 (kLogged12_4 m8), (kLogged12_1 m8 LB43), cellC r9 165 ([(.slice a41 LB43.length c42)] : List Value), (kLogged12_7 a41 LB43 c42), (kLogged12_8 a32 PS34 c33), (kLogged12_9 a35 OS37 c36), (kLogged12_10 a38 TS40 c39), bagC BG44] [2, 3, 4, 8] [0, 1, 5, 6, 7] T53 [8, 9, 0, 1, 2, 10, 11, 12, 3, 4, 5, 6, 7]
 refine ⟨_, rfl, ?_⟩
 have hPSl := hps45.len hF.1
 refine kq _ _ <| wv 28 (.tuple #[(.int .u64 (tm)), (.slice a32 PS34.length c33), (.slice a35 OS37.length c36), (.slice a38 TS40.length c39)]) <| wv 32 (.int .u64 (tm)) <| wv 33 (.slice a32 PS34.length c33) <| wv 34 (.slice a35 OS37.length c36) <| wv 35 (.slice a38 TS40.length c39) <| wv 7 (.int .u64 (tm)) <| wv 8 (.slice a32 PS34.length c33) <| wv 9 (.slice a35 OS37.length c36) <| wv 10 (.slice a38 TS40.length c39) ?_
 refine znsl <| zwN 37 (kLogged12_5 F b7 r9 la a10 LG.length c11 a12 ((spotsN 3).length) c13) (H54.at 7 rfl) <| zwd fun Kq kq => zdc 38 (wOwn_any w31 b7 r9 F (3 : Int) F (3 : Int) (4 : Int) la a10 c11 LG (ListAt.row (enc := encNm) (sz := 2) encNm_len (by decide) (H54.at 5 rfl)) a12 c13 (spotsN 3) (ListAt.row (enc := encSp) (sz := 36) encSp_len (by decide) (H54.at 6 rfl)) (by have q := lgl; omega) (by decide)) ?_
 rintro _ w56 ⟨m57, o58, rfl, k59, u60, f61⟩
 have H62 := H54.addU u60 k59 f61
 have H63 := H62.open 13 rfl
 refine ⟨_, rfl, ?_⟩
 refine kq _ _ <| wv 39 (.int .u64 (tm)) <| wv 40 (.slice a32 PS34.length c33) <| zwd fun Kq kq => zdc 41 (make_any w56 F (3 : Int) (4 : Int) tm la (by omega) (.map (some m57)) o58 (openM (spotsN 3)) (H63.at 14 rfl) open3 a32 c33 PS34 (ListAt.row (enc := encPr) (sz := 6) encPr_len (by decide) (H63.at 9 rfl)) (by omega) (fun p hp => (hps45.all p hp).prk (H63.at 12 rfl)) (hps45.lim hF) none 0 [] ListAt.nil (by decide) (by simp) (by decide) none 0 [] ListAt.nil (by decide) (by simp) (fun X => by simp [firstN])) ?_
 rintro _ w65 ⟨DP66, hDP67, ⟨hlt96, rfl, T97⟩ | ⟨Q68, hQ69, DO70, X71, DT72, xa73, xc74, PD75, ya76, yc77, OD78, za79, zc80, TD81, B82, hSO83, hHv84, hST85, hQl86, rfl, hcP87, hcO88, hcT89, hpin90, hoin91, htin92, hok93, hu94, hfr95⟩⟩
 ·exact absurd hlt96 (by rw [hps45.dp hDP67]; have q := hps45.len hF.1; omega)
 have H98 := H63.addU hu94 hok93 hfr95
 have H99 := H98.open 15 rfl
 refine ⟨_, rfl, ?_⟩
 refine kq _ _ <| wv 36 (.tuple #[(.agg ⟨(kLogged12_11 tm xa73 PD75.length xc74 ya76 OD78.length yc77 za79 TD81.length zc80)⟩), (.int .i64 (0))]) <| wv 42 (.agg ⟨(kLogged12_11 tm xa73 PD75.length xc74 ya76 OD78.length yc77 za79 TD81.length zc80)⟩) <| wv 43 (.int .i64 (0)) <| zwd fun Kq kq => zda (kLogged12_12) H99 fun b101 w102 H103 => ?_
 refine kq _ _ <| zwd fun Kq kq => zds1 (kLogged12_11 tm xa73 PD75.length xc74 ya76 OD78.length yc77 za79 TD81.length zc80) H103 19 fun w105 H106 => ?_
 refine kq _ _ <| wv 12 (.int .i64 (0)) <| znt <| w_seq <| zsl <| wv 44 (.int .i64 (0)) <| wv 45 (.bool false) <| znt <| wp_iff rfl ?_
 refine w_skip <| ztn <| w_seq ?_
 have hU1 : Upd [] w w105 := H106.upd 0 rfl [] (fun _ h => h.elim)
 have hval := made_val hps45 (Q := Q68) (by have q := hcP87; rw [hps45.dp hDP67] at q; exact q)
 obtain ⟨P, hPe⟩ : ∃ P, P = PD75 := ⟨_, rfl⟩
 have hP : ListAt encPr 6 w105 (.slice xa73 P.length xc74) P := by rw [hPe]; exact ListAt.row encPr_len (by decide) (H106.at 15 rfl)
 have hPo : ∀ i, i < P.length → PrOk w105 (P.getD i pr0) := fun i hi => (hpin90 _ (by rw [← hPe]; exact getD_memP hi)).ok (H106.at 18 rfl)
 have hvP : ∀ p ∈ P, PrV F la tm LB43 p := by rw [hPe]; exact hval
 have hsm := PrV.sms hvP
 have hlPQ : P.length = Q68 := by rw [hPe]; have q := map_len hcP87; rw [List.length_take] at q; omega
 have hlP : P.length ≤ 1000 := by omega
 have hlC : ∀ i, i < P.length → (P.getD i pr0).C.length ≤ 1000 := fun i hi => Nat.le_trans (hvP _ (getD_memP hi)).len (by decide)
 have hLGa : ListAt encNm 2 w105 (.slice a10 LG.length c11) LG := ListAt.row encNm_len (by decide) (H106.at 5 rfl)
 have hSPa : ListAt encSp 36 w105 (.slice a12 (spotsN 3).length c13) (spotsN 3) := ListAt.row encSp_len (by decide) (H106.at 6 rfl)
 have hk108 := H106.at 1 rfl
 have hk109 := H106.at 7 rfl
 have hk110 := H106.at 19 rfl
 rw [← hPe] at hk110
 have HK := Sat.start0 w105
 have hint : ∀ c ∈ P.flatMap (·.C), la < timeD c.S ∧ timeD c.S ≤ tm := fun c hc => by
  obtain ⟨p, hp, hc⟩ := List.mem_flatMap.1 hc
  exact ((hvP p hp).ce c hc).time
 refine w_lit <| zwd fun Kq kq => d_makeMap nmV Value.bool rfl HK fun b112 w113 H114 => ?_
 refine kq _ _ <| zwd fun Kq kq => d_makeMap nmV Value.bool rfl H114 fun b116 w117 H118 => ?_
 refine kq _ _ <| wv 13 (.map (some b112)) <| wv 14 (.map (some b116)) <| znt <| w_seq <| zsl <| wv 48 (pt b101 2) <| zw1 49 (.slice xa73 P.length xc74) (H118.roCell 0 rfl hk110 (fun h => h) rfl) <| wv 50 (.int .i64 ((P.length : Int))) <| wv 51 (.int .i64 (0)) ?_
 refine znt <| w_block <| wp_round ([15, 17] ++ List.range' 51 24) (fun F_ W_ m_ => ∃ (i : Nat) (M : List (NmD × Bool)), F_ 51 = (.int .i64 ((i : Int))) ∧ (i ≤ P.length) ∧ (M = nmM ((P.take i).flatMap (·.C))) ∧ Sat w105 [restC w105 (fun _ => False), mapC b112 nmV Value.bool M, mapC b116 nmV Value.bool M] W_ ∧ m_ = P.length - i) _ ⟨0, [], (show ((.int .i64 (0)) : Value) = _ by first | rfl | go_num), (Nat.zero_le _), rfl, H118, rfl⟩ ?_
 rintro g119 w120 _ ⟨i, M, v122, hi, hM, H121, rfl⟩
 refine wp_know 51 _ v122 ?_
 refine zsl <| wv 52 (.bool (decide ((i : Int) < (P.length : Int)))) <| znt <| w_seq ?_
 refine (bsplit (decide ((i : Int) < (P.length : Int)))).elim (fun b124 => ?_) (fun b124 => ?_)
 ·have g125 := of_decide_eq_true b124
  refine zwkt _ b124 ?_
  refine w_skip <| ztn <| w_seq <| w_block <| zsl <| wv 53 (.int .i64 ((i : Int))) <| wv 15 (.int .i64 ((i : Int))) <| znsl <| wv 54 (pt b101 2) <| zw1 55 (.slice xa73 P.length xc74) (H121.roCell 0 rfl hk110 (fun h => h) rfl) ?_
  refine wv 56 (.int .i64 ((i : Int))) ?_
  obtain ⟨g127, o128, c129, e130, R131⟩ := SliceOf.atD hP pr0 (show i < P.length by omega)
  refine wv 57 (.pointer (some ⟨g127, o128 + ((i : Int)).toNat * 6, none⟩)) ?_ (hr := e_indexAddrW (E := 71) (by kernel_rfl) (by kernel_rfl) (Nat.le_of_ble_eq_true rfl) rfl e130 rfl (by omega) (by omega))
  refine wv 58 (.pointer (some ⟨g127, o128 + ((i : Int)).toNat * 6 + 3, none⟩)) <| zw1 59 (.slice (P.getD i pr0).ca ((P.getD i pr0).C).length (P.getD i pr0).cc) (H121.cellR 0 rfl (cells_at R131 3 (by kernel_rfl) (show o128 + ((i : Int)).toNat * 6 + 3 = o128 + i * 6 + 3 by omega)) (fun h => h)) <| wv 60 (.int .i64 ((((P.getD i pr0).C).length : Int))) <| wv 61 (.int .i64 (0)) <| znt <| w_block ?_
  have hlCi := hlC i (by omega)
  refine wp_round ([17] ++ List.range' 61 13) (fun F_ W_ m_ => ∃ (k : Nat) (M2 : List (NmD × Bool)), F_ 61 = (.int .i64 ((k : Int))) ∧ (k ≤ (P.getD i pr0).C.length) ∧ (M2 = nmM ((P.take i).flatMap (·.C) ++ (P.getD i pr0).C.take k)) ∧ Sat w105 [restC w105 (fun _ => False), mapC b112 nmV Value.bool M2, mapC b116 nmV Value.bool M2] W_ ∧ m_ = (P.getD i pr0).C.length - k) _ ⟨0, M, (show ((.int .i64 (0)) : Value) = _ by first | rfl | go_num), (Nat.zero_le _), (by rw [hM, List.take_zero, List.append_nil]), H121, rfl⟩ ?_
  rintro g132 w133 _ ⟨k, M2, v135, hk, hM2, H134, rfl⟩
  refine wp_know 61 _ v135 ?_
  refine zsl <| wv 62 (.bool (decide ((k : Int) < (((P.getD i pr0).C).length : Int)))) <| znt <| w_seq ?_
  refine (bsplit (decide ((k : Int) < (((P.getD i pr0).C).length : Int)))).elim (fun b137 => ?_) (fun b137 => ?_)
  ·have g138 := of_decide_eq_true b137
   refine zwkt _ b137 ?_
   refine w_skip <| ztn <| w_seq <| w_block <| zsl ?_
   obtain ⟨g140, o141, c142, e143, R144⟩ := SliceOf.atD (hPo i (by omega)).1 ce0 (show k < ((P.getD i pr0).C).length by omega)
   refine wv 63 (.pointer (some ⟨g140, o141 + ((k : Int)).toNat * 38, none⟩)) ?_ (hr := e_indexAddrW (E := 76) (by kernel_rfl) (by kernel_rfl) (Nat.le_of_ble_eq_true rfl) rfl e143 rfl (by omega) (by omega))
   refine wv 64 (.agg ⟨(kLogged12_13 ((((P.getD i pr0).C).getD k ce0).x) (((P.getD i pr0).C).getD k ce0) (((((P.getD i pr0).C).getD k ce0).S).length))⟩) ?_ (hr := e_loadRun (vs := (kLogged12_13 ((((P.getD i pr0).C).getD k ce0).x) (((P.getD i pr0).C).getD k ce0) (((((P.getD i pr0).C).getD k ce0).S).length))) rfl (by kernel_rfl) (by kernel_rfl) (Nat.le_of_ble_eq_true (by kernel_rfl)) (H134.runR 0 rfl (cells_run R144 0 (by kernel_rfl) (show o141 + ((k : Int)).toNat * 38 = o141 + k * 38 + 0 by omega)) (fun h => h)))
   refine zwd fun Kq kq => zda (kLogged12_14) H134 fun b146 w147 H148 => ?_
   refine kq _ _ <| zwd fun Kq kq => zds1 (kLogged12_13 ((((P.getD i pr0).C).getD k ce0).x) (((P.getD i pr0).C).getD k ce0) (((((P.getD i pr0).C).getD k ce0).S).length)) H148 3 fun w150 H151 => ?_
   refine kq _ _ <| znsl <| wv 65 (.map (some b112)) <| wv 66 (pt b146 0) <| wv 67 (pt b146 0) <| zwN 68 (kLogged12_15 ((((P.getD i pr0).C).getD k ce0).x.cl) ((((P.getD i pr0).C).getD k ce0).x.seq)) (H151.at 3 rfl) <| zwd fun Kq kq => d_mapUpdate (kt := 59) (et := 4) rfl H151 1 rfl nmK (by kernel_rfl) rfl (⟨(((P.getD i pr0).C).getD k ce0).x.cl, (((P.getD i pr0).C).getD k ce0).x.seq⟩ : NmD) rfl true rfl fun w154 H155 => ?_
   refine kq _ _ <| znt <| w_lit <| wv 69 (.map (some b116)) <| wv 70 (pt b146 0) <| wv 71 (pt b146 0) <| zwN 72 (kLogged12_15 ((((P.getD i pr0).C).getD k ce0).x.cl) ((((P.getD i pr0).C).getD k ce0).x.seq)) (H155.at 3 rfl) <| zwd fun Kq kq => d_mapUpdate (kt := 59) (et := 4) rfl H155 2 rfl nmK (by kernel_rfl) rfl (⟨(((P.getD i pr0).C).getD k ce0).x.cl, (((P.getD i pr0).C).getD k ce0).x.seq⟩ : NmD) rfl true rfl fun w157 H158 => ?_
   refine kq _ _ <| w_nil <| blk_normal <| ztn <| w_lit <| zwi 73 ((k : Int) + 1) <| wv 61 (.int .i64 ((k : Int) + 1)) <| w_nil ?_
   have H159 := H158.pk [0, 1, 2]
   refine round_back ?_ _ ⟨(k + 1), (putM M2 (⟨(((P.getD i pr0).C).getD k ce0).x.cl, (((P.getD i pr0).C).getD k ce0).x.seq⟩ : NmD) true), rfl, (by omega), (nmM_more hM2 (by omega)), H159, rfl⟩ (by omega)
   exact zs
  have g160 := of_decide_eq_false b137
  refine zwkf _ b137 ?_
  refine zxb <| blk_normal <| ztn <| w_lit <| zwi 74 ((i : Int) + 1) <| wv 51 (.int .i64 ((i : Int) + 1)) <| w_nil <| round_back ?_ _ ⟨(i + 1), M2, rfl, (by omega), (by rw [pre_succ (by omega), hM2, List.take_of_length_le (l := (P.getD i pr0).C) (by omega)]), H134, rfl⟩ (by omega)
  exact zs
 have g162 := of_decide_eq_false b124
 refine zwkf _ b124 ?_
 refine zxb <| ztn <| w_seq ?_
 have hMf : M = nmM (P.flatMap (·.C)) := by rw [hM, List.take_of_length_le (by omega)]
 refine w_lit <| wv 75 (pt b20 4) <| wv 76 (pt b20 7) <| zw1 77 (.int .u64 (la)) (H121.roCell 0 rfl hk109 (fun h => h) rfl) <| zwN 78 (kLogged12_11 tm xa73 P.length xc74 ya76 OD78.length yc77 za79 TD81.length zc80) (H121.roCells 0 rfl hk110 (fun h => h)) <| zwd fun Kq kq => zdc 79 (wEntries_any w120 la tm (4 : Int) ((.slice ya76 OD78.length yc77)) ((.slice za79 TD81.length zc80)) (.map none) [] (.inr ⟨rfl, rfl⟩) xa73 xc74 P (ListAt.now H121 0 rfl hP) (fun i hi => (hPo i hi).now H121 0 rfl) hsm (by omega) (fun i hi => hlC i hi)) ?_
 rintro _ w165 ⟨a166, c167, O168, rfl, p169, s170, k171, u172, f173⟩
 have H174 := H121.addU u172 k171 f173
 have hlO168 := out_lim hsm.all p169
 refine ⟨_, rfl, ?_⟩
 refine kq _ _ <| wv 18 (.slice a166 O168.length c167) <| znt <| w_seq <| w_seq ?_
 have hsk : ∀ c ∈ P.flatMap (·.C), skipE la tm (lgM []) (entOf c) = false := fun c hc => by
  have q := hint c hc
  exact skip0 rfl (decide_eq_false (by omega)) (decide_eq_false (by omega)) rfl
 have hdue0 : DueI O168 0 M := by rw [hMf]; exact DueI.start hsm.all p169 hsk
 have hlenM : O168.length = M.length := by rw [hMf]; exact DueI.len hsm.all p169 hsk
 refine w_lit <| wv 80 (.slice a166 O168.length c167) <| wv 81 (.int .i64 ((O168.length : Int))) <| wv 82 (.int .i64 (0)) <| znt <| w_block <| wp_round ([4, 19] ++ List.range' 82 18) (fun F_ W_ m_ => ∃ (j : Nat) (X : List (NmD × Bool)), F_ 82 = (.int .i64 ((j : Int))) ∧ (j ≤ O168.length) ∧ (DueI O168 j X) ∧ Sat w105 [restC w105 (fun _ => False), mapC b112 nmV Value.bool M, mapC b116 nmV Value.bool X, (kLogged12_16 a166 O168 c167)] W_ ∧ m_ = O168.length - j) _ ⟨0, M, (show ((.int .i64 (0)) : Value) = _ by first | rfl | go_num), (Nat.zero_le _), hdue0, H174, rfl⟩ ?_
 rintro g175 w176 _ ⟨j, X, v178, hj, hX, H177, rfl⟩
 refine wp_know 82 _ v178 ?_
 refine zsl <| wv 83 (.bool (decide ((j : Int) < (O168.length : Int)))) <| znt <| w_seq ?_
 refine (bsplit (decide ((j : Int) < (O168.length : Int)))).elim (fun b180 => ?_) (fun b180 => ?_)
 ·have g181 := of_decide_eq_true b180
  refine zwkt _ b180 ?_
  refine w_skip <| ztn <| w_seq <| w_block <| zsl <| wv 84 (.int .i64 ((j : Int))) <| wv 19 (.int .i64 ((j : Int))) <| znt <| w_seq <| zsl ?_
  refine wv 85 (.map (some b116)) <| wv 86 (.slice a166 O168.length c167) <| wv 87 (.int .i64 ((j : Int))) ?_
  obtain ⟨g183, c184, e185⟩ := row_shape (H177.at 3 rfl) (by omega)
  obtain ⟨x186, h187⟩ := get_at (show j < O168.length by omega)
  refine wv 88 (.pointer (some ⟨g183, 0 + ((j : Int)).toNat * 35, none⟩)) ?_ (hr := e_indexAddrV (E := 63) (by kernel_rfl) (by kernel_rfl) (Nat.le_of_ble_eq_true rfl) rfl e185 rfl (by omega) (by omega))
  refine wv 89 (.pointer (some ⟨g183, 0 + ((j : Int)).toNat * 35, none⟩)) <| wv 90 (.agg ⟨(kLogged12_15 x186.cl x186.sq)⟩) ?_ (hr := e_loadRun (vs := (kLogged12_15 x186.cl x186.sq)) rfl (by kernel_rfl) (by kernel_rfl) (Nat.le_of_ble_eq_true (by kernel_rfl)) (rows_run (H177.at 3 rfl) e185 encEn_len h187 0 (show 0 + ((j : Int)).toNat * 35 = j * 35 + 0 by omega) (by kernel_rfl) (by kernel_rfl)))
  refine wv 91 (.bool ((lookM X (⟨x186.cl, x186.sq⟩ : NmD)).getD false)) ?_ (hr := e_lookup (kt := 59) (et := 4) nmK (by kernel_rfl) (fun w => by kernel_rfl) rfl (⟨x186.cl, x186.sq⟩ : NmD) rfl (H177.at 2 rfl) (optD Value.bool _ _))
  refine wv 92 (.bool (!((lookM X (⟨x186.cl, x186.sq⟩ : NmD)).getD false))) <| znt ?_
  have b188 : (!((lookM X (⟨x186.cl, x186.sq⟩ : NmD)).getD false)) = false := by exact congrArg Bool.not (hX.has h187)
  have g189 := bnot_false b188
  refine zwkf _ b188 ?_
  refine w_skip <| ztn <| w_lit <| wv 93 (.map (some b116)) <| wv 94 (.slice a166 O168.length c167) <| wv 95 (.int .i64 ((j : Int))) <| wv 96 (.pointer (some ⟨g183, 0 + ((j : Int)).toNat * 35, none⟩)) ?_ (hr := e_indexAddrV (E := 63) (by kernel_rfl) (by kernel_rfl) (Nat.le_of_ble_eq_true rfl) rfl e185 rfl (by omega) (by omega))
  refine wv 97 (.pointer (some ⟨g183, 0 + ((j : Int)).toNat * 35, none⟩)) <| wv 98 (.agg ⟨(kLogged12_15 x186.cl x186.sq)⟩) ?_ (hr := e_loadRun (vs := (kLogged12_15 x186.cl x186.sq)) rfl (by kernel_rfl) (by kernel_rfl) (Nat.le_of_ble_eq_true (by kernel_rfl)) (rows_run (H177.at 3 rfl) e185 encEn_len h187 0 (show 0 + ((j : Int)).toNat * 35 = j * 35 + 0 by omega) (by kernel_rfl) (by kernel_rfl)))
  refine zwd fun Kq kq => d_delete0 (kt := 59) (et := 4) rfl H177 2 rfl nmK (by kernel_rfl) rfl (⟨x186.cl, x186.sq⟩ : NmD) rfl fun w191 H192 => ?_
  refine kq _ _ <| w_nil <| blk_normal <| ztn <| w_lit <| zwi 99 ((j : Int) + 1) <| wv 82 (.int .i64 ((j : Int) + 1)) <| w_nil <| round_back ?_ _ ⟨(j + 1), (delM X (⟨x186.cl, x186.sq⟩ : NmD)), rfl, (by omega), (hX.del h187), H192, rfl⟩ (by omega)
  exact zs
 have g193 := of_decide_eq_false b180
 refine zwkf _ b180 ?_
 refine zxb <| ztn <| w_seq ?_
 have hX0 := hX.end (by omega)
 refine w_lit <| wv 100 (pt b20 4) <| wv 101 (pt b20 7) <| zw1 102 (.int .u64 (la)) (H177.roCell 0 rfl hk109 (fun h => h) rfl) <| wv 103 (.map (some b112)) <| zwN 104 (kLogged12_11 tm xa73 P.length xc74 ya76 OD78.length yc77 za79 TD81.length zc80) (H177.roCells 0 rfl hk110 (fun h => h)) <| zwd fun Kq kq => zdc 105 (wEntries_any w176 la tm (4 : Int) ((.slice ya76 OD78.length yc77)) ((.slice za79 TD81.length zc80)) (.map (some b112)) M (.inl ⟨_, rfl, (H177.at 1 rfl)⟩) xa73 xc74 P (ListAt.now H177 0 rfl hP) (fun i hi => (hPo i hi).now H177 0 rfl) hsm (by omega) (fun i hi => hlC i hi)) ?_
 rintro _ w196 ⟨a197, c198, O199, rfl, p200, s201, k202, u203, f204⟩
 have H205 := H177.addU u203 k202 f204
 have hlO199 := out_lim hsm.all p200
 refine ⟨_, rfl, ?_⟩
 refine kq _ _ <| wv 106 (.int .i64 ((O199.length : Int))) <| wv 107 (.bool (decide ((O199.length : Int) = 0))) <| wv 108 (.bool (decide ((O199.length : Int) = 0))) ?_
 have b206 : (decide ((O199.length : Int) = 0)) = true := by rw [show O199 = [] from (by have q := p200; rw [hMf, all_logged (fun _ _ => trivial)] at q; exact List.Perm.eq_nil (by simpa using q))]; rfl
 refine wl_know 108 (.bool true) (congrArg Value.bool b206) ?_
 have g207 := of_decide_eq_true b206
 refine wy 8 108 true 109 (.map (some b116)) <| wy 8 108 true 110 (.int .i64 (((X).length : Int))) ?_ (hr := e_len (kt := 59) (et := 4) (by kernel_rfl) (H205.at 2 rfl) rfl)
 refine wy 8 108 true 111 (.bool (decide (((X).length : Int) = 0))) <| wv 112 (.bool (decide (((X).length : Int) = 0))) <| wv 113 (.bool (decide (((X).length : Int) = 0))) ?_
 have b208 : (decide (((X).length : Int) = 0)) = true := by exact decide_eq_true (by omega)
 refine wl_know 113 (.bool true) (congrArg Value.bool b208) ?_
 have g209 := of_decide_eq_true b208
 refine wy 13 113 true 114 (.slice a166 O168.length c167) <| wy 13 113 true 115 (.int .i64 ((O168.length : Int))) <| wy 13 113 true 116 (.map (some b112)) <| wy 13 113 true 117 (.int .i64 (((M).length : Int))) ?_ (hr := e_len (kt := 59) (et := 4) (by kernel_rfl) (H205.at 1 rfl) rfl)
 refine wy 13 113 true 118 (.bool (decide ((O168.length : Int) = ((M).length : Int)))) <| wv 119 (.bool (decide ((O168.length : Int) = ((M).length : Int)))) <| wv 120 (.bool (decide ((O168.length : Int) = ((M).length : Int)))) ?_
 have b210 : (decide ((O168.length : Int) = ((M).length : Int))) = true := by exact decide_eq_true (by omega)
 refine wl_know 120 (.bool true) (congrArg Value.bool b210) ?_
 have g211 := of_decide_eq_true b210
 refine wl_do (wantsY 20 120 true rfl (by kernel_rfl) rfl (by kernel_rfl)) (fun Kq kq => ?_)
 refine zdq 121 (wakes_any w196) H205 ?_
 intro w213 H214
 refine kq _ _ <| wv 122 (.bool true) <| wv 4 (.bool true) <| znt <| w_ret <| ze1 (.bool true) ?_
 exact ⟨rfl, hU1.trans (H214.upd 0 rfl [] (fun _ h => h.elim))⟩
end Go.Proofs.YtenihpghfdcpkaaGreat
