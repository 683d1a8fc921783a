/- WHAT IS PROVED: contracts and plain laws of Union12. Conditions: stated with each. -/
import Derived.Test.YtenihpghfdcpkaaGreatU05
import Derived.Test.YtenihpghfdcpkaaGreatU26
import Derived.Test.YtenihpghfdcpkaaGreatU27
import Derived.Test.YtenihpghfdcpkaaGreatU30
import Derived.Test.YtenihpghfdcpkaaGreatU39
import Derived.Test.YtenihpghfdcpkaaGreatU41
import Derived.Test.YtenihpghfdcpkaaGreatU42
set_option maxHeartbeats 4000000
set_option maxRecDepth 100000
namespace Go.Proofs.YtenihpghfdcpkaaGreat
open Go.RowKit
abbrev kUnion12_0 (p0 : Option Addr) (p1 : Nat) (p2 : Nat) (p3 : Option Addr) (p4 : Nat) (p5 : Nat) (p6 : Option Addr) (p7 : Nat) (p8 : Nat) (p9 : Int) (p10 : Option Addr) (p11 : Nat) (p12 : Nat) (p13 : Option Addr) (p14 : Nat) (p15 : Nat) (p16 : Int) (p17 : Option Addr) (p18 : Nat) (p19 : Nat) (p20 : Int) : List Value := ([(.slice p0 p1 p2), (.slice p3 p4 p5), (.slice p6 p7 p8), (.int .u64 p9), (.slice p10 p11 p12), (.slice p13 p14 p15), (.int .i64 p16), (.slice p17 p18 p19), (.int .u64 p20)] : List Value)
abbrev kUnion12_1 (p0 : Nat) (p1 : List Signed) : Ck := mapC p0 signedV (Value.int .i64) (marks p1)
abbrev kUnion12_4 (p0 : Nat) : List Value := ([(.map (some p0))] : List Value)
abbrev kUnion12_5 (p0 : Int) (p1 : Nat) (p2 : Nat) (p3 : Int) (p4 : Option Addr) (p5 : Nat) (p6 : Nat) (p7 : Option Addr) (p8 : Nat) (p9 : Nat) : List Value := ([(.int .i64 p0), (.int .i64 (3)), (pt p1 0), (pt p2 0), (.int .i64 p0), (.int .i64 (3)), (.int .i64 (4)), (.int .u64 p3), (.slice p4 p5 p6), (.slice p7 p8 p9)] : List Value)
abbrev kUnion12_6 : List Value := ([(.int .i64 (0)), (.int .i64 (0)), (.pointer none), (.pointer none), (.int .i64 (0)), (.int .i64 (0)), (.int .i64 (0)), (.int .u64 (0)), (.slice none 0 0), (.slice none 0 0)] : List Value)
abbrev kUnion12_7 (p0 : Option Addr) (p1 : List Signed) (p2 : Nat) : Ck := rowC 181 2 (.slice p0 p1.length p2) p1.length (p1.flatMap encS)
abbrev kUnion12_8 (p0 : Option Addr) (p1 : List PrR) (p2 : Nat) : Ck := rowC 71 6 (.slice p0 p1.length p2) p1.length (p1.flatMap encPr)
abbrev kUnion12_9 (p0 : Option Addr) (p1 : List OpR) (p2 : Nat) : Ck := rowC 86 34 (.slice p0 p1.length p2) p1.length (p1.flatMap encOp)
abbrev kUnion12_10 (p0 : Option Addr) (p1 : List TbR) (p2 : Nat) : Ck := rowC 89 2 (.slice p0 p1.length p2) p1.length (p1.flatMap encTb)
abbrev kUnion12_11 (p0 : Int) (p1 : Option Addr) (p2 : Nat) (p3 : Nat) (p4 : Option Addr) (p5 : Nat) (p6 : Nat) (p7 : Option Addr) (p8 : Nat) (p9 : Nat) : List Value := ([(.int .i64 (4)), (.int .u64 p0), (.slice p1 p2 p3), (.slice p4 p5 p6), (.slice p7 p8 p9)] : List Value)
abbrev kUnion12_12 : List Value := ([(.int .i64 (0)), (.int .u64 (0)), (.slice none 0 0), (.slice none 0 0), (.slice none 0 0)] : List Value)
abbrev kUnion12_13 (p0 : Option Addr) (p1 : List EntD) (p2 : Nat) : Ck := rowC 63 35 (.slice p0 p1.length p2) p1.length (p1.flatMap encEn)
abbrev kUnion12_14 (p0 : CommitD) (p1 : CeR) (p2 : Nat) : List Value := ([(.int .i64 p0.cl), (.int .i64 p0.seq)] : List Value) ++ hc p0.h ++ ([(.int .i64 p0.len), (.int .i64 p0.sb), (.int .i64 p0.sm), (.slice p1.sa p2 p1.sc)] : List Value)
abbrev kUnion12_15 : List Value := ([(.int .i64 (0)), (.int .i64 (0))] : List Value) ++ hc hash0 ++ ([(.int .i64 (0)), (.int .i64 (0)), (.int .i64 (0)), (.slice none 0 0)] : List Value)
theorem PrOk.now {w0 w : World} {G : List Ck} {p : PrR} (h : PrOk w0 p) (H : Sat w0 G w) (j : Nat) (hj : G[j]? = some (restC w0 fun _ => False)) : PrOk w p := ⟨ListAt.now H j hj h.1, fun c hc => ListAt.now H j hj (h.2 c hc)⟩
theorem union12_walk (w : World) (na ta ha oa ba lla : Option Addr) (nc tc hc_ oc bc llc : Nat) (N LL : List NmD) (TT : List TmR) (HH OO BB : List Int) (ptm psk pl : Int) (hN : ListAt encNm 2 w (.slice na N.length nc) N) (hTT : ListAt encTm 1 w (.slice ta TT.length tc) TT) (hHH : ListAt encJ 1 w (.slice ha HH.length hc_) HH) (hOO : ListAt encJ 1 w (.slice oa OO.length oc) OO) (hBB : ListAt encJ 1 w (.slice ba BB.length bc) BB) (hLL : ListAt encNm 2 w (.slice lla LL.length llc) LL) (htt : ∀ x ∈ TT, TmOk w x) (hptm : 0 ≤ ptm ∧ ptm ≤ 18446744073709551615) (hpl : 0 ≤ pl ∧ pl ≤ 18446744073709551615) (f : Int) :
  Calls Tryz.prog 4 #[(.agg ⟨([(.slice na N.length nc), (.slice ta TT.length tc), (.slice ha HH.length hc_), (.int .u64 (ptm)), (.slice oa OO.length oc), (.slice ba BB.length bc), (.int .i64 (psk)), (.slice lla LL.length llc), (.int .u64 (pl))] : List Value)⟩), (.int .i64 (f))] w fun e w' => e = .returned (.bool true) ∧ Upd [] w w' := by
 have hwf := within_lim f 2 (by omega)
 have H := Sat.start0 w
 refine calls_fr Tryz.func4 rfl 124 rfl (Nat.le_of_ble_eq_true rfl) ?_
 refine zsl <| zwd fun Kq kq => zdb (kUnion12_0 na N.length nc ta TT.length tc ha HH.length hc_ ptm oa OO.length oc ba BB.length bc psk lla LL.length llc pl) H fun b2 w3 H4 => ?_
 refine kq _ _ <| wv 4 (.bool false) <| znsl <| zwN 21 (kUnion12_0 na N.length nc ta TT.length tc ha HH.length hc_ ptm oa OO.length oc ba BB.length bc psk lla LL.length llc pl) (H4.at 1 rfl) <| wv 22 (.int .i64 (f)) <| zwd fun Kq kq => zdc 23 (begin_any w3 (.slice na N.length nc) (.slice ta TT.length tc) (.slice ha HH.length hc_) (.slice oa OO.length oc) (.slice ba BB.length bc) ptm psk pl (by first | decide | omega) lla llc LL ((ListAt.now H4 0 rfl hLL)) f) ?_
 rintro _ w6 ⟨b7, m8, r9, a10, c11, a12, c13, rfl, k14, p15, q16⟩
 have H17 := H4.addU p15 k14 q16
 have H18 := H17.open 2 rfl
 refine ⟨_, rfl, ?_⟩
 refine kq _ _ <| wv 20 (.tuple #[(.agg ⟨(kUnion12_5 (1 + withinV f 2) b7 r9 (pl % 20) a10 ((namesN 3 ++ (LL.take 3).map smallN).length) c11 a12 ((spotsN 3).length) c13)⟩), (.bool true)]) <| wv 24 (.agg ⟨(kUnion12_5 (1 + withinV f 2) b7 r9 (pl % 20) a10 ((namesN 3 ++ (LL.take 3).map smallN).length) c11 a12 ((spotsN 3).length) c13)⟩) <| wv 25 (.bool true) <| zwd fun Kq kq => zda (kUnion12_6) H18 fun b20 w21 H22 => ?_
 refine kq _ _ <| zwd fun Kq kq => zds1 (kUnion12_5 (1 + withinV f 2) b7 r9 (pl % 20) a10 ((namesN 3 ++ (LL.take 3).map smallN).length) c11 a12 ((spotsN 3).length) c13) H22 7 fun w24 H25 => ?_
 refine kq _ _ <| wv 6 (.bool true) <| znt <| w_seq <| w_seq ?_
 obtain ⟨F, hFe⟩ : ∃ F, F = 1 + withinV f 2 := ⟨_, rfl⟩
 have hF : 1 ≤ F ∧ F ≤ 2 := by omega
 obtain ⟨la, hlae⟩ : ∃ la, la = pl % 20 := ⟨_, rfl⟩
 have hla2 : 0 ≤ la ∧ la < 20 := by omega
 obtain ⟨tm, htm⟩ : ∃ tm, tm = la + 1 + ptm % 60 := ⟨_, rfl⟩
 have htm2 : la < tm ∧ tm ≤ la + 60 := by omega
 have H27 : Sat w [restC w (fun _ => False), cellC b2 27 ([(.slice na N.length nc), (.slice ta TT.length tc), (.slice ha HH.length hc_), (.int .u64 (ptm)), (.slice oa OO.length oc), (.slice ba BB.length bc), (.int .i64 (psk)), (.slice lla LL.length llc), (.int .u64 (pl))] : List Value), cellC b7 179 ([(.map (some m8))] : List Value), mapC m8 signedV (Value.int .i64) (marks ([] : List Signed)), cellC r9 165 ([(.slice none 0 0)] : List Value), rowC 59 2 (.slice a10 ((namesN 3 ++ (LL.take 3).map smallN).length) c11) ((namesN 3 ++ (LL.take 3).map smallN).length) ((namesN 3 ++ (LL.take 3).map smallN).flatMap encNm), rowC 102 36 (.slice a12 ((spotsN 3).length) c13) ((spotsN 3).length) ((spotsN 3).flatMap encSp), cellC b20 38 ([(.int .i64 (F)), (.int .i64 (3)), (pt b7 0), (pt r9 0), (.int .i64 (F)), (.int .i64 (3)), (.int .i64 (4)), (.int .u64 (la)), (.slice a10 ((namesN 3 ++ (LL.take 3).map smallN).length) c11), (.slice a12 ((spotsN 3).length) c13)] : List Value)] w24 := by rw [hFe, hlae]; exact H25
 obtain ⟨LG, hLG⟩ : ∃ LG : List NmD, LG = (namesN 3 ++ (LL.take 3).map smallN) := ⟨_, rfl⟩
 have lgl : LG.length ≤ 6 := by rw [hLG, List.length_append, namesN_len, List.length_map, List.length_take]; omega
 have H28 : Sat w [restC w (fun _ => False), cellC b2 27 ([(.slice na N.length nc), (.slice ta TT.length tc), (.slice ha HH.length hc_), (.int .u64 (ptm)), (.slice oa OO.length oc), (.slice ba BB.length bc), (.int .i64 (psk)), (.slice lla LL.length llc), (.int .u64 (pl))] : List Value), cellC b7 179 ([(.map (some m8))] : List Value), mapC m8 signedV (Value.int .i64) (marks ([] : List Signed)), cellC r9 165 ([(.slice none 0 0)] : List Value), rowC 59 2 (.slice a10 LG.length c11) LG.length (LG.flatMap encNm), rowC 102 36 (.slice a12 ((spotsN 3).length) c13) ((spotsN 3).length) ((spotsN 3).flatMap encSp), cellC b20 38 ([(.int .i64 (F)), (.int .i64 (3)), (pt b7 0), (pt r9 0), (.int .i64 (F)), (.int .i64 (3)), (.int .i64 (4)), (.int .u64 (la)), (.slice a10 LG.length c11), (.slice a12 ((spotsN 3).length) c13)] : List Value)] w24 := by rw [hLG]; exact H27
 refine w_lit <| wv 26 (.bool true) <| wv 27 (.bool false) <| znt <| wp_iff rfl ?_
 refine w_skip <| ztn <| zsl <| zwN 29 (kUnion12_5 F b7 r9 la a10 LG.length c11 a12 ((spotsN 3).length) c13) (H28.at 7 rfl) <| zwN 30 (kUnion12_0 na N.length nc ta TT.length tc ha HH.length hc_ ptm oa OO.length oc ba BB.length bc psk lla LL.length llc pl) (H28.at 1 rfl) <| zwd fun Kq kq => ?_
 have H30 := H28.addNil 181 2
 refine zdc 31 (wParts_any w24 F la hF hla2 b7 m8 r9 none 0 [] (H30.fn [2, 3, 4, 8]) List.nodup_nil (by decide) (.slice a10 LG.length c11) (.slice a12 ((spotsN 3).length) c13) (.slice lla LL.length llc) ptm psk pl hptm na nc N (ListAt.now H30 0 rfl hN) (list_offS encNm_len (by decide) H30 [2, 3, 4, 8] 0 rfl rfl (by decide) hN) ta tc TT (ListAt.now H30 0 rfl hTT) (list_offS encTm_len (by decide) H30 [2, 3, 4, 8] 0 rfl rfl (by decide) hTT) ha hc_ HH (ListAt.now H30 0 rfl hHH) (list_offS encJ_len (by decide) H30 [2, 3, 4, 8] 0 rfl rfl (by decide) hHH) oa oc OO (ListAt.now H30 0 rfl hOO) (list_offS encJ_len (by decide) H30 [2, 3, 4, 8] 0 rfl rfl (by decide) hOO) ba bc BB (ListAt.now H30 0 rfl hBB) (list_offS encJ_len (by decide) H30 [2, 3, 4, 8] 0 rfl rfl (by decide) hBB) (fun x hx => ⟨ListAt.now H30 0 rfl (htt x hx).1, (htt x hx).2⟩) (fun x hx => (list_offS encU_len (by decide) H30 [2, 3, 4, 8] 0 rfl rfl (by decide) (htt x hx).1))) ?_
 rintro _ w31 ⟨a32, c33, PS34, a35, c36, OS37, a38, c39, TS40, a41, c42, LB43, BG44, rfl, hps45, hos46, l47, hts48, l49, hnd50, l51, p52, T53⟩
 rw [← htm] at hps45 ⊢
 have H54 := H30.tl [cellC b7 179 (kUnion12_4 m8), (kUnion12_1 m8 LB43), cellC r9 165 ([(.slice a41 LB43.length c42)] : List Value), (kUnion12_7 a41 LB43 c42), (kUnion12_8 a32 PS34 c33), (kUnion12_9 a35 OS37 c36), (kUnion12_10 a38 TS40 c39), bagC BG44] [2, 3, 4, 8] [0, 1, 5, 6, 7] T53 [8, 9, 0, 1, 2, 10, 11, 12, 3, 4, 5, 6, 7]
 refine ⟨_, rfl, ?_⟩
 have hPSl := hps45.len hF.1
 refine kq _ _ <| wv 28 (.tuple #[(.int .u64 (tm)), (.slice a32 PS34.length c33), (.slice a35 OS37.length c36), (.slice a38 TS40.length c39)]) <| wv 32 (.int .u64 (tm)) <| wv 33 (.slice a32 PS34.length c33) <| wv 34 (.slice a35 OS37.length c36) <| wv 35 (.slice a38 TS40.length c39) <| wv 7 (.int .u64 (tm)) <| wv 8 (.slice a32 PS34.length c33) <| wv 9 (.slice a35 OS37.length c36) <| wv 10 (.slice a38 TS40.length c39) ?_
 refine znsl <| zwN 37 (kUnion12_5 F b7 r9 la a10 LG.length c11 a12 ((spotsN 3).length) c13) (H54.at 7 rfl) <| zwd fun Kq kq => zdc 38 (wOwn_any w31 b7 r9 F (3 : Int) F (3 : Int) (4 : Int) la a10 c11 LG (ListAt.row (enc := encNm) (sz := 2) encNm_len (by decide) (H54.at 5 rfl)) a12 c13 (spotsN 3) (ListAt.row (enc := encSp) (sz := 36) encSp_len (by decide) (H54.at 6 rfl)) (by have q := lgl; omega) (by decide)) ?_
 rintro _ w56 ⟨m57, o58, rfl, k59, u60, f61⟩
 have H62 := H54.addU u60 k59 f61
 have H63 := H62.open 13 rfl
 refine ⟨_, rfl, ?_⟩
 refine kq _ _ <| wv 39 (.int .u64 (tm)) <| wv 40 (.slice a32 PS34.length c33) <| zwd fun Kq kq => zdc 41 (make_any w56 F (3 : Int) (4 : Int) tm la (by omega) (.map (some m57)) o58 (openM (spotsN 3)) (H63.at 14 rfl) open3 a32 c33 PS34 (ListAt.row (enc := encPr) (sz := 6) encPr_len (by decide) (H63.at 9 rfl)) (by omega) (fun p hp => (hps45.all p hp).prk (H63.at 12 rfl)) (hps45.lim hF) none 0 [] ListAt.nil (by decide) (by simp) (by decide) none 0 [] ListAt.nil (by decide) (by simp) (fun X => by simp [firstN])) ?_
 rintro _ w65 ⟨DP66, hDP67, ⟨hlt96, rfl, T97⟩ | ⟨Q68, hQ69, DO70, X71, DT72, xa73, xc74, PD75, ya76, yc77, OD78, za79, zc80, TD81, B82, hSO83, hHv84, hST85, hQl86, rfl, hcP87, hcO88, hcT89, hpin90, hoin91, htin92, hok93, hu94, hfr95⟩⟩
 ·exact absurd hlt96 (by rw [hps45.dp hDP67]; have q := hps45.len hF.1; omega)
 have H98 := H63.addU hu94 hok93 hfr95
 have H99 := H98.open 15 rfl
 refine ⟨_, rfl, ?_⟩
 refine kq _ _ <| wv 36 (.tuple #[(.agg ⟨(kUnion12_11 tm xa73 PD75.length xc74 ya76 OD78.length yc77 za79 TD81.length zc80)⟩), (.int .i64 (0))]) <| wv 42 (.agg ⟨(kUnion12_11 tm xa73 PD75.length xc74 ya76 OD78.length yc77 za79 TD81.length zc80)⟩) <| wv 43 (.int .i64 (0)) <| zwd fun Kq kq => zda (kUnion12_12) H99 fun b101 w102 H103 => ?_
 refine kq _ _ <| zwd fun Kq kq => zds1 (kUnion12_11 tm xa73 PD75.length xc74 ya76 OD78.length yc77 za79 TD81.length zc80) H103 19 fun w105 H106 => ?_
 refine kq _ _ <| wv 12 (.int .i64 (0)) <| znt <| w_seq <| zsl <| wv 44 (.int .i64 (0)) <| wv 45 (.bool false) <| znt <| wp_iff rfl ?_
 refine w_skip <| ztn <| w_seq ?_
 have hU1 : Upd [] w w105 := H106.upd 0 rfl [] (fun _ h => h.elim)
 have hval := made_val hps45 (Q := Q68) (by have q := hcP87; rw [hps45.dp hDP67] at q; exact q)
 obtain ⟨P, hPe⟩ : ∃ P, P = PD75 := ⟨_, rfl⟩
 have hP : ListAt encPr 6 w105 (.slice xa73 P.length xc74) P := by rw [hPe]; exact ListAt.row encPr_len (by decide) (H106.at 15 rfl)
 have hPo : ∀ i, i < P.length → PrOk w105 (P.getD i pr0) := fun i hi => (hpin90 _ (by rw [← hPe]; exact getD_memP hi)).ok (H106.at 18 rfl)
 have hvP : ∀ p ∈ P, PrV F la tm LB43 p := by rw [hPe]; exact hval
 have hsm := PrV.sms hvP
 have hlPQ : P.length = Q68 := by rw [hPe]; have q := map_len hcP87; rw [List.length_take] at q; omega
 have hlP : P.length ≤ 1000 := by omega
 have hlC : ∀ i, i < P.length → (P.getD i pr0).C.length ≤ 1000 := fun i hi => Nat.le_trans (hvP _ (getD_memP hi)).len (by decide)
 have hLGa : ListAt encNm 2 w105 (.slice a10 LG.length c11) LG := ListAt.row encNm_len (by decide) (H106.at 5 rfl)
 have hSPa : ListAt encSp 36 w105 (.slice a12 (spotsN 3).length c13) (spotsN 3) := ListAt.row encSp_len (by decide) (H106.at 6 rfl)
 have hk108 := H106.at 1 rfl
 have hk109 := H106.at 7 rfl
 have hk110 := H106.at 19 rfl
 rw [← hPe] at hk110
 have HK := Sat.start0 w105
 refine h_start HK [restC w105 (fun _ => False)] 9 rfl (by kernel_rfl) (fun Hx => (Hx.pk [0])) ?_
 intro w111 H112 S113
 refine hv0 0 S113 46 (pt b20 4) <| hv0 1 S113 47 (pt b20 7) <| hv0 2 S113 48 (.int .u64 (la)) ?_ (he := fun _ H' => (zl1 (H'.roCell 0 rfl hk109 (fun h => h) rfl)))
 refine hv0 3 S113 49 (.agg ⟨(kUnion12_5 F b7 r9 la a10 LG.length c11 a12 ((spotsN 3).length) c13)⟩) ?_ (he := fun _ H' => (zlN (vs := (kUnion12_5 F b7 r9 la a10 LG.length c11 a12 ((spotsN 3).length) c13)) (H'.roCells 0 rfl hk109 (fun h => h))))
 refine hv0 6 S113 52 (.agg ⟨(kUnion12_11 tm xa73 P.length xc74 ya76 OD78.length yc77 za79 TD81.length zc80)⟩) ?_ (he := fun _ H' => (zlN (vs := (kUnion12_11 tm xa73 P.length xc74 ya76 OD78.length yc77 za79 TD81.length zc80)) (H'.roCells 0 rfl hk110 (fun h => h))))
 refine zhd0 4 fun Kq kq => ?_
 refine zdc 50 (wOwn_any w111 b7 r9 F (3 : Int) F (3 : Int) (4 : Int) la a10 c11 LG (ListAt.now H112 0 rfl hLGa) a12 c13 (spotsN 3) (ListAt.now H112 0 rfl hSPa) (by have q := lgl; omega) (by decide)) ?_
 rintro _ w115 ⟨m116, o117, rfl, k118, u119, f120⟩
 have H121 := H112.addU u119 k118 f120
 have H122 := H121.open 1 rfl
 refine ⟨_, rfl, ?_⟩
 have S123 := H122.pk [0]
 refine kq _ _ S123 <| hv0 5 S123 51 (.map (some m116)) <| zhd0 7 fun Kq kq => ?_
 refine zdc 53 (wEntries_any w115 la tm (4 : Int) ((.slice ya76 OD78.length yc77)) ((.slice za79 TD81.length zc80)) (.map (some m116)) (logM LG) (.inl ⟨_, rfl, (H122.at 1 rfl)⟩) xa73 xc74 P (ListAt.now H122 0 rfl hP) (fun i hi => (hPo i hi).now H122 0 rfl) hsm (by omega) (fun i hi => hlC i hi)) ?_
 rintro _ w125 ⟨a126, c127, O128, rfl, p129, s130, k131, u132, f133⟩
 have H134 := H122.addU u132 k131 f133
 have hlO128 := out_lim hsm.all p129
 refine ⟨_, rfl, ?_⟩
 have S135 := H134.pk [0]
 refine kq _ _ S135 <| hv0 8 S135 13 (.slice a126 O128.length c127) <| zhf <| ztn <| w_seq <| zsl <| wv 54 (pt b101 2) <| zw1 55 (.slice xa73 P.length xc74) (H134.roCell 0 rfl hk110 (fun h => h) rfl) <| wv 56 (.int .i64 ((P.length : Int))) <| wv 57 (.int .i64 (0)) ?_
 refine znt <| w_block <| wp_round ([4, 14, 16, 17, 18, 19] ++ List.range' 57 66) (fun F_ W_ m_ => ∃ (i : Nat), F_ 57 = (.int .i64 ((i : Int))) ∧ (i ≤ P.length) ∧ Sat w105 [restC w105 (fun _ => False), mapC m116 nmV Value.bool (logM LG), mapC o117 (Value.int .i64) entV (openM (spotsN 3)), (kUnion12_13 a126 O128 c127)] W_ ∧ m_ = P.length - i) _ ⟨0, (show ((.int .i64 (0)) : Value) = _ by first | rfl | go_num), (Nat.zero_le _), H134, rfl⟩ ?_
 rintro g136 w137 _ ⟨i, v139, hi, H138, rfl⟩
 refine wp_know 57 _ v139 ?_
 refine zsl <| wv 58 (.bool (decide ((i : Int) < (P.length : Int)))) <| znt <| w_seq ?_
 refine (bsplit (decide ((i : Int) < (P.length : Int)))).elim (fun b141 => ?_) (fun b141 => ?_)
 ·have g142 := of_decide_eq_true b141
  refine zwkt _ b141 ?_
  refine w_skip <| ztn <| w_seq <| w_block <| zsl <| wv 59 (.int .i64 ((i : Int))) <| wv 14 (.int .i64 ((i : Int))) <| znsl <| wv 60 (pt b101 2) <| zw1 61 (.slice xa73 P.length xc74) (H138.roCell 0 rfl hk110 (fun h => h) rfl) ?_
  refine wv 62 (.int .i64 ((i : Int))) ?_
  obtain ⟨g144, o145, c146, e147, R148⟩ := SliceOf.atD hP pr0 (show i < P.length by omega)
  refine wv 63 (.pointer (some ⟨g144, o145 + ((i : Int)).toNat * 6, none⟩)) ?_ (hr := e_indexAddrW (E := 71) (by kernel_rfl) (by kernel_rfl) (Nat.le_of_ble_eq_true rfl) rfl e147 rfl (by omega) (by omega))
  refine wv 64 (.pointer (some ⟨g144, o145 + ((i : Int)).toNat * 6 + 3, none⟩)) <| zw1 65 (.slice (P.getD i pr0).ca ((P.getD i pr0).C).length (P.getD i pr0).cc) (H138.cellR 0 rfl (cells_at R148 3 (by kernel_rfl) (show o145 + ((i : Int)).toNat * 6 + 3 = o145 + i * 6 + 3 by omega)) (fun h => h)) <| wv 66 (.int .i64 ((((P.getD i pr0).C).length : Int))) <| wv 67 (.int .i64 (0)) <| znt <| w_block ?_
  have hlCi := hlC i (by omega)
  refine wp_round ([4, 16, 17, 18, 19] ++ List.range' 67 55) (fun F_ W_ m_ => ∃ (k : Nat), F_ 67 = (.int .i64 ((k : Int))) ∧ (k ≤ (P.getD i pr0).C.length) ∧ Sat w105 [restC w105 (fun _ => False), mapC m116 nmV Value.bool (logM LG), mapC o117 (Value.int .i64) entV (openM (spotsN 3)), (kUnion12_13 a126 O128 c127)] W_ ∧ m_ = (P.getD i pr0).C.length - k) _ ⟨0, (show ((.int .i64 (0)) : Value) = _ by first | rfl | go_num), (Nat.zero_le _), H138, rfl⟩ ?_
  rintro g149 w150 _ ⟨k, v152, hk, H151, rfl⟩
  refine wp_know 67 _ v152 ?_
  refine zsl <| wv 68 (.bool (decide ((k : Int) < (((P.getD i pr0).C).length : Int)))) <| znt <| w_seq ?_
  refine (bsplit (decide ((k : Int) < (((P.getD i pr0).C).length : Int)))).elim (fun b154 => ?_) (fun b154 => ?_)
  ·have g155 := of_decide_eq_true b154
   refine zwkt _ b154 ?_
   refine w_skip <| ztn <| w_seq <| w_block <| zsl ?_
   obtain ⟨g157, o158, c159, e160, R161⟩ := SliceOf.atD (hPo i (by omega)).1 ce0 (show k < ((P.getD i pr0).C).length by omega)
   refine wv 69 (.pointer (some ⟨g157, o158 + ((k : Int)).toNat * 38, none⟩)) ?_ (hr := e_indexAddrW (E := 76) (by kernel_rfl) (by kernel_rfl) (Nat.le_of_ble_eq_true rfl) rfl e160 rfl (by omega) (by omega))
   refine wv 70 (.agg ⟨(kUnion12_14 ((((P.getD i pr0).C).getD k ce0).x) (((P.getD i pr0).C).getD k ce0) (((((P.getD i pr0).C).getD k ce0).S).length))⟩) ?_ (hr := e_loadRun (vs := (kUnion12_14 ((((P.getD i pr0).C).getD k ce0).x) (((P.getD i pr0).C).getD k ce0) (((((P.getD i pr0).C).getD k ce0).S).length))) rfl (by kernel_rfl) (by kernel_rfl) (Nat.le_of_ble_eq_true (by kernel_rfl)) (H151.runR 0 rfl (cells_run R161 0 (by kernel_rfl) (show o158 + ((k : Int)).toNat * 38 = o158 + k * 38 + 0 by omega)) (fun h => h)))
   refine zwd fun Kq kq => zda (kUnion12_15) H151 fun b163 w164 H165 => ?_
   refine kq _ _ <| zwd fun Kq kq => zds1 (kUnion12_14 ((((P.getD i pr0).C).getD k ce0).x) (((P.getD i pr0).C).getD k ce0) (((((P.getD i pr0).C).getD k ce0).S).length)) H165 4 fun w167 H168 => ?_
   refine kq _ _ <| znsl <| zwN 71 (kUnion12_14 ((((P.getD i pr0).C).getD k ce0).x) (((P.getD i pr0).C).getD k ce0) (((((P.getD i pr0).C).getD k ce0).S).length)) (H168.at 4 rfl) <| zwd fun Kq kq => zdq 72 (rTime_any w167 (((P.getD i pr0).C).getD k ce0).x (((P.getD i pr0).C).getD k ce0).sa (((P.getD i pr0).C).getD k ce0).sc ((((P.getD i pr0).C).getD k ce0).S) (ListAt.now H168 0 rfl (ceOk_at hPo (i := i) (k := k) (by omega) (by omega))) (hsm.at (i := i) (k := k) (by omega) (by omega)).2.1) H168 fun w171 H172 => ?_
   refine kq _ _ <| wv 17 (.int .u64 (timeD ((((P.getD i pr0).C).getD k ce0).S))) <| znt <| w_seq <| w_seq <| h_start H172 [restC w105 (fun _ => False), mapC m116 nmV Value.bool (logM LG), mapC o117 (Value.int .i64) entV (openM (spotsN 3)), (kUnion12_13 a126 O128 c127), cellC b163 76 (kUnion12_14 ((((P.getD i pr0).C).getD k ce0).x) (((P.getD i pr0).C).getD k ce0) (((((P.getD i pr0).C).getD k ce0).S).length))] 19 rfl (by kernel_rfl) (fun Hx => (Hx.pk [0, 1, 2, 3, 4])) fun w174 H175 S176 => ?_
   refine hv0 0 S176 73 (.int .u64 (timeD ((((P.getD i pr0).C).getD k ce0).S))) <| hv0 1 S176 74 (pt b20 4) <| hv0 2 S176 75 (pt b20 7) <| hv0 3 S176 76 (.int .u64 (la)) ?_ (he := fun _ H' => (zl1 (H'.roCell 0 rfl hk109 (fun h => h) rfl)))
   refine hv0 4 S176 77 (.bool (decide ((timeD ((((P.getD i pr0).C).getD k ce0).S)) ≤ la))) <| hv0 5 S176 78 (.bool (decide ((timeD ((((P.getD i pr0).C).getD k ce0).S)) ≤ la))) ?_
   refine (bsplit (decide ((timeD ((((P.getD i pr0).C).getD k ce0).S)) ≤ la))).elim (fun b177 => ?_) (fun b177 => ?_)
   ·have g178 := of_decide_eq_true b177
    refine h_know 78 (.bool true) (congrArg Value.bool b177) ?_
    refine zhpn 6 S176 5 78 false ?_
    refine zhpn 7 S176 5 78 false ?_
    refine zhpn 8 S176 5 78 false ?_
    refine hv0 9 S176 82 (.bool true) <| hv0 10 S176 83 (.bool true) <| zhpn 11 S176 10 83 false ?_
    refine zhpn 12 S176 10 83 false ?_
    refine zhpn 13 S176 10 83 false ?_
    refine zhpn 14 S176 10 83 false ?_
    refine zhpn 15 S176 10 83 false ?_
    refine zhpn 16 S176 10 83 false ?_
    refine zhpn 17 S176 10 83 false ?_
    refine hv0 18 S176 91 (.bool true) <| zhf <| ztn <| wp_ift rfl ?_
    refine w_exit <| then_exit <| blk_hit <| ztn <| w_lit <| zwi 121 ((k : Int) + 1) <| wv 67 (.int .i64 ((k : Int) + 1)) <| w_nil ?_
    have H180 := H175.pk [0, 1, 2, 3]
    refine round_back ?_ _ ⟨(k + 1), rfl, (by omega), H180, rfl⟩ (by omega)
    exact zs
   have g181 := of_decide_eq_false b177
   refine h_know 78 (.bool false) (congrArg Value.bool b177) ?_
   refine zhvy 6 S176 5 78 false 79 (.int .u64 (timeD ((((P.getD i pr0).C).getD k ce0).S))) <| zhvy 7 S176 5 78 false 80 (.int .u64 (tm)) <| zhvy 8 S176 5 78 false 81 (.bool (decide ((timeD ((((P.getD i pr0).C).getD k ce0).S)) > tm))) <| hv0 9 S176 82 (.bool (decide ((timeD ((((P.getD i pr0).C).getD k ce0).S)) > tm))) <| hv0 10 S176 83 (.bool (decide ((timeD ((((P.getD i pr0).C).getD k ce0).S)) > tm))) ?_
   refine (bsplit (decide ((timeD ((((P.getD i pr0).C).getD k ce0).S)) > tm))).elim (fun b183 => ?_) (fun b183 => ?_)
   ·have g184 := of_decide_eq_true b183
    refine h_know 83 (.bool true) (congrArg Value.bool b183) ?_
    refine zhpn 11 S176 10 83 false ?_
    refine zhpn 12 S176 10 83 false ?_
    refine zhpn 13 S176 10 83 false ?_
    refine zhpn 14 S176 10 83 false ?_
    refine zhpn 15 S176 10 83 false ?_
    refine zhpn 16 S176 10 83 false ?_
    refine zhpn 17 S176 10 83 false ?_
    refine hv0 18 S176 91 (.bool true) <| zhf <| ztn <| wp_ift rfl ?_
    refine w_exit <| then_exit <| blk_hit <| ztn <| w_lit <| zwi 121 ((k : Int) + 1) <| wv 67 (.int .i64 ((k : Int) + 1)) <| w_nil ?_
    have H186 := H175.pk [0, 1, 2, 3]
    refine round_back ?_ _ ⟨(k + 1), rfl, (by omega), H186, rfl⟩ (by omega)
    exact zs
   have g187 := of_decide_eq_false b183
   refine h_know 83 (.bool false) (congrArg Value.bool b183) ?_
   refine zhvy 11 S176 10 83 false 84 (.agg ⟨(kUnion12_5 F b7 r9 la a10 LG.length c11 a12 ((spotsN 3).length) c13)⟩) ?_ (he := fun _ H' => (zlN (vs := (kUnion12_5 F b7 r9 la a10 LG.length c11 a12 ((spotsN 3).length) c13)) (H'.roCells 0 rfl hk109 (fun h => h))))
   refine zhvy 14 S176 10 83 false 87 (pt b163 0) <| zhvy 15 S176 10 83 false 88 (pt b163 0) <| zhvy 16 S176 10 83 false 89 (.agg ⟨([(.int .i64 ((((P.getD i pr0).C).getD k ce0).x.cl)), (.int .i64 ((((P.getD i pr0).C).getD k ce0).x.seq))] : List Value)⟩) ?_ (he := fun _ H' => (e_loadN (vs := ([(.int .i64 ((((P.getD i pr0).C).getD k ce0).x.cl)), (.int .i64 ((((P.getD i pr0).C).getD k ce0).x.seq))] : List Value)) rfl (by kernel_rfl) (by kernel_rfl) (Nat.le_of_ble_eq_true (by kernel_rfl)) (H'.at 4 rfl) (by kernel_rfl)))
   refine h_do 12 rfl (by kernel_rfl) (wantsY 10 83 false rfl (by kernel_rfl) rfl (by kernel_rfl)) (fun Kq kq => ?_)
   refine zdc 85 (wOwn_any w174 b7 r9 F (3 : Int) F (3 : Int) (4 : Int) la a10 c11 LG (ListAt.now H175 0 rfl hLGa) a12 c13 (spotsN 3) (ListAt.now H175 0 rfl hSPa) (by have q := lgl; omega) (by decide)) ?_
   rintro _ w190 ⟨m191, o192, rfl, k193, u194, f195⟩
   have H196 := H175.addU u194 k193 f195
   have H197 := H196.open 5 rfl
   refine ⟨_, rfl, ?_⟩
   have S198 := H197.pk [0, 1, 2, 3, 4]
   refine kq _ _ S198 <| zhvy 13 S198 10 83 false 86 (.map (some m191)) <| h_do 17 rfl (by kernel_rfl) (wantsY 10 83 false rfl (by kernel_rfl) rfl (by kernel_rfl)) (fun Kq kq => ?_)
   refine d_pure (d := 90) (v := (.bool ((lookM (logM LG) (⟨(((P.getD i pr0).C).getD k ce0).x.cl, (((P.getD i pr0).C).getD k ce0).x.seq⟩ : NmD)).getD false))) rfl (e_lookup (kt := 59) (et := 4) nmK (by kernel_rfl) (fun w => by kernel_rfl) rfl (⟨(((P.getD i pr0).C).getD k ce0).x.cl, (((P.getD i pr0).C).getD k ce0).x.seq⟩ : NmD) rfl (H197.at 5 rfl) (optD Value.bool _ _)) ?_
   have S200 := H197.pk [0, 1, 2, 3, 4]
   refine kq _ _ S200 <| hv0 18 S200 91 (.bool ((lookM (logM LG) (⟨(((P.getD i pr0).C).getD k ce0).x.cl, (((P.getD i pr0).C).getD k ce0).x.seq⟩ : NmD)).getD false)) <| zhf <| ztn ?_
   refine (bsplit ((lookM (logM LG) (⟨(((P.getD i pr0).C).getD k ce0).x.cl, (((P.getD i pr0).C).getD k ce0).x.seq⟩ : NmD)).getD false)).elim (fun b201 => ?_) (fun b201 => ?_)
   ·refine zwkt _ b201 ?_
    refine w_exit <| then_exit <| blk_hit <| ztn <| w_lit <| zwi 121 ((k : Int) + 1) <| wv 67 (.int .i64 ((k : Int) + 1)) <| w_nil ?_
    have H202 := H197.pk [0, 1, 2, 3]
    refine round_back ?_ _ ⟨(k + 1), rfl, (by omega), H202, rfl⟩ (by omega)
    exact zs
   refine zwkf _ b201 ?_
   refine w_skip <| ztn <| w_seq ?_
   have hmZ : ((P.getD i pr0).C.getD k ce0) ∈ P.flatMap (·.C) := List.mem_flatMap.2 ⟨_, getD_memP (show i < P.length by omega), getD_memC (by omega)⟩
   have hskip : skipE la tm (lgM (logM LG)) (entOf ((P.getD i pr0).C.getD k ce0)) = false := by
    unfold skipE lgM nmOf entOf
    simp only [b177, b183, b201, Bool.or_false]
   have hany := uni_all hsm.all p129 hmZ hskip
   refine w_lit <| wv 18 (.bool false) <| znt <| w_seq <| zsl <| wv 92 (.slice a126 O128.length c127) <| wv 93 (.int .i64 ((O128.length : Int))) <| wv 94 (.int .i64 (0)) <| znt <| w_block ?_
   refine wp_round ([18, 19] ++ List.range' 94 25) (fun F_ W_ m_ => ∃ (j : Nat) (inn : Bool), F_ 94 = (.int .i64 ((j : Int))) ∧ F_ 18 = (.bool (inn)) ∧ (j ≤ O128.length) ∧ (inn = (O128.take j).any (fun y => decide (y.cl = ((P.getD i pr0).C.getD k ce0).x.cl ∧ y.sq = ((P.getD i pr0).C.getD k ce0).x.seq) && decide (y.t ≤ timeD ((P.getD i pr0).C.getD k ce0).S))) ∧ Sat w105 [restC w105 (fun _ => False), mapC m116 nmV Value.bool (logM LG), mapC o117 (Value.int .i64) entV (openM (spotsN 3)), (kUnion12_13 a126 O128 c127), cellC b163 76 (kUnion12_14 ((((P.getD i pr0).C).getD k ce0).x) (((P.getD i pr0).C).getD k ce0) (((((P.getD i pr0).C).getD k ce0).S).length)), mapC m191 nmV Value.bool (logM LG), mapC o192 (Value.int .i64) entV (openM (spotsN 3))] W_ ∧ m_ = O128.length - j) _ ⟨0, false, (show ((.int .i64 (0)) : Value) = _ by first | rfl | go_num), (by first | rfl | go_num), (Nat.zero_le _), rfl, H197, rfl⟩ ?_
   rintro g203 w204 _ ⟨j, inn, v206, v207, hj, hin, H205, rfl⟩
   refine wp_know 94 _ v206 ?_
   refine wp_know 18 _ v207 ?_
   refine zsl <| wv 95 (.bool (decide ((j : Int) < (O128.length : Int)))) <| znt <| w_seq ?_
   refine (bsplit (decide ((j : Int) < (O128.length : Int)))).elim (fun b209 => ?_) (fun b209 => ?_)
   ·have g210 := of_decide_eq_true b209
    refine zwkt _ b209 ?_
    refine w_skip <| ztn <| w_seq <| w_block <| zsl <| wv 96 (.int .i64 ((j : Int))) <| wv 19 (.int .i64 ((j : Int))) <| znt <| zqs H205 ?_
    refine qv 97 (.bool (inn)) <| qv 98 (.bool (inn)) ?_
    refine (bsplit (inn)).elim (fun b212 => ?_) (fun b212 => ?_)
    ·refine q_know 98 (.bool true) (congrArg Value.bool b212) ?_
     iterate 10 refine qn 1 98 false ?_
     iterate 7 refine qu 11 108 true ?_
     refine qn 1 98 false ?_
     refine qv 117 (.bool true) <| qv 18 (.bool true) <| q_end fun w213 H214 => ?_
     refine blk_normal <| ztn <| w_lit <| zwi 118 ((j : Int) + 1) <| wv 94 (.int .i64 ((j : Int) + 1)) <| w_nil ?_
     have hin2 : true = (O128.take (j + 1)).any (fun y => decide (y.cl = ((P.getD i pr0).C.getD k ce0).x.cl ∧ y.sq = ((P.getD i pr0).C.getD k ce0).x.seq) && decide (y.t ≤ timeD ((P.getD i pr0).C.getD k ce0).S)) := by
      rw [any_step (show O128[j]? = some (O128.getD j ent0) by rw [List.getD_eq_getElem?_getD, List.getElem?_eq_getElem (show j < O128.length by omega)]; rfl), ← hin]
      simp only [b209, b212, Bool.not_true, Bool.not_false, Bool.true_or, Bool.false_or, Bool.or_true, Bool.or_false, Bool.and_true, Bool.true_and, Bool.and_false, Bool.false_and]
     refine round_back ?_ _ ⟨(j + 1), true, rfl, rfl, (by omega), hin2, H214, rfl⟩ (by omega)
     exact zs
    refine q_know 98 (.bool false) (congrArg Value.bool b212) ?_
    refine qy 1 98 false 99 (.slice a126 O128.length c127) <| qy 1 98 false 100 (.int .i64 ((j : Int))) ?_
    obtain ⟨g215, c216, e217⟩ := row_shape (H205.at 3 rfl) (by omega)
    obtain ⟨x218, h219⟩ := get_at (show j < O128.length by omega)
    refine qy 1 98 false 101 (.pointer (some ⟨g215, 0 + ((j : Int)).toNat * 35, none⟩)) ?_ (hr := fun _ H' => (e_indexAddrV (E := 63) (by kernel_rfl) (by kernel_rfl) (Nat.le_of_ble_eq_true rfl) rfl e217 rfl (by omega) (by omega)))
    refine qy 1 98 false 102 (.pointer (some ⟨g215, 0 + ((j : Int)).toNat * 35, none⟩)) <| qy 1 98 false 103 (.agg ⟨([(.int .i64 (x218.cl)), (.int .i64 (x218.sq))] : List Value)⟩) ?_ (hr := fun _ H' => (e_loadRun (vs := ([(.int .i64 (x218.cl)), (.int .i64 (x218.sq))] : List Value)) rfl (by kernel_rfl) (by kernel_rfl) (Nat.le_of_ble_eq_true (by kernel_rfl)) (rows_run (H'.at 3 rfl) e217 encEn_len h219 0 (show 0 + ((j : Int)).toNat * 35 = j * 35 + 0 by omega) (by kernel_rfl) (by kernel_rfl))))
    refine qy 1 98 false 104 (pt b163 0) <| qy 1 98 false 105 (pt b163 0) <| qy 1 98 false 106 (.agg ⟨([(.int .i64 ((((P.getD i pr0).C).getD k ce0).x.cl)), (.int .i64 ((((P.getD i pr0).C).getD k ce0).x.seq))] : List Value)⟩) ?_ (hr := fun _ H' => (e_loadN (vs := ([(.int .i64 ((((P.getD i pr0).C).getD k ce0).x.cl)), (.int .i64 ((((P.getD i pr0).C).getD k ce0).x.seq))] : List Value)) rfl (by kernel_rfl) (by kernel_rfl) (Nat.le_of_ble_eq_true (by kernel_rfl)) (H'.at 4 rfl) (by kernel_rfl)))
    refine qy 1 98 false 107 (.bool (decide (x218.cl = ((((P.getD i pr0).C).getD k ce0).x.cl) ∧ x218.sq = ((((P.getD i pr0).C).getD k ce0).x.seq)))) ?_ (hr := fun _ H' => (e_eqName x218.cl x218.sq ((((P.getD i pr0).C).getD k ce0).x.cl) ((((P.getD i pr0).C).getD k ce0).x.seq) rfl rfl))
    refine qy 1 98 false 108 (.bool (decide (x218.cl = ((((P.getD i pr0).C).getD k ce0).x.cl) ∧ x218.sq = ((((P.getD i pr0).C).getD k ce0).x.seq)))) ?_
    refine (bsplit (decide (x218.cl = ((((P.getD i pr0).C).getD k ce0).x.cl) ∧ x218.sq = ((((P.getD i pr0).C).getD k ce0).x.seq)))).elim (fun b220 => ?_) (fun b220 => ?_)
    ·refine q_know 108 (.bool true) (congrArg Value.bool b220) ?_
     refine qy 11 108 true 109 (.slice a126 O128.length c127) <| qy 11 108 true 110 (.int .i64 ((j : Int))) <| qy 11 108 true 111 (.pointer (some ⟨g215, 0 + ((j : Int)).toNat * 35, none⟩)) ?_ (hr := fun _ H' => (e_indexAddrV (E := 63) (by kernel_rfl) (by kernel_rfl) (Nat.le_of_ble_eq_true rfl) rfl e217 rfl (by omega) (by omega)))
     refine qy 11 108 true 112 (.pointer (some ⟨g215, 0 + ((j : Int)).toNat * 35 + 34, none⟩)) <| qy 11 108 true 113 (.int .u64 (x218.t)) ?_ (hr := fun _ H' => (zl1 (rows_cell (H'.at 3 rfl) e217 encEn_len h219 34 rfl (show 0 + ((j : Int)).toNat * 35 + 34 = j * 35 + 34 by omega) (by kernel_rfl))))
     refine qy 11 108 true 114 (.int .u64 (timeD ((((P.getD i pr0).C).getD k ce0).S))) <| qy 11 108 true 115 (.bool (decide (x218.t ≤ (timeD ((((P.getD i pr0).C).getD k ce0).S))))) <| qy 1 98 false 116 (.bool (decide (x218.t ≤ (timeD ((((P.getD i pr0).C).getD k ce0).S))))) <| qv 117 (.bool (decide (x218.t ≤ (timeD ((((P.getD i pr0).C).getD k ce0).S))))) <| qv 18 (.bool (decide (x218.t ≤ (timeD ((((P.getD i pr0).C).getD k ce0).S))))) <| q_end fun w221 H222 => ?_
     refine blk_normal <| ztn <| w_lit <| zwi 118 ((j : Int) + 1) <| wv 94 (.int .i64 ((j : Int) + 1)) <| w_nil ?_
     have hin2 : (decide (x218.t ≤ (timeD ((((P.getD i pr0).C).getD k ce0).S)))) = (O128.take (j + 1)).any (fun y => decide (y.cl = ((P.getD i pr0).C.getD k ce0).x.cl ∧ y.sq = ((P.getD i pr0).C.getD k ce0).x.seq) && decide (y.t ≤ timeD ((P.getD i pr0).C.getD k ce0).S)) := by
      rw [any_step (show O128[j]? = some (O128.getD j ent0) by rw [List.getD_eq_getElem?_getD, List.getElem?_eq_getElem (show j < O128.length by omega)]; rfl), ← hin]
      have e_ : O128.getD j ent0 = x218 := by rw [List.getD_eq_getElem?_getD, h219]; rfl
      rw [e_]
      simp only [b209, b212, b220, Bool.not_true, Bool.not_false, Bool.true_or, Bool.false_or, Bool.or_true, Bool.or_false, Bool.and_true, Bool.true_and, Bool.and_false, Bool.false_and]
     refine round_back ?_ _ ⟨(j + 1), (decide (x218.t ≤ (timeD ((((P.getD i pr0).C).getD k ce0).S)))), rfl, (show ((.bool (decide (x218.t ≤ (timeD ((((P.getD i pr0).C).getD k ce0).S))))) : Value) = _ by first | rfl | go_num), (by omega), hin2, H222, rfl⟩ (by omega)
     exact zs
    refine q_know 108 (.bool false) (congrArg Value.bool b220) ?_
    iterate 7 refine qn 11 108 true ?_
    refine qy 1 98 false 116 (.bool false) <| qv 117 (.bool false) <| qv 18 (.bool false) <| q_end fun w223 H224 => ?_
    refine blk_normal <| ztn <| w_lit <| zwi 118 ((j : Int) + 1) <| wv 94 (.int .i64 ((j : Int) + 1)) <| w_nil ?_
    have hin2 : false = (O128.take (j + 1)).any (fun y => decide (y.cl = ((P.getD i pr0).C.getD k ce0).x.cl ∧ y.sq = ((P.getD i pr0).C.getD k ce0).x.seq) && decide (y.t ≤ timeD ((P.getD i pr0).C.getD k ce0).S)) := by
     rw [any_step (show O128[j]? = some (O128.getD j ent0) by rw [List.getD_eq_getElem?_getD, List.getElem?_eq_getElem (show j < O128.length by omega)]; rfl), ← hin]
     have e_ : O128.getD j ent0 = x218 := by rw [List.getD_eq_getElem?_getD, h219]; rfl
     rw [e_]
     simp only [b209, b212, b220, Bool.not_true, Bool.not_false, Bool.true_or, Bool.false_or, Bool.or_true, Bool.or_false, Bool.and_true, Bool.true_and, Bool.and_false, Bool.false_and]
    refine round_back ?_ _ ⟨(j + 1), false, rfl, rfl, (by omega), hin2, H224, rfl⟩ (by omega)
    exact zs
   have g225 := of_decide_eq_false b209
   refine zwkf _ b209 ?_
   refine zxb <| ztn <| w_seq ?_
   have hinT : inn = true := by rw [hin, List.take_of_length_le (by omega)]; exact hany
   refine wp_know 18 (.bool true) (show ((.bool (inn)) : Value) = _ by rw [hinT]) ?_
   refine w_lit <| wv 119 (.bool true) <| wv 120 (.bool false) <| znt <| wp_iff rfl ?_
   refine w_skip <| blk_normal <| ztn <| w_lit <| zwi 121 ((k : Int) + 1) <| wv 67 (.int .i64 ((k : Int) + 1)) <| w_nil ?_
   have H227 := H205.pk [0, 1, 2, 3]
   refine round_back ?_ _ ⟨(k + 1), rfl, (by omega), H227, rfl⟩ (by omega)
   exact zs
  have g228 := of_decide_eq_false b154
  refine zwkf _ b154 ?_
  refine zxb <| blk_normal <| ztn <| w_lit <| zwi 122 ((i : Int) + 1) <| wv 57 (.int .i64 ((i : Int) + 1)) <| w_nil <| round_back ?_ _ ⟨(i + 1), rfl, (by omega), H151, rfl⟩ (by omega)
  exact zs
 have g230 := of_decide_eq_false b141
 refine zwkf _ b141 ?_
 refine zxb <| ztn <| zsl <| zwd fun Kq kq => zdq 123 (wakes_any w137) H138 fun w233 H234 => ?_
 refine kq _ _ <| wv 4 (.bool true) <| znt <| w_ret <| ze1 (.bool true) ?_
 exact ⟨rfl, hU1.trans (H234.upd 0 rfl [] (fun _ h => h.elim))⟩
end Go.Proofs.YtenihpghfdcpkaaGreat
