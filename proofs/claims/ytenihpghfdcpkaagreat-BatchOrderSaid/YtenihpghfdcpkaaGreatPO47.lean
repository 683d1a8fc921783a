/- WHAT IS PROVED: contracts and plain laws of Order12. Conditions: stated with each. -/
import Derived.Test.YtenihpghfdcpkaaGreatPO02
import Derived.Test.YtenihpghfdcpkaaGreatPO05
import Derived.Test.YtenihpghfdcpkaaGreatPO29
import Derived.Test.YtenihpghfdcpkaaGreatPO33
import Derived.Test.YtenihpghfdcpkaaGreatPO34
import Derived.Test.YtenihpghfdcpkaaGreatPO37
import Derived.Test.YtenihpghfdcpkaaGreatPO44
import Derived.Test.YtenihpghfdcpkaaGreatPO45
import Derived.Test.YtenihpghfdcpkaaGreatPO46
set_option maxHeartbeats 4000000
set_option maxRecDepth 100000
namespace Go.Proofs.YtenihpghfdcpkaaGreat
open Go.RowKit
abbrev Z5S (p0 : Option Addr) (p1 : Nat) (p2 : Nat) (p3 : Option Addr) (p4 : Nat) (p5 : Nat) (p6 : Option Addr) (p7 : Nat) (p8 : Nat) (p9 : Int) (p10 : Option Addr) (p11 : Nat) (p12 : Nat) (p13 : Option Addr) (p14 : Nat) (p15 : Nat) (p16 : Int) (p17 : Option Addr) (p18 : Nat) (p19 : Nat) (p20 : Int) : List Value := ([(.slice p0 p1 p2), (.slice p3 p4 p5), (.slice p6 p7 p8), u6 p9, (.slice p10 p11 p12), (.slice p13 p14 p15), i6 p16, (.slice p17 p18 p19), u6 p20] : LV)
abbrev ZbL (p0 : Nat) (p1 : List Signed) : Ck := Z0u p0 ZZ (Value.int .i64) (Z0c p1)
abbrev ZcB (p0 : Nat) : List Value := ([(.map (some p0))] : LV)
abbrev Z1v (p0 : Int) (p1 : Nat) (p2 : Nat) (p3 : Int) (p4 : Option Addr) (p5 : Nat) (p6 : Nat) (p7 : Option Addr) (p8 : Nat) (p9 : Nat) : List Value := ([i6 p0, i6 3, (pt p1 0), (pt p2 0), i6 p0, i6 3, i6 4, u6 p3, (.slice p4 p5 p6), (.slice p7 p8 p9)] : LV)
abbrev Zcv : List Value := ([i6 0, i6 0, (.pointer none), (.pointer none), i6 0, i6 0, i6 0, u6 0, (.slice none 0 0), (.slice none 0 0)] : LV)
abbrev Zc3 (p0 : Option Addr) (p1 : List Signed) (p2 : Nat) : Ck := Zh 181 2 (.slice p0 p1.length p2) p1.length (p1.flatMap Z4R)
abbrev ZbQ (p0 : Option Addr) (p1 : List PrR) (p2 : Nat) : Ck := Zh 71 6 (.slice p0 p1.length p2) p1.length (p1.flatMap Z0C)
abbrev Zc9 (p0 : Option Addr) (p1 : List OpR) (p2 : Nat) : Ck := Zh 86 34 (.slice p0 p1.length p2) p1.length (p1.flatMap Z0Y)
abbrev Zar (p0 : Option Addr) (p1 : List TbR) (p2 : Nat) : Ck := Zh 89 2 (.slice p0 p1.length p2) p1.length (p1.flatMap Z0U)
abbrev Z2u (p0 : Int) (p1 : Option Addr) (p2 : Nat) (p3 : Nat) (p4 : Option Addr) (p5 : Nat) (p6 : Nat) (p7 : Option Addr) (p8 : Nat) (p9 : Nat) : List Value := ([i6 4, u6 p0, (.slice p1 p2 p3), (.slice p4 p5 p6), (.slice p7 p8 p9)] : LV)
abbrev Zaz : List Value := ([i6 0, u6 0, (.slice none 0 0), (.slice none 0 0), (.slice none 0 0)] : LV)
abbrev Z1e (p0 : Option Addr) (p1 : List Z1q) (p2 : Nat) : Ck := Zh 63 35 (.slice p0 p1.length p2) p1.length (p1.flatMap Z2F)
abbrev ZN (p0 : Int) (p1 : Int) : List Value := ([i6 p0, i6 p1] : LV)
abbrev Z0B (p0 : Zg) (p1 : CeR) (p2 : Nat) : List Value := ([i6 p0.cl, i6 p0.seq] : LV) ++ hc p0.h ++ ([i6 p0.len, i6 p0.sb, i6 p0.sm, (.slice p1.sa p2 p1.sc)] : LV)
abbrev Z5i : List Value := ([i6 0, i6 0] : LV) ++ hc ZC ++ ([i6 0, i6 0, i6 0, (.slice none 0 0)] : LV)
theorem ZbO {L : List Z1r} {i : Nat} (h : i < L.length) : L.getD i Z1U ∈ L := by
 rw [List.getD_eq_getElem?_getD, List.getElem?_eq_getElem h]; exact List.getElem_mem h
theorem PrV.prw {F la tm : Int} {LB : List Signed} {p : PrR} {w : World} (h : PrV F la tm LB p) (ho : PrOk w p) (htm : la < tm ∧ tm ≤ la + 60) (hla : 0 ≤ la ∧ la < 20) (hF : 1 ≤ F ∧ F ≤ 2) : PrW w p :=
 ⟨ho.1, fun i hi => ⟨(h.ce _ (Z1d hi)).x, ho.2 _ (Z1d hi), (h.ce _ (Z1d hi)).S, Nat.le_trans (h.ce _ (Z1d hi)).len (by decide)⟩, fun i hi => (h.ce _ (Z1d hi)).len, Nat.le_trans h.len (by decide), by have := h.r; have := h.e; have := h.f; omega⟩
theorem PrOk.now {w0 w : World} {G : List Ck} {p : PrR} (h : PrOk w0 p) (H : Sat w0 G w) (j : Nat) (hj : G[j]? = some (ZF w0 fun _ => False)) : PrOk w p := ⟨ListAt.now H j hj h.1, fun c hc => ListAt.now H j hj (h.2 c hc)⟩
theorem TbW.now {w w0 w' : World} {G : List Ck} {t : TbR} (h : TbW w t) (H : Sat w0 G w') (j : Nat) (hj : G[j]? = some (ZF w fun _ => False)) : TbW w' t := ⟨ListAt.now H j hj h.D, h.ok, h.len⟩
theorem Z8Y (w : World) (na ta ha oa ba lla : Option Addr) (nc tc hc_ oc bc llc : Nat) (N LL : List NmD) (TT : List TmR) (HH OO BB : List Int) (ptm psk pl : Int) (hN : ListAt Z2r 2 w (.slice na N.length nc) N) (hTT : ListAt Zen 1 w (.slice ta TT.length tc) TT) (hHH : ListAt Zdw 1 w (.slice ha HH.length hc_) HH) (hOO : ListAt Zdw 1 w (.slice oa OO.length oc) OO) (hBB : ListAt Zdw 1 w (.slice ba BB.length bc) BB) (hLL : ListAt Z2r 2 w (.slice lla LL.length llc) LL) (htt : ∀ x ∈ TT, TmOk w x) (hptm : 0 ≤ ptm ∧ ptm ≤ 18446744073709551615) (hpl : 0 ≤ pl ∧ pl ≤ 18446744073709551615) (f : Int) :
  Calls Tryz.prog 9 #[(.agg ⟨([(.slice na N.length nc), (.slice ta TT.length tc), (.slice ha HH.length hc_), u6 ptm, (.slice oa OO.length oc), (.slice ba BB.length bc), i6 psk, (.slice lla LL.length llc), u6 pl] : LV)⟩), i6 f] w fun e w' => e = .returned (.bool true) ∧ Upd [] w w' := by
 have hwf := Z2b f 2 om
 have H := Sat.start0 w
 refine Za Tryz.func9 rfl 229 rfl kn ?_
 refine zsl <| zy <| zdb (Z5S na N.length nc ta TT.length tc ha HH.length hc_ ptm oa OO.length oc ba BB.length bc psk lla LL.length llc pl) H fun b2 w3 H4 => ?_
 refine kk <| wv 4 (.bool false) <| Z0G <| zwN 21 (Z5S na N.length nc ta TT.length tc ha HH.length hc_ ptm oa OO.length oc ba BB.length bc psk lla LL.length llc pl) (H4.at 1 rfl) <| wv 22 (vi f) <| zy <| zdc 23 (ZdQ w3 (.slice na N.length nc) (.slice ta TT.length tc) (.slice ha HH.length hc_) (.slice oa OO.length oc) (.slice ba BB.length bc) ptm psk pl (by first | decide | omega) lla llc LL ((ListAt.now H4 0 rfl hLL)) f) ?_
 rintro _ w6 ⟨b7, m8, r9, a10, c11, a12, c13, rfl, k14, p15, q16⟩
 have H17 := H4.addU p15 k14 q16
 have H18 := H17.open 2 rfl
 refine ⟨_, rfl, ?_⟩
 refine kk <| wv 20 (.tuple #[(.agg ⟨(Z1v (1 + Z2 f 2) b7 r9 (pl % 20) a10 ((Z1P 3 ++ (LL.take 3).map Z2k).length) c11 a12 ((ZO 3).length) c13)⟩), (.bool true)]) <| wv 24 (.agg ⟨(Z1v (1 + Z2 f 2) b7 r9 (pl % 20) a10 ((Z1P 3 ++ (LL.take 3).map Z2k).length) c11 a12 ((ZO 3).length) c13)⟩) <| wv 25 (.bool true) <| zy <| zda (Zcv) H18 fun b20 w21 H22 => ?_
 refine kk <| zy <| Z1p (Z1v (1 + Z2 f 2) b7 r9 (pl % 20) a10 ((Z1P 3 ++ (LL.take 3).map Z2k).length) c11 a12 ((ZO 3).length) c13) H22 7 fun w24 H25 => ?_
 refine kk <| wv 6 (.bool true) <| znt <| Z7 <| Z7 ?_
 obtain ⟨F, hFe⟩ : ∃ F, F = 1 + Z2 f 2 := ⟨_, rfl⟩
 have hF : 1 ≤ F ∧ F ≤ 2 := by omega
 obtain ⟨la, hlae⟩ : ∃ la, la = pl % 20 := ⟨_, rfl⟩
 have hla2 : 0 ≤ la ∧ la < 20 := by omega
 obtain ⟨tm, htm⟩ : ∃ tm, tm = la + 1 + ptm % 60 := ⟨_, rfl⟩
 have htm2 : la < tm ∧ tm ≤ la + 60 := by omega
 have H27 : Sat w [zR w, Z0 b2 27 ([(.slice na N.length nc), (.slice ta TT.length tc), (.slice ha HH.length hc_), (vu ptm), (.slice oa OO.length oc), (.slice ba BB.length bc), (vi psk), (.slice lla LL.length llc), (vu pl)] : LV), Z0 b7 179 ([(.map (some m8))] : LV), Z0u m8 ZZ (Value.int .i64) (Z0c ([] : List Signed)), Z0 r9 165 ([(.slice none 0 0)] : LV), Zh 59 2 (.slice a10 ((Z1P 3 ++ (LL.take 3).map Z2k).length) c11) ((Z1P 3 ++ (LL.take 3).map Z2k).length) ((Z1P 3 ++ (LL.take 3).map Z2k).flatMap Z2r), Zh 102 36 (.slice a12 ((ZO 3).length) c13) ((ZO 3).length) ((ZO 3).flatMap Z4e), Z0 b20 38 ([(vi F), (vi 3), (pt b7 0), (pt r9 0), (vi F), (vi 3), (vi 4), (vu la), (.slice a10 ((Z1P 3 ++ (LL.take 3).map Z2k).length) c11), (.slice a12 ((ZO 3).length) c13)] : LV)] w24 := by rw [hFe, hlae]; exact H25
 obtain ⟨LG, hLG⟩ : ∃ LG : List NmD, LG = (Z1P 3 ++ (LL.take 3).map Z2k) := ⟨_, rfl⟩
 have lgl : LG.length ≤ 6 := by rw [hLG, List.length_append, Z67, List.length_map, List.length_take]; omega
 have H28 : Sat w [zR w, Z0 b2 27 ([(.slice na N.length nc), (.slice ta TT.length tc), (.slice ha HH.length hc_), (vu ptm), (.slice oa OO.length oc), (.slice ba BB.length bc), (vi psk), (.slice lla LL.length llc), (vu pl)] : LV), Z0 b7 179 ([(.map (some m8))] : LV), Z0u m8 ZZ (Value.int .i64) (Z0c ([] : List Signed)), Z0 r9 165 ([(.slice none 0 0)] : LV), Zh 59 2 (.slice a10 LG.length c11) LG.length (LG.flatMap Z2r), Zh 102 36 (.slice a12 ((ZO 3).length) c13) ((ZO 3).length) ((ZO 3).flatMap Z4e), Z0 b20 38 ([(vi F), (vi 3), (pt b7 0), (pt r9 0), (vi F), (vi 3), (vi 4), (vu la), (.slice a10 LG.length c11), (.slice a12 ((ZO 3).length) c13)] : LV)] w24 := by rw [hLG]; exact H27
 refine Zl <| wv 26 (.bool true) <| wv 27 (.bool false) <| znt <| Z1W rfl ?_
 refine Zm <| ztn <| zsl <| zwN 29 (Z1v F b7 r9 la a10 LG.length c11 a12 ((ZO 3).length) c13) (H28.at 7 rfl) <| zwN 30 (Z5S na N.length nc ta TT.length tc ha HH.length hc_ ptm oa OO.length oc ba BB.length bc psk lla LL.length llc pl) (H28.at 1 rfl) <| zy ?_
 have H30 := H28.addNil 181 2
 refine zdc 31 (ZbE w24 F la hF hla2 b7 m8 r9 none 0 [] (H30.fn [2, 3, 4, 8]) List.nodup_nil (by decide) (.slice a10 LG.length c11) (.slice a12 ((ZO 3).length) c13) (.slice lla LL.length llc) ptm psk pl hptm na nc N (ListAt.now H30 0 rfl hN) (Z3R Z7l (by decide) H30 [2, 3, 4, 8] 0 rfl rfl (by decide) hN) ta tc TT (ListAt.now H30 0 rfl hTT) (Z3R Zeq (by decide) H30 [2, 3, 4, 8] 0 rfl rfl (by decide) hTT) ha hc_ HH (ListAt.now H30 0 rfl hHH) (Z3R Z88 (by decide) H30 [2, 3, 4, 8] 0 rfl rfl (by decide) hHH) oa oc OO (ListAt.now H30 0 rfl hOO) (Z3R Z88 (by decide) H30 [2, 3, 4, 8] 0 rfl rfl (by decide) hOO) ba bc BB (ListAt.now H30 0 rfl hBB) (Z3R Z88 (by decide) H30 [2, 3, 4, 8] 0 rfl rfl (by decide) hBB) (fun x hx => ⟨ListAt.now H30 0 rfl (htt x hx).1, (htt x hx).2⟩) (fun x hx => (Z3R Z2o (by decide) H30 [2, 3, 4, 8] 0 rfl rfl (by decide) (htt x hx).1))) ?_
 rintro _ w31 ⟨a32, c33, PS34, a35, c36, OS37, a38, c39, TS40, a41, c42, LB43, BG44, rfl, hps45, hos46, l47, hts48, l49, hnd50, l51, p52, T53⟩
 rw [← htm] at hps45 ⊢
 have H54 := H30.tl [Z0 b7 179 (ZcB m8), (ZbL m8 LB43), Z0 r9 165 ([(.slice a41 LB43.length c42)] : LV), (Zc3 a41 LB43 c42), (ZbQ a32 PS34 c33), (Zc9 a35 OS37 c36), (Zar a38 TS40 c39), Z0s BG44] [2, 3, 4, 8] [0, 1, 5, 6, 7] T53 [8, 9, 0, 1, 2, 10, 11, 12, 3, 4, 5, 6, 7]
 refine ⟨_, rfl, ?_⟩
 have hPSl := hps45.len hF.1
 refine kk <| wv 28 (.tuple #[(vu tm), (.slice a32 PS34.length c33), (.slice a35 OS37.length c36), (.slice a38 TS40.length c39)]) <| wv 32 (vu tm) <| wv 33 (.slice a32 PS34.length c33) <| wv 34 (.slice a35 OS37.length c36) <| wv 35 (.slice a38 TS40.length c39) <| wv 7 (vu tm) <| wv 8 (.slice a32 PS34.length c33) <| wv 9 (.slice a35 OS37.length c36) <| wv 10 (.slice a38 TS40.length c39) ?_
 refine Z0G <| zwN 37 (Z1v F b7 r9 la a10 LG.length c11 a12 ((ZO 3).length) c13) (H54.at 7 rfl) <| zy <| zdc 38 (Z6r w31 b7 r9 F (3 : Int) F (3 : Int) (4 : Int) la a10 c11 LG (ListAt.row (enc := Z2r) (sz := 2) Z7l (by decide) (H54.at 5 rfl)) a12 c13 (ZO 3) (ListAt.row (enc := Z4e) (sz := 36) Z9E (by decide) (H54.at 6 rfl)) (by have q := lgl; omega) (by decide)) ?_
 rintro _ w56 ⟨m57, o58, rfl, k59, u60, f61⟩
 have H62 := H54.addU u60 k59 f61
 have H63 := H62.open 13 rfl
 refine ⟨_, rfl, ?_⟩
 refine kk <| wv 39 (vu tm) <| wv 40 (.slice a32 PS34.length c33) <| wv 41 (.slice a35 OS37.length c36) <| wv 42 (.slice a38 TS40.length c39) <| zy <| zdc 43 (Zfz w56 F (3 : Int) (4 : Int) tm la om (.map (some m57)) o58 (Z17 (ZO 3)) (H63.at 14 rfl) open3 a32 c33 PS34 (ListAt.row (enc := Z0C) (sz := 6) Z2i (by decide) (H63.at 9 rfl)) (by first | omega | (simp only [List.length_append, List.length_drop, List.length_take]; omega)) (fun p hp => (hps45.all p hp).prk (H63.at 12 rfl)) (hps45.lim hF) a35 c36 OS37 (ListAt.row (enc := Z0Y) (sz := 34) Z2h (by decide) (H63.at 10 rfl)) (by first | omega | (simp only [List.length_append, List.length_drop, List.length_take]; omega)) (fun o ho => (hos46 o ho).opk (H63.at 12 rfl)) (Nat.le_trans Z97 om) a38 c39 TS40 (ListAt.row (enc := Z0U) (sz := 2) Z2n (by decide) (H63.at 11 rfl)) (by first | omega | (simp only [List.length_append, List.length_drop, List.length_take]; omega)) (fun o ho => (hts48 o ho).tbk (H63.at 12 rfl)) (fun X => Nat.le_trans Z97 om)) ?_
 rintro _ w65 ⟨DP66, hDP67, ⟨hlt96, rfl, T97⟩ | ⟨Q68, hQ69, DO70, X71, DT72, xa73, xc74, PD75, ya76, yc77, OD78, za79, zc80, TD81, B82, hSO83, hHv84, hST85, hQl86, rfl, hcP87, hcO88, hcT89, hpin90, hoin91, htin92, hok93, hu94, hfr95⟩⟩
 ·exact absurd hlt96 (by rw [hps45.dp hDP67]; have q := hps45.len hF.1; omega)
 have H98 := H63.addU hu94 hok93 hfr95
 have H99 := H98.open 15 rfl
 refine ⟨_, rfl, ?_⟩
 refine kk <| wv 36 (.tuple #[(.agg ⟨(Z2u tm xa73 PD75.length xc74 ya76 OD78.length yc77 za79 TD81.length zc80)⟩), (vi 0)]) <| wv 44 (.agg ⟨(Z2u tm xa73 PD75.length xc74 ya76 OD78.length yc77 za79 TD81.length zc80)⟩) <| wv 45 (vi 0) <| zy <| zda (Zaz) H99 fun b101 w102 H103 => ?_
 refine kk <| zy <| Z1p (Z2u tm xa73 PD75.length xc74 ya76 OD78.length yc77 za79 TD81.length zc80) H103 19 fun w105 H106 => ?_
 refine kk <| wv 12 (vi 0) <| znt <| Z7 <| Z7 ?_
 have hb := H106.at 2 rfl
 have hm : MapAt w105 m8 ZZ (Value.int .i64) (Z0c LB43) := (H106.at 3 rfl)
 have hOD : ListAt Z0Y 34 w105 (.slice ya76 OD78.length yc77) OD78 := ListAt.row Z2h (by decide) (H106.at 16 rfl)
 have hTD : ListAt Z0U 2 w105 (.slice za79 TD81.length zc80) TD81 := ListAt.row Z2n (by decide) (H106.at 17 rfl)
 have hbg : (Z0s B82).ok w105 := H106.at 18 rfl
 have hvd : Z1S F 3 4 la LB43 (Z17 (ZO 3)) 4 tm PD75 OD78 TD81 = true := Zck hF htm2 hla2 hps45 hts48 l47 l49 hDP67 hQ69 hSO83 hHv84 hST85 hQl86 hcP87 hcO88 hcT89
 have hODl : OD78.length ≤ 4 := by have q := Z49 hcO88; have := hSO83.len; omega
 have hTDl : TD81.length ≤ 3 := by have q := Z49 hcT89; have := hST85.len; rw [List.length_take] at q; omega
 have hOk : ∀ i, i < OD78.length → ListAt Zr 1 w105 (.slice (OD78.getD i op0).pa (OD78.getD i op0).P.length (OD78.getD i op0).pc) (OD78.getD i op0).P := fun i hi => ListAt.row Zs (by decide) (show (opC _).ok _ from hbg (opC _) (hoin91 _ (Z61 hi)))
 have hOl : ∀ i, i < OD78.length → (OD78.getD i op0).P.length ≤ 1000 := fun i hi => by obtain ⟨x, hx, e⟩ := Z6J hcO88 (Z61 hi); rw [show (OD78.getD i op0).P = x.P from congrArg (fun k => k.2.1) e, (hos46 x (hSO83.in hx).1).len]; decide
 have hTk : ∀ i, i < TD81.length → TbW w105 (TD81.getD i tb0) := fun i hi => by
  obtain ⟨x, hx, e⟩ := Z6J hcT89 (Z5Z hi)
  have e2 : (TD81.getD i tb0).D = x.D := congrArg (fun k => k.2) e
  have hx2 := (hST85.in (List.mem_of_mem_take hx)).1
  refine ⟨ListAt.row Z8O (by decide) (show (tbC _).ok _ from hbg (tbC _) (htin92 _ (Z5Z hi))), fun j hj => ?_, by rw [e2]; exact Nat.le_trans (hts48 x hx2).len (by decide)⟩
  rw [e2] at hj ⊢
  exact (hts48 x hx2).ok _ (ZbO hj)
 have hU1 : Upd [] w w105 := H106.upd 0 rfl [] ne
 have hval := ZeJ hps45 (Q := Q68) (by have q := hcP87; rw [hps45.dp hDP67] at q; exact q)
 obtain ⟨P, hPe⟩ : ∃ P, P = PD75 := ⟨_, rfl⟩
 have hP : ListAt Z0C 6 w105 (.slice xa73 P.length xc74) P := by rw [hPe]; exact ListAt.row Z2i (by decide) (H106.at 15 rfl)
 have hPo : ∀ i, i < P.length → PrOk w105 (P.getD i pr0) := fun i hi => (hpin90 _ (by rw [← hPe]; exact Z2Y hi)).ok (H106.at 18 rfl)
 have hvP : ∀ p ∈ P, PrV F la tm LB43 p := by rw [hPe]; exact hval
 have hsm := PrV.sms hvP
 have hlPQ : P.length = Q68 := by rw [hPe]; have q := Z49 hcP87; rw [List.length_take] at q; omega
 have hlP : P.length ≤ 1000 := by omega
 have hlC : ∀ i, i < P.length → (P.getD i pr0).C.length ≤ 1000 := fun i hi => Nat.le_trans (hvP _ (Z2Y hi)).len (by decide)
 have hLGa : ListAt Z2r 2 w105 (.slice a10 LG.length c11) LG := ListAt.row Z7l (by decide) (H106.at 5 rfl)
 have hSPa : ListAt Z4e 36 w105 (.slice a12 (ZO 3).length c13) (ZO 3) := ListAt.row Z9E (by decide) (H106.at 6 rfl)
 have hk108 := H106.at 1 rfl
 have hk109 := H106.at 7 rfl
 have hk110 := H106.at 19 rfl
 rw [← hPe] at hk110
 have HK := Sat.start0 w105
 rw [← hPe] at hvd
 have hPk : ∀ i, i < P.length → PrW w105 (P.getD i pr0) := fun i hi => (hvP _ (Z2Y hi)).prw (hPo i hi) htm2 hla2 hF
 refine ZX HK [zR w105] 12 rfl kr (fun Hx => (Hx.pk [0])) ?_
 intro w111 H112 S113
 refine hv0 0 S113 46 (vi 0) <| hv0 1 S113 47 (.bool false) <| hv0 2 S113 48 (.bool false) <| Z1g 3 S113 2 48 false 49 (pt b20 2) <| Z1g 4 S113 2 48 false 50 (pt b20 2) <| Z1g 5 S113 2 48 false 51 (pt b7 0) ?_ (he := fun _ H' => (zl1 (H'.roCell 0 rfl hk109 (fun h => h) rfl)))
 refine Z1g 6 S113 2 48 false 52 (.agg ⟨(Z1v F b7 r9 la a10 LG.length c11 a12 ((ZO 3).length) c13)⟩) ?_ (he := fun _ H' => (zlN (vs := (Z1v F b7 r9 la a10 LG.length c11 a12 ((ZO 3).length) c13)) (H'.roCells 0 rfl hk109 (fun h => h))))
 refine Z1g 8 S113 2 48 false 54 (.agg ⟨(Z2u tm xa73 P.length xc74 ya76 OD78.length yc77 za79 TD81.length zc80)⟩) ?_ (he := fun _ H' => (zlN (vs := (Z2u tm xa73 P.length xc74 ya76 OD78.length yc77 za79 TD81.length zc80)) (H'.roCells 0 rfl hk110 (fun h => h))))
 refine Z3r 7 rfl kr (Z0a 2 48 false rfl kr rfl kr) (fun Kq kq => ?_)
 refine zdc 53 (Z6r w111 b7 r9 F (3 : Int) F (3 : Int) (4 : Int) la a10 c11 LG (ListAt.now H112 0 rfl hLGa) a12 c13 (ZO 3) (ListAt.now H112 0 rfl hSPa) (by have q := lgl; omega) (by decide)) ?_
 rintro _ w115 ⟨m116, o117, rfl, k118, u119, f120⟩
 have H121 := H112.addU u119 k118 f120
 have H122 := H121.open 1 rfl
 refine ⟨_, rfl, ?_⟩
 have S123 := H122.pk [0]
 refine kq _ _ S123 <| Z3r 9 rfl kr (Z0a 2 48 false rfl kr rfl kr) (fun Kq kq => ?_)
 refine zdq 55 (Zai w115 F 3 4 la om (.map (some m116)) o117 (Z17 (ZO 3)) (H122.at 2 rfl) open3 b7 m8 LB43 (H122.roCk 0 rfl hb (fun _ _ h => h)) (H122.roMap 0 rfl hm (fun h => h)) 4 tm xa73 xc74 P (ListAt.now H122 0 rfl hP) om (fun i hi => (hPk i hi).now H122 0 rfl) ya76 yc77 OD78 (ListAt.now H122 0 rfl hOD) om (fun i hi => ListAt.now H122 0 rfl (hOk i hi)) hOl za79 zc80 TD81 (ListAt.now H122 0 rfl hTD) om (fun i hi => (hTk i hi).now H122 0 rfl)) H122 ?_
 intro w125 H126
 have S128 := H126.pk [0]
 refine kq _ _ S128 <| Z1g 10 S128 2 48 false 56 (.bool (!(Z1S F 3 4 la LB43 (Z17 (ZO 3)) 4 tm P OD78 TD81))) <| hv0 11 S128 57 (.bool (!(Z1S F 3 4 la LB43 (Z17 (ZO 3)) 4 tm P OD78 TD81))) <| zhf <| ztn ?_
 have b129 : (!(Z1S F 3 4 la LB43 (Z17 (ZO 3)) 4 tm P OD78 TD81)) = false := by rw [hvd]; rfl
 have g130 := Z3 b129
 refine Z46 _ b129 ?_
 refine Zm <| ztn <| Z7 <| ZX H126 [zR w105, Z0u m116 nmV Value.bool (Z3q LG), Z0u o117 (Value.int .i64) Z2y (Z17 (ZO 3))] 9 rfl kr (fun Hx => (Hx.pk [0, 1, 2])) fun w131 H132 S133 => ?_
 refine hv0 0 S133 58 (pt b20 4) <| hv0 1 S133 59 (pt b20 7) <| hv0 2 S133 60 (vu la) ?_ (he := fun _ H' => (zl1 (H'.roCell 0 rfl hk109 (fun h => h) rfl)))
 refine hv0 3 S133 61 (.agg ⟨(Z1v F b7 r9 la a10 LG.length c11 a12 ((ZO 3).length) c13)⟩) ?_ (he := fun _ H' => (zlN (vs := (Z1v F b7 r9 la a10 LG.length c11 a12 ((ZO 3).length) c13)) (H'.roCells 0 rfl hk109 (fun h => h))))
 refine hv0 6 S133 64 (.agg ⟨(Z2u tm xa73 P.length xc74 ya76 OD78.length yc77 za79 TD81.length zc80)⟩) ?_ (he := fun _ H' => (zlN (vs := (Z2u tm xa73 P.length xc74 ya76 OD78.length yc77 za79 TD81.length zc80)) (H'.roCells 0 rfl hk110 (fun h => h))))
 refine zhy 4 ?_
 refine zdc 62 (Z6r w131 b7 r9 F (3 : Int) F (3 : Int) (4 : Int) la a10 c11 LG (ListAt.now H132 0 rfl hLGa) a12 c13 (ZO 3) (ListAt.now H132 0 rfl hSPa) (by have q := lgl; omega) (by decide)) ?_
 rintro _ w135 ⟨m136, o137, rfl, k138, u139, f140⟩
 have H141 := H132.addU u139 k138 f140
 have H142 := H141.open 3 rfl
 refine ⟨_, rfl, ?_⟩
 have S143 := H142.pk [0, 1, 2]
 refine kh S143 <| hv0 5 S143 63 (.map (some m136)) <| zhy 7 ?_
 refine zdc 65 (Z9j w135 la tm (4 : Int) ((.slice ya76 OD78.length yc77)) ((.slice za79 TD81.length zc80)) (.map (some m136)) (Z3q LG) (.inl ⟨_, rfl, (H142.at 3 rfl)⟩) xa73 xc74 P (ListAt.now H142 0 rfl hP) (fun i hi => (hPo i hi).now H142 0 rfl) hsm om (fun i hi => hlC i hi)) ?_
 rintro _ w145 ⟨a146, c147, O148, rfl, p149, s150, k151, u152, f153⟩
 have H154 := H142.addU u152 k151 f153
 have hlO148 := Zgo hsm.all p149
 refine ⟨_, rfl, ?_⟩
 have S155 := H154.pk [0, 1, 2]
 refine kh S155 <| hv0 8 S155 13 (.slice a146 O148.length c147) <| zhf <| ztn <| Z7 <| Z7 ?_
 have hnd1 := ZeD hsm.all p149
 have hle1 := hlO148
 refine Zl <| wv 66 (.slice a146 O148.length c147) <| wv 67 (vi O148.length) <| wv 68 (vi 0) <| znt <| Zc <| Zq ([4, 14, 15, 16, 17, 18, 19] ++ List.range' 68 160) (fun F_ W_ m_ => ∃ (i : Nat), F_ 68 = (vi i) ∧ (i ≤ O148.length) ∧ Sat w105 [zR w105, Z0u m116 nmV Value.bool (Z3q LG), Z0u o117 (Value.int .i64) Z2y (Z17 (ZO 3)), Z0u m136 nmV Value.bool (Z3q LG), Z0u o137 (Value.int .i64) Z2y (Z17 (ZO 3)), (Z1e a146 O148 c147)] W_ ∧ m_ = O148.length - i) _ ⟨0, (show ((vi 0) : Value) = _ by first | rfl | go_num), (Nat.zero_le _), H154, rfl⟩ ?_
 rintro g156 w157 _ ⟨i, v159, hi, H158, rfl⟩
 refine Ze 68 _ v159 ?_
 refine zsl <| wv 69 (.bool (decide ((i : Int) < O148.length))) <| znt <| Z7 ?_
 refine zid (fun b161 g162 => ?_) fun b161 g463 => ?_
 ·refine Zm <| ztn <| Z7 <| Zc <| zsl <| wv 70 (vi i) <| wv 14 (vi i) <| znt <| Z7 <| Z7 ?_
  obtain ⟨g164, c165, e166⟩ := Z0w (H158.at 5 rfl) om
  obtain ⟨x167, h168⟩ := Z2z (show i < O148.length by omega)
  obtain ⟨g169, c170, e171⟩ := Z0w (H158.at 5 rfl) om
  obtain ⟨x172, h173⟩ := Z2z (show i < O148.length by omega)
  obtain ⟨g174, c175, e176⟩ := Z0w (H158.at 5 rfl) om
  obtain ⟨x177, h178⟩ := Z2z (show i < O148.length by omega)
  refine ZX H158 [zR w105, Z0u m116 nmV Value.bool (Z3q LG), Z0u o117 (Value.int .i64) Z2y (Z17 (ZO 3)), Z0u m136 nmV Value.bool (Z3q LG), Z0u o137 (Value.int .i64) Z2y (Z17 (ZO 3)), (Z1e a146 O148 c147)] 30 rfl kr (fun Hx => (Hx.pk [0, 1, 2, 3, 4, 5])) ?_
  intro w179 H180 S181
  refine hv0 0 S181 71 (.slice a146 O148.length c147) <| hv0 1 S181 72 (vi i) ?_
  obtain ⟨g182, c183, e184⟩ := Z0w (H180.at 5 rfl) om
  obtain ⟨x185, h186⟩ := Z2z (show i < O148.length by omega)
  refine Z0H 2 rfl kr kr kr (fun _ _ _ h => h) S181 (Z8 rfl) (d := 73) (v := (.pointer (some ⟨g182, 0 + ((i : Int)).toNat * 35, none⟩))) rfl (fun _ H' => (ZA (E := 63) kr kr kn rfl e184 rfl om om)) ?_
  refine hv0 3 S181 74 (.pointer (some ⟨g182, 0 + ((i : Int)).toNat * 35 + 34, none⟩)) <| hv0 4 S181 75 (vu x185.t) ?_ (he := fun _ H' => (zl1 (Z0L (H'.at 5 rfl) e184 Z0b h186 34 rfl (show 0 + ((i : Int)).toNat * 35 + 34 = i * 35 + 34 by omega) kr)))
  refine hv0 5 S181 76 (pt b20 4) <| hv0 6 S181 77 (pt b20 7) <| hv0 7 S181 78 (vu la) ?_ (he := fun _ H' => (zl1 (H'.roCell 0 rfl hk109 (fun h => h) rfl)))
  refine hv0 8 S181 79 (.bool (decide (x185.t ≤ la))) <| hv0 9 S181 80 (.bool (decide (x185.t ≤ la))) ?_
  have b187 : (decide (x185.t ≤ la)) = false := by exact (Z8x p149 h186).1
  refine Z4f 80 (.bool false) (congrArg Value.bool b187) ?_
  have g188 := of_decide_eq_false b187
  refine Z1g 10 S181 9 80 false 81 (.slice a146 O148.length c147) <| Z1g 11 S181 9 80 false 82 (vi i) <| Z0H 12 rfl kr kr kr (fun _ _ _ h => h) S181 (Z0a 9 80 false rfl kr rfl kr) (d := 83) (v := (.pointer (some ⟨g182, 0 + ((i : Int)).toNat * 35, none⟩))) rfl (fun _ H' => (ZA (E := 63) kr kr kn rfl e184 rfl om om)) ?_
  refine Z1g 13 S181 9 80 false 84 (.pointer (some ⟨g182, 0 + ((i : Int)).toNat * 35 + 34, none⟩)) <| Z1g 14 S181 9 80 false 85 (vu x185.t) ?_ (he := fun _ H' => (zl1 (Z0L (H'.at 5 rfl) e184 Z0b h186 34 rfl (show 0 + ((i : Int)).toNat * 35 + 34 = i * 35 + 34 by omega) kr)))
  refine Z1g 15 S181 9 80 false 86 (pt b101 1) <| Z1g 16 S181 9 80 false 87 (vu tm) ?_ (he := fun _ H' => (zl1 (H'.roCell 0 rfl hk110 (fun h => h) rfl)))
  refine Z1g 17 S181 9 80 false 88 (.bool (decide (x185.t > tm))) <| hv0 18 S181 89 (.bool (decide (x185.t > tm))) <| hv0 19 S181 90 (.bool (decide (x185.t > tm))) ?_
  have b189 : (decide (x185.t > tm)) = false := by exact (Z8x p149 h186).2.1
  refine Z4f 90 (.bool false) (congrArg Value.bool b189) ?_
  have g190 := of_decide_eq_false b189
  refine Z1g 20 S181 19 90 false 91 (.agg ⟨(Z1v F b7 r9 la a10 LG.length c11 a12 ((ZO 3).length) c13)⟩) ?_ (he := fun _ H' => (zlN (vs := (Z1v F b7 r9 la a10 LG.length c11 a12 ((ZO 3).length) c13)) (H'.roCells 0 rfl hk109 (fun h => h))))
  refine Z1g 23 S181 19 90 false 94 (.slice a146 O148.length c147) <| Z1g 24 S181 19 90 false 95 (vi i) <| Z0H 25 rfl kr kr kr (fun _ _ _ h => h) S181 (Z0a 19 90 false rfl kr rfl kr) (d := 96) (v := (.pointer (some ⟨g182, 0 + ((i : Int)).toNat * 35, none⟩))) rfl (fun _ H' => (ZA (E := 63) kr kr kn rfl e184 rfl om om)) ?_
  refine Z1g 26 S181 19 90 false 97 (.pointer (some ⟨g182, 0 + ((i : Int)).toNat * 35, none⟩)) <| Z1g 27 S181 19 90 false 98 (.agg ⟨(ZN x185.cl x185.sq)⟩) ?_ (he := fun _ H' => (ZE (vs := (ZN x185.cl x185.sq)) rfl kr kr kn (Z0J (H'.at 5 rfl) e184 Z0b h186 0 (show 0 + ((i : Int)).toNat * 35 = i * 35 + 0 by omega) kr kr)))
  refine Z3r 21 rfl kr (Z0a 19 90 false rfl kr rfl kr) (fun Kq kq => ?_)
  refine zdc 92 (Z6r w179 b7 r9 F (3 : Int) F (3 : Int) (4 : Int) la a10 c11 LG (ListAt.now H180 0 rfl hLGa) a12 c13 (ZO 3) (ListAt.now H180 0 rfl hSPa) (by have q := lgl; omega) (by decide)) ?_
  rintro _ w192 ⟨m193, o194, rfl, k195, u196, f197⟩
  have H198 := H180.addU u196 k195 f197
  have H199 := H198.open 6 rfl
  refine ⟨_, rfl, ?_⟩
  have S200 := H199.pk [0, 1, 2, 3, 4, 5]
  refine kq _ _ S200 <| Z1g 22 S200 19 90 false 93 (.map (some m193)) <| Z3r 28 rfl kr (Z0a 19 90 false rfl kr rfl kr) (fun Kq kq => ?_)
  refine ZfJ (d := 99) (v := (.bool ((ZB (Z3q LG) (⟨x185.cl, x185.sq⟩ : NmD)).getD false))) rfl (Z25 (kt := 59) (et := 4) nmK kr (fun w => by kernel_rfl) rfl (⟨x185.cl, x185.sq⟩ : NmD) rfl (H199.at 6 rfl) (Z87 Value.bool _ _)) ?_
  have S202 := H199.pk [0, 1, 2, 3, 4, 5]
  refine kq _ _ S202 <| hv0 29 S202 100 (.bool ((ZB (Z3q LG) (⟨x185.cl, x185.sq⟩ : NmD)).getD false)) <| zhf <| ztn ?_
  have b203 : ((ZB (Z3q LG) (⟨x185.cl, x185.sq⟩ : NmD)).getD false) = false := by exact (Z8x p149 h186).2.2
  refine Z46 _ b203 ?_
  refine Zm <| ztn <| Z7 <| Z7 <| zqs H199 ?_
  refine qv 101 (vi i) <| qv 102 (.bool (decide ((i : Int) > 0))) <| qv 103 (.bool (decide ((i : Int) > 0))) ?_
  refine ziq 103 (fun b204 g205 => ?_) fun b204 g381 => ?_
  ·refine qy 2 103 true 104 (.slice a146 O148.length c147) <| qy 2 103 true 105 (vi i) <| qy 2 103 true 106 (.pointer (some ⟨g182, 0 + ((i : Int)).toNat * 35, none⟩)) ?_ (hr := fun _ H' => (ZA (E := 63) kr kr kn rfl e184 rfl om om))
   refine qy 2 103 true 107 (.pointer (some ⟨g182, 0 + ((i : Int)).toNat * 35 + 34, none⟩)) <| qy 2 103 true 108 (vu x185.t) ?_ (hr := fun _ H' => (zl1 (Z0L (H'.at 5 rfl) e184 Z0b h186 34 rfl (show 0 + ((i : Int)).toNat * 35 + 34 = i * 35 + 34 by omega) kr)))
   refine qy 2 103 true 109 (.slice a146 O148.length c147) <| qy 2 103 true 110 (vi i) <| qy 2 103 true 111 (vi ((i : Int) - 1)) ?_ (hr := fun _ H' => (Z0q (z := (i : Int) - 1) kr (IntWalk.i64_in _ om)))
   obtain ⟨g207, c208, e209⟩ := Z0w (H199.at 5 rfl) om
   obtain ⟨x210, h211⟩ := Z2z (show ((i : Int) - 1).toNat < O148.length by omega)
   refine qy 2 103 true 112 (.pointer (some ⟨g207, 0 + ((i : Int) - 1).toNat * 35, none⟩)) ?_ (hr := fun _ H' => (ZA (E := 63) kr kr kn rfl e209 rfl om om))
   refine qy 2 103 true 113 (.pointer (some ⟨g207, 0 + ((i : Int) - 1).toNat * 35 + 34, none⟩)) <| qy 2 103 true 114 (vu x210.t) ?_ (hr := fun _ H' => (zl1 (Z0L (H'.at 5 rfl) e209 Z0b h211 34 rfl (show 0 + ((i : Int) - 1).toNat * 35 + 34 = ((i : Int) - 1).toNat * 35 + 34 by omega) kr)))
   refine qy 2 103 true 115 (.bool (decide (x185.t < x210.t))) <| qy 2 103 true 116 (.bool (decide (x185.t < x210.t))) ?_
   have b212 : (decide (x185.t < x210.t)) = false := by exact Zg7 s150 h186 h211 om
   refine Z0t 116 (.bool false) (congrArg Value.bool b212) ?_
   have g213 := of_decide_eq_false b212
   refine qy 15 116 false 117 (.slice a146 O148.length c147) <| qy 15 116 false 118 (vi i) <| qy 15 116 false 119 (.pointer (some ⟨g182, 0 + ((i : Int)).toNat * 35, none⟩)) ?_ (hr := fun _ H' => (ZA (E := 63) kr kr kn rfl e184 rfl om om))
   refine qy 15 116 false 120 (.pointer (some ⟨g182, 0 + ((i : Int)).toNat * 35 + 34, none⟩)) <| qy 15 116 false 121 (vu x185.t) ?_ (hr := fun _ H' => (zl1 (Z0L (H'.at 5 rfl) e184 Z0b h186 34 rfl (show 0 + ((i : Int)).toNat * 35 + 34 = i * 35 + 34 by omega) kr)))
   refine qy 15 116 false 122 (.slice a146 O148.length c147) <| qy 15 116 false 123 (vi i) <| qy 15 116 false 124 (vi ((i : Int) - 1)) ?_ (hr := fun _ H' => (Z0q (z := (i : Int) - 1) kr (IntWalk.i64_in _ om)))
   refine qy 15 116 false 125 (.pointer (some ⟨g207, 0 + ((i : Int) - 1).toNat * 35, none⟩)) ?_ (hr := fun _ H' => (ZA (E := 63) kr kr kn rfl e209 rfl om om))
   refine qy 15 116 false 126 (.pointer (some ⟨g207, 0 + ((i : Int) - 1).toNat * 35 + 34, none⟩)) <| qy 15 116 false 127 (vu x210.t) ?_ (hr := fun _ H' => (zl1 (Z0L (H'.at 5 rfl) e209 Z0b h211 34 rfl (show 0 + ((i : Int) - 1).toNat * 35 + 34 = ((i : Int) - 1).toNat * 35 + 34 by omega) kr)))
   refine qy 15 116 false 128 (.bool (decide (x185.t = x210.t))) <| qy 15 116 false 129 (.bool (decide (x185.t = x210.t))) ?_
   refine ziq 129 (fun b214 g215 => ?_) fun b214 g299 => ?_
   ·refine qy 28 129 true 130 (.slice a146 O148.length c147) <| qy 28 129 true 131 (vi i) <| qy 28 129 true 132 (vi ((i : Int) - 1)) ?_ (hr := fun _ H' => (Z0q (z := (i : Int) - 1) kr (IntWalk.i64_in _ om)))
    refine qy 28 129 true 133 (.pointer (some ⟨g207, 0 + ((i : Int) - 1).toNat * 35, none⟩)) ?_ (hr := fun _ H' => (ZA (E := 63) kr kr kn rfl e209 rfl om om))
    refine qy 28 129 true 134 (.pointer (some ⟨g207, 0 + ((i : Int) - 1).toNat * 35, none⟩)) <| qy 28 129 true 135 (.agg ⟨(ZN x210.cl x210.sq)⟩) ?_ (hr := fun _ H' => (ZE (vs := (ZN x210.cl x210.sq)) rfl kr kr kn (Z0J (H'.at 5 rfl) e209 Z0b h211 0 (show 0 + ((i : Int) - 1).toNat * 35 = ((i : Int) - 1).toNat * 35 + 0 by omega) kr kr)))
    refine qy 28 129 true 136 (.slice a146 O148.length c147) <| qy 28 129 true 137 (vi i) <| qy 28 129 true 138 (.pointer (some ⟨g182, 0 + ((i : Int)).toNat * 35, none⟩)) ?_ (hr := fun _ H' => (ZA (E := 63) kr kr kn rfl e184 rfl om om))
    refine qy 28 129 true 139 (.pointer (some ⟨g182, 0 + ((i : Int)).toNat * 35, none⟩)) <| qy 28 129 true 140 (.agg ⟨(ZN x185.cl x185.sq)⟩) ?_ (hr := fun _ H' => (ZE (vs := (ZN x185.cl x185.sq)) rfl kr kr kn (Z0J (H'.at 5 rfl) e184 Z0b h186 0 (show 0 + ((i : Int)).toNat * 35 = i * 35 + 0 by omega) kr kr)))
    refine Z0N (Z0a 28 129 true rfl kr rfl kr) (d := 141) (v := (.bool (decide (x210.cl < x185.cl) || decide (x210.cl = x185.cl) && decide (x210.sq < x185.sq)))) rfl (fun _ _ => by kernel_rfl) (fun w' H' => (Z95 w' x210.cl x210.sq x185.cl x185.sq).mono fun _ _ h => ⟨h.1, H'.keepU h.2⟩) ?_
    refine qy 28 129 true 142 (.bool (!(decide (x210.cl < x185.cl) || decide (x210.cl = x185.cl) && decide (x210.sq < x185.sq)))) <| qy 15 116 false 143 (.bool (!(decide (x210.cl < x185.cl) || decide (x210.cl = x185.cl) && decide (x210.sq < x185.sq)))) <| qy 2 103 true 144 (.bool (!(decide (x210.cl < x185.cl) || decide (x210.cl = x185.cl) && decide (x210.sq < x185.sq)))) <| qv 145 (.bool (!(decide (x210.cl < x185.cl) || decide (x210.cl = x185.cl) && decide (x210.sq < x185.sq)))) <| Z09 fun w217 H218 => ?_
    apply ztn
    have b219 : (!(decide (x210.cl < x185.cl) || decide (x210.cl = x185.cl) && decide (x210.sq < x185.sq))) = false := by exact congrArg Bool.not (Zfc s150 hnd1 h186 h211 om om)
    have g220 := Z3 b219
    refine Z46 _ b219 ?_
    refine Zm <| ztn <| zsl <| wv 15 (.bool false) <| znt <| Z7 <| zsl <| wv 146 (pt b101 2) <| zw1 147 (.slice xa73 P.length xc74) (H218.roCell 0 rfl hk110 (fun h => h) rfl) <| wv 148 (vi P.length) ?_
    refine wv 149 (vi 0) <| znt <| Zc <| Zq ([15, 16, 17, 18] ++ List.range' 149 57) (fun F_ W_ m_ => ∃ (a_ : Nat) (inn : Bool), F_ 149 = (vi a_) ∧ F_ 15 = (.bool (inn)) ∧ (a_ ≤ P.length) ∧ (inn = ((P.take a_).flatMap (·.C)).any (inC (O148.getD i Z1K))) ∧ Sat w105 [zR w105, Z0u m116 nmV Value.bool (Z3q LG), Z0u o117 (Value.int .i64) Z2y (Z17 (ZO 3)), Z0u m136 nmV Value.bool (Z3q LG), Z0u o137 (Value.int .i64) Z2y (Z17 (ZO 3)), (Z1e a146 O148 c147), Z0u m193 nmV Value.bool (Z3q LG), Z0u o194 (Value.int .i64) Z2y (Z17 (ZO 3))] W_ ∧ m_ = P.length - a_) _ ⟨0, false, (show ((vi 0) : Value) = _ by first | rfl | go_num), (by first | rfl | go_num), (Nat.zero_le _), rfl, H218, rfl⟩ ?_
    rintro g221 w222 _ ⟨a_, inn, v224, v225, ha, hin, H223, rfl⟩
    refine Ze 149 _ v224 ?_
    refine Ze 15 _ v225 ?_
    refine zsl <| wv 150 (.bool (decide ((a_ : Int) < P.length))) <| znt <| Z7 ?_
    refine zid (fun b227 g228 => ?_) fun b227 g278 => ?_
    ·refine Zm <| ztn <| Z7 <| Zc <| zsl <| wv 151 (vi a_) <| wv 16 (vi a_) <| Z0G <| wv 152 (pt b101 2) <| zw1 153 (.slice xa73 P.length xc74) (H223.roCell 0 rfl hk110 (fun h => h) rfl) ?_
     refine wv 154 (vi a_) ?_
     obtain ⟨g230, o231, c232, e233, R234⟩ := SliceOf.atD hP pr0 (show a_ < P.length by omega)
     refine wv 155 (.pointer (some ⟨g230, o231 + ((a_ : Int)).toNat * 6, none⟩)) ?_ (hr := Zd (E := 71) kr kr kn rfl e233 rfl om om)
     refine wv 156 (.pointer (some ⟨g230, o231 + ((a_ : Int)).toNat * 6 + 3, none⟩)) <| zw1 157 (.slice (P.getD a_ pr0).ca ((P.getD a_ pr0).C).length (P.getD a_ pr0).cc) (H223.cellR 0 rfl (Z0o R234 3 kr (show o231 + ((a_ : Int)).toNat * 6 + 3 = o231 + a_ * 6 + 3 by omega)) (fun h => h)) <| wv 158 (vi (((P.getD a_ pr0).C).length)) <| wv 159 (vi 0) <| znt <| Zc ?_
     have hlCa := hlC a_ om
     refine Zq ([15, 17, 18] ++ List.range' 159 46) (fun F_ W_ m_ => ∃ (b_ : Nat) (inn2 : Bool), F_ 159 = (vi b_) ∧ F_ 15 = (.bool (inn2)) ∧ (b_ ≤ (P.getD a_ pr0).C.length) ∧ (inn2 = ((P.take a_).flatMap (·.C) ++ (P.getD a_ pr0).C.take b_).any (inC (O148.getD i Z1K))) ∧ Sat w105 [zR w105, Z0u m116 nmV Value.bool (Z3q LG), Z0u o117 (Value.int .i64) Z2y (Z17 (ZO 3)), Z0u m136 nmV Value.bool (Z3q LG), Z0u o137 (Value.int .i64) Z2y (Z17 (ZO 3)), (Z1e a146 O148 c147), Z0u m193 nmV Value.bool (Z3q LG), Z0u o194 (Value.int .i64) Z2y (Z17 (ZO 3))] W_ ∧ m_ = (P.getD a_ pr0).C.length - b_) _ ⟨0, inn, (show ((vi 0) : Value) = _ by first | rfl | go_num), (by first | rfl | go_num), (Nat.zero_le _), (by rw [hin, List.take_zero, List.append_nil]), H223, rfl⟩ ?_
     rintro g235 w236 _ ⟨b_, inn2, v238, v239, hbk, hin2, H237, rfl⟩
     refine Ze 159 _ v238 ?_
     refine Ze 15 _ v239 ?_
     refine zsl <| wv 160 (.bool (decide ((b_ : Int) < (((P.getD a_ pr0).C).length : Int)))) <| znt <| Z7 ?_
     refine zid (fun b241 g242 => ?_) fun b241 g276 => ?_
     ·refine Zm <| ztn <| Z7 <| Zc <| zsl <| wv 161 (vi b_) <| wv 17 (vi b_) <| Z0G <| wv 162 (pt b101 2) <| zw1 163 (.slice xa73 P.length xc74) (H237.roCell 0 rfl hk110 (fun h => h) rfl) ?_
      refine wv 164 (vi a_) <| wv 165 (.pointer (some ⟨g230, o231 + ((a_ : Int)).toNat * 6, none⟩)) ?_ (hr := Zd (E := 71) kr kr kn rfl e233 rfl om om)
      refine wv 166 (.pointer (some ⟨g230, o231 + ((a_ : Int)).toNat * 6 + 3, none⟩)) <| zw1 167 (.slice (P.getD a_ pr0).ca ((P.getD a_ pr0).C).length (P.getD a_ pr0).cc) (H237.cellR 0 rfl (Z0o R234 3 kr (show o231 + ((a_ : Int)).toNat * 6 + 3 = o231 + a_ * 6 + 3 by omega)) (fun h => h)) <| wv 168 (vi b_) ?_
      obtain ⟨g244, o245, c246, e247, R248⟩ := SliceOf.atD (hPo a_ om).1 ce0 (show b_ < ((P.getD a_ pr0).C).length by omega)
      refine wv 169 (.pointer (some ⟨g244, o245 + ((b_ : Int)).toNat * 38, none⟩)) ?_ (hr := Zd (E := 76) kr kr kn rfl e247 rfl om om)
      refine wv 170 (.agg ⟨(Z0B ((((P.getD a_ pr0).C).getD b_ ce0).x) (((P.getD a_ pr0).C).getD b_ ce0) (((((P.getD a_ pr0).C).getD b_ ce0).S).length))⟩) ?_ (hr := ZE (vs := (Z0B ((((P.getD a_ pr0).C).getD b_ ce0).x) (((P.getD a_ pr0).C).getD b_ ce0) (((((P.getD a_ pr0).C).getD b_ ce0).S).length))) rfl kr kr kn (H237.runR 0 rfl (Z0k R248 0 kr (show o245 + ((b_ : Int)).toNat * 38 = o245 + b_ * 38 + 0 by omega)) (fun h => h)))
      refine zy <| zda (Z5i) H237 fun b250 w251 H252 => ?_
      refine kk <| zy <| Z1p (Z0B ((((P.getD a_ pr0).C).getD b_ ce0).x) (((P.getD a_ pr0).C).getD b_ ce0) (((((P.getD a_ pr0).C).getD b_ ce0).S).length)) H252 8 fun w254 H255 => ?_
      refine kk <| znt <| zqs H255 ?_
      refine qv 171 (.bool (inn2)) <| qv 172 (.bool (inn2)) ?_
      refine (ZS (inn2)).elim (fun b257 => ?_) (fun b257 => ?_)
      ·refine Z0t 172 (.bool true) (congrArg Value.bool b257) ?_
       iterate 10 refine qn 1 172 false ?_
       iterate 9 refine qu 11 182 true ?_
       iterate 2 refine qn 1 172 false ?_
       iterate 8 refine qu 22 193 true ?_
       refine qn 1 172 false ?_
       refine qv 203 (.bool true) <| qv 15 (.bool true) <| Z09 fun w258 H259 => ?_
       refine Z6 <| ztn <| Zl <| zwi 204 ((b_ : Int) + 1) <| wv 159 (vi ((b_ : Int) + 1)) <| Zn ?_
       have hin3 : true = ((P.take a_).flatMap (·.C) ++ (P.getD a_ pr0).C.take (b_ + 1)).any (inC (O148.getD i Z1K)) := by
        rw [Z0K om, ← List.append_assoc, List.any_append, ← hin2]
        simp only [List.any_cons, List.any_nil, Bool.or_false, inC, b241, b257, bls]
       have H260 := H259.pk [0, 1, 2, 3, 4, 5, 6, 7]
       refine Z5 ?_ _ ⟨(b_ + 1), true, rfl, rfl, om, hin3, H260, rfl⟩ om
       exact zs
      refine Z0t 172 (.bool false) (congrArg Value.bool b257) ?_
      refine qy 1 172 false 173 (pt b250 0) <| qy 1 172 false 174 (pt b250 0) <| qy 1 172 false 175 (.agg ⟨(ZN ((((P.getD a_ pr0).C).getD b_ ce0).x.cl) ((((P.getD a_ pr0).C).getD b_ ce0).x.seq))⟩) ?_ (hr := fun _ H' => (zlN (vs := (ZN ((((P.getD a_ pr0).C).getD b_ ce0).x.cl) ((((P.getD a_ pr0).C).getD b_ ce0).x.seq))) (H'.at 8 rfl)))
      refine qy 1 172 false 176 (.slice a146 O148.length c147) <| qy 1 172 false 177 (vi i) <| qy 1 172 false 178 (.pointer (some ⟨g182, 0 + ((i : Int)).toNat * 35, none⟩)) ?_ (hr := fun _ H' => (ZA (E := 63) kr kr kn rfl e184 rfl om om))
      refine qy 1 172 false 179 (.pointer (some ⟨g182, 0 + ((i : Int)).toNat * 35, none⟩)) <| qy 1 172 false 180 (.agg ⟨(ZN x185.cl x185.sq)⟩) ?_ (hr := fun _ H' => (ZE (vs := (ZN x185.cl x185.sq)) rfl kr kr kn (Z0J (H'.at 5 rfl) e184 Z0b h186 0 (show 0 + ((i : Int)).toNat * 35 = i * 35 + 0 by omega) kr kr)))
      refine qy 1 172 false 181 (.bool (decide (((((P.getD a_ pr0).C).getD b_ ce0).x.cl) = x185.cl ∧ ((((P.getD a_ pr0).C).getD b_ ce0).x.seq) = x185.sq))) ?_ (hr := fun _ H' => (Z6y ((((P.getD a_ pr0).C).getD b_ ce0).x.cl) ((((P.getD a_ pr0).C).getD b_ ce0).x.seq) x185.cl x185.sq rfl rfl))
      refine qy 1 172 false 182 (.bool (decide (((((P.getD a_ pr0).C).getD b_ ce0).x.cl) = x185.cl ∧ ((((P.getD a_ pr0).C).getD b_ ce0).x.seq) = x185.sq))) ?_
      refine ziq 182 (fun b261 _ => ?_) fun b261 _ => ?_
      ·refine qy 11 182 true 183 (pt b250 0) <| qy 11 182 true 184 (pt b250 2) <| qy 11 182 true 185 (.agg ⟨(hc (((P.getD a_ pr0).C).getD b_ ce0).x.h)⟩) ?_ (hr := fun _ H' => (zlN (vs := (hc (((P.getD a_ pr0).C).getD b_ ce0).x.h)) (H'.at 8 rfl)))
       refine qy 11 182 true 186 (.slice a146 O148.length c147) <| qy 11 182 true 187 (vi i) <| qy 11 182 true 188 (.pointer (some ⟨g182, 0 + ((i : Int)).toNat * 35, none⟩)) ?_ (hr := fun _ H' => (ZA (E := 63) kr kr kn rfl e184 rfl om om))
       refine qy 11 182 true 189 (.pointer (some ⟨g182, 0 + ((i : Int)).toNat * 35 + 2, none⟩)) <| qy 11 182 true 190 (.agg ⟨(hc x185.h)⟩) ?_ (hr := fun _ H' => (ZE (vs := (hc x185.h)) rfl kr kr kn (Z0J (H'.at 5 rfl) e184 Z0b h186 2 (show 0 + ((i : Int)).toNat * 35 + 2 = i * 35 + 2 by omega) kr kr)))
       refine qy 11 182 true 191 (.bool (decide (((((P.getD a_ pr0).C).getD b_ ce0).x.h) = x185.h))) ?_ (hr := fun _ H' => (Z6s ((((P.getD a_ pr0).C).getD b_ ce0).x.h) x185.h rfl rfl))
       refine qy 1 172 false 192 (.bool (decide (((((P.getD a_ pr0).C).getD b_ ce0).x.h) = x185.h))) <| qy 1 172 false 193 (.bool (decide (((((P.getD a_ pr0).C).getD b_ ce0).x.h) = x185.h))) ?_
       refine ziq 193 (fun b262 g263 => ?_) fun b262 g268 => ?_
       ·refine qy 22 193 true 194 (.agg ⟨(Z0B ((((P.getD a_ pr0).C).getD b_ ce0).x) (((P.getD a_ pr0).C).getD b_ ce0) (((((P.getD a_ pr0).C).getD b_ ce0).S).length))⟩) ?_ (hr := fun _ H' => (Z37 (vs := (Z0B ((((P.getD a_ pr0).C).getD b_ ce0).x) (((P.getD a_ pr0).C).getD b_ ce0) (((((P.getD a_ pr0).C).getD b_ ce0).S).length))) rfl kr kr kn (H'.at 8 rfl) kr))
        refine Z0N (Z0a 22 193 true rfl kr rfl kr) (d := 195) (v := (vu (Zz (((P.getD a_ pr0).C).getD b_ ce0).S))) rfl (fun _ _ => by kernel_rfl) (fun w' H' => (Z2D w' (((P.getD a_ pr0).C).getD b_ ce0).x (((P.getD a_ pr0).C).getD b_ ce0).sa (((P.getD a_ pr0).C).getD b_ ce0).sc (((P.getD a_ pr0).C).getD b_ ce0).S (ListAt.now H' 0 rfl (Z6R hPo om om)) ((hvP _ (Z2Y (show a_ < P.length by omega))).ce _ (Z1d (show b_ < (P.getD a_ pr0).C.length by omega))).len).mono fun _ _ h => ⟨h.1, H'.keepU h.2⟩) ?_
        refine qy 22 193 true 196 (.slice a146 O148.length c147) <| qy 22 193 true 197 (vi i) <| qy 22 193 true 198 (.pointer (some ⟨g182, 0 + ((i : Int)).toNat * 35, none⟩)) ?_ (hr := fun _ H' => (ZA (E := 63) kr kr kn rfl e184 rfl om om))
        refine qy 22 193 true 199 (.pointer (some ⟨g182, 0 + ((i : Int)).toNat * 35 + 34, none⟩)) <| qy 22 193 true 200 (vu x185.t) ?_ (hr := fun _ H' => (zl1 (Z0L (H'.at 5 rfl) e184 Z0b h186 34 rfl (show 0 + ((i : Int)).toNat * 35 + 34 = i * 35 + 34 by omega) kr)))
        refine qy 22 193 true 201 (.bool (decide ((Zz (((P.getD a_ pr0).C).getD b_ ce0).S) = x185.t))) <| qy 1 172 false 202 (.bool (decide ((Zz (((P.getD a_ pr0).C).getD b_ ce0).S) = x185.t))) <| qv 203 (.bool (decide ((Zz (((P.getD a_ pr0).C).getD b_ ce0).S) = x185.t))) <| qv 15 (.bool (decide ((Zz (((P.getD a_ pr0).C).getD b_ ce0).S) = x185.t))) <| Z09 fun w265 H266 => ?_
        refine Z6 <| ztn <| Zl <| zwi 204 ((b_ : Int) + 1) <| wv 159 (vi ((b_ : Int) + 1)) <| Zn ?_
        have hin3 : (decide ((Zz (((P.getD a_ pr0).C).getD b_ ce0).S) = x185.t)) = ((P.take a_).flatMap (·.C) ++ (P.getD a_ pr0).C.take (b_ + 1)).any (inC (O148.getD i Z1K)) := by
         rw [Z0K om, ← List.append_assoc, List.any_append, ← hin2]
         have e_ : O148.getD i Z1K = x185 := by rw [List.getD_eq_getElem?_getD, h186]; rfl
         rw [e_]
         simp only [List.any_cons, List.any_nil, Bool.or_false, inC, b241, b257, b261, b262, bls]
        have H267 := H266.pk [0, 1, 2, 3, 4, 5, 6, 7]
        refine Z5 ?_ _ ⟨(b_ + 1), (decide ((Zz (((P.getD a_ pr0).C).getD b_ ce0).S) = x185.t)), rfl, (show ((.bool (decide ((Zz (((P.getD a_ pr0).C).getD b_ ce0).S) = x185.t))) : Value) = _ by first | rfl | go_num), om, hin3, H267, rfl⟩ om
        exact zs
       iterate 8 refine qn 22 193 true ?_
       refine qy 1 172 false 202 (.bool false) <| qv 203 (.bool false) <| qv 15 (.bool false) <| Z09 fun w270 H271 => ?_
       refine Z6 <| ztn <| Zl <| zwi 204 ((b_ : Int) + 1) <| wv 159 (vi ((b_ : Int) + 1)) <| Zn ?_
       have hin3 : false = ((P.take a_).flatMap (·.C) ++ (P.getD a_ pr0).C.take (b_ + 1)).any (inC (O148.getD i Z1K)) := by
        rw [Z0K om, ← List.append_assoc, List.any_append, ← hin2]
        have e_ : O148.getD i Z1K = x185 := by rw [List.getD_eq_getElem?_getD, h186]; rfl
        rw [e_]
        simp only [List.any_cons, List.any_nil, Bool.or_false, inC, b241, b257, b261, b262, bls]
       have H272 := H271.pk [0, 1, 2, 3, 4, 5, 6, 7]
       refine Z5 ?_ _ ⟨(b_ + 1), false, rfl, rfl, om, hin3, H272, rfl⟩ om
       exact zs
      iterate 9 refine qn 11 182 true ?_
      refine qy 1 172 false 192 (.bool false) <| qy 1 172 false 193 (.bool false) ?_
      iterate 8 refine qn 22 193 true ?_
      refine qy 1 172 false 202 (.bool false) <| qv 203 (.bool false) <| qv 15 (.bool false) <| Z09 fun w273 H274 => ?_
      refine Z6 <| ztn <| Zl <| zwi 204 ((b_ : Int) + 1) <| wv 159 (vi ((b_ : Int) + 1)) <| Zn ?_
      have hin3 : false = ((P.take a_).flatMap (·.C) ++ (P.getD a_ pr0).C.take (b_ + 1)).any (inC (O148.getD i Z1K)) := by
       rw [Z0K om, ← List.append_assoc, List.any_append, ← hin2]
       have e_ : O148.getD i Z1K = x185 := by rw [List.getD_eq_getElem?_getD, h186]; rfl
       rw [e_]
       simp only [List.any_cons, List.any_nil, Bool.or_false, inC, b241, b257, b261, bls]
      have H275 := H274.pk [0, 1, 2, 3, 4, 5, 6, 7]
      refine Z5 ?_ _ ⟨(b_ + 1), false, rfl, rfl, om, hin3, H275, rfl⟩ om
      exact zs
     refine zxb <| Z6 <| ztn <| Zl <| zwi 205 ((a_ : Int) + 1) <| wv 149 (vi ((a_ : Int) + 1)) <| Zn <| Z5 ?_ _ ⟨(a_ + 1), (inn2), rfl, rfl, om, (by rw [Z6w om, hin2, List.take_of_length_le (l := (P.getD a_ pr0).C) om]), H237, rfl⟩ om
     exact zs
    refine zxb <| ztn <| Z7 <| Z7 ?_
    have hinT : inn = true := by rw [hin, List.take_of_length_le om]; exact ZdY p149 (show O148[i]? = some (O148.getD i Z1K) by rw [List.getD_eq_getElem?_getD, List.getElem?_eq_getElem (show i < O148.length by omega)]; rfl)
    refine Ze 15 (.bool true) (show ((.bool (inn)) : Value) = _ by rw [hinT]) ?_
    refine Zl <| wv 19 (vi 0) <| znt <| Zc <| Zq ([15, 19] ++ List.range' 206 19) (fun F_ W_ m_ => ∃ (k : Nat), F_ 19 = (vi k) ∧ F_ 15 = (.bool true) ∧ (k ≤ i) ∧ Sat w105 [zR w105, Z0u m116 nmV Value.bool (Z3q LG), Z0u o117 (Value.int .i64) Z2y (Z17 (ZO 3)), Z0u m136 nmV Value.bool (Z3q LG), Z0u o137 (Value.int .i64) Z2y (Z17 (ZO 3)), (Z1e a146 O148 c147), Z0u m193 nmV Value.bool (Z3q LG), Z0u o194 (Value.int .i64) Z2y (Z17 (ZO 3))] W_ ∧ m_ = i - k) _ ⟨0, (show ((vi 0) : Value) = _ by first | rfl | go_num), (by first | rfl | go_num), (Nat.zero_le _), H223, rfl⟩ ?_
    rintro g280 w281 _ ⟨k, v283, v284, hk, H282, rfl⟩
    refine Ze 19 _ v283 ?_
    refine Ze 15 _ v284 ?_
    refine Z7 <| zsl <| wv 206 (vi k) <| wv 207 (vi i) <| wv 208 (.bool (decide ((k : Int) < i))) <| znt ?_
    refine zid (fun b286 g287 => ?_) fun b286 g296 => ?_
    ·refine Zm <| ztn <| Z7 <| Zc <| zqs H282 ?_
     refine qv 211 (.bool true) <| qv 212 (.bool true) <| qy 1 212 true 213 (.slice a146 O148.length c147) <| qy 1 212 true 214 (vi k) ?_
     obtain ⟨g289, c290, e291⟩ := Z0w (H282.at 5 rfl) om
     obtain ⟨x292, h293⟩ := Z2z (show k < O148.length by omega)
     refine qy 1 212 true 215 (.pointer (some ⟨g289, 0 + ((k : Int)).toNat * 35, none⟩)) ?_ (hr := fun _ H' => (ZA (E := 63) kr kr kn rfl e291 rfl om om))
     refine qy 1 212 true 216 (.pointer (some ⟨g289, 0 + ((k : Int)).toNat * 35, none⟩)) <| qy 1 212 true 217 (.agg ⟨(ZN x292.cl x292.sq)⟩) ?_ (hr := fun _ H' => (ZE (vs := (ZN x292.cl x292.sq)) rfl kr kr kn (Z0J (H'.at 5 rfl) e291 Z0b h293 0 (show 0 + ((k : Int)).toNat * 35 = k * 35 + 0 by omega) kr kr)))
     refine qy 1 212 true 218 (.slice a146 O148.length c147) <| qy 1 212 true 219 (vi i) <| qy 1 212 true 220 (.pointer (some ⟨g182, 0 + ((i : Int)).toNat * 35, none⟩)) ?_ (hr := fun _ H' => (ZA (E := 63) kr kr kn rfl e184 rfl om om))
     refine qy 1 212 true 221 (.pointer (some ⟨g182, 0 + ((i : Int)).toNat * 35, none⟩)) <| qy 1 212 true 222 (.agg ⟨(ZN x185.cl x185.sq)⟩) ?_ (hr := fun _ H' => (ZE (vs := (ZN x185.cl x185.sq)) rfl kr kr kn (Z0J (H'.at 5 rfl) e184 Z0b h186 0 (show 0 + ((i : Int)).toNat * 35 = i * 35 + 0 by omega) kr kr)))
     refine qy 1 212 true 223 (.bool (!(decide (x292.cl = x185.cl ∧ x292.sq = x185.sq)))) ?_ (hr := fun _ H' => (Z3k x292.cl x292.sq x185.cl x185.sq rfl rfl))
     refine qv 224 (.bool (!(decide (x292.cl = x185.cl ∧ x292.sq = x185.sq)))) <| qv 15 (.bool (!(decide (x292.cl = x185.cl ∧ x292.sq = x185.sq)))) <| Z09 fun w294 H295 => ?_
     refine Z6 <| ztn ?_
     have hnm := Z8B hnd1 h186 h293 (show k < i by omega)
     refine Ze 15 (.bool true) (show ((.bool (!(decide (x292.cl = x185.cl ∧ x292.sq = x185.sq)))) : Value) = _ by rw [show decide (x292.cl = x185.cl ∧ x292.sq = x185.sq) = false by rw [decide_eq_false_iff_not] at hnm ⊢; omega]; rfl) ?_
     refine Zl <| wv 209 (vi k) <| zwi 210 ((k : Int) + 1) <| wv 19 (vi ((k : Int) + 1)) <| Zn <| Z5 ?_ _ ⟨(k + 1), rfl, rfl, om, H295, rfl⟩ om
     exact zs
    refine zxb <| ztn <| zsl <| wv 225 (.bool true) <| wv 226 (.bool false) <| znt <| Z1W rfl ?_
    refine Zm <| Z6 <| ztn <| Zl <| zwi 227 ((i : Int) + 1) <| wv 68 (vi ((i : Int) + 1)) <| Zn ?_
    have H298 := H282.pk [0, 1, 2, 3, 4, 5]
    refine Z5 ?_ _ ⟨(i + 1), rfl, om, H298, rfl⟩ om
    exact zs
   iterate 13 refine qn 28 129 true ?_
   refine qy 15 116 false 143 (.bool false) <| qy 2 103 true 144 (.bool false) <| qv 145 (.bool false) <| Z09 fun w301 H302 => ?_
   refine ztn <| Z1W rfl ?_
   refine Zm <| ztn <| zsl <| wv 15 (.bool false) <| znt <| Z7 <| zsl <| wv 146 (pt b101 2) <| zw1 147 (.slice xa73 P.length xc74) (H302.roCell 0 rfl hk110 (fun h => h) rfl) <| wv 148 (vi P.length) ?_
   refine wv 149 (vi 0) <| znt <| Zc <| Zq ([15, 16, 17, 18] ++ List.range' 149 57) (fun F_ W_ m_ => ∃ (a_ : Nat) (inn : Bool), F_ 149 = (vi a_) ∧ F_ 15 = (.bool (inn)) ∧ (a_ ≤ P.length) ∧ (inn = ((P.take a_).flatMap (·.C)).any (inC (O148.getD i Z1K))) ∧ Sat w105 [zR w105, Z0u m116 nmV Value.bool (Z3q LG), Z0u o117 (Value.int .i64) Z2y (Z17 (ZO 3)), Z0u m136 nmV Value.bool (Z3q LG), Z0u o137 (Value.int .i64) Z2y (Z17 (ZO 3)), (Z1e a146 O148 c147), Z0u m193 nmV Value.bool (Z3q LG), Z0u o194 (Value.int .i64) Z2y (Z17 (ZO 3))] W_ ∧ m_ = P.length - a_) _ ⟨0, false, (show ((vi 0) : Value) = _ by first | rfl | go_num), (by first | rfl | go_num), (Nat.zero_le _), rfl, H302, rfl⟩ ?_
   rintro g303 w304 _ ⟨a_, inn, v306, v307, ha, hin, H305, rfl⟩
   refine Ze 149 _ v306 ?_
   refine Ze 15 _ v307 ?_
   refine zsl <| wv 150 (.bool (decide ((a_ : Int) < P.length))) <| znt <| Z7 ?_
   refine zid (fun b309 g310 => ?_) fun b309 g360 => ?_
   ·refine Zm <| ztn <| Z7 <| Zc <| zsl <| wv 151 (vi a_) <| wv 16 (vi a_) <| Z0G <| wv 152 (pt b101 2) <| zw1 153 (.slice xa73 P.length xc74) (H305.roCell 0 rfl hk110 (fun h => h) rfl) ?_
    refine wv 154 (vi a_) ?_
    obtain ⟨g312, o313, c314, e315, R316⟩ := SliceOf.atD hP pr0 (show a_ < P.length by omega)
    refine wv 155 (.pointer (some ⟨g312, o313 + ((a_ : Int)).toNat * 6, none⟩)) ?_ (hr := Zd (E := 71) kr kr kn rfl e315 rfl om om)
    refine wv 156 (.pointer (some ⟨g312, o313 + ((a_ : Int)).toNat * 6 + 3, none⟩)) <| zw1 157 (.slice (P.getD a_ pr0).ca ((P.getD a_ pr0).C).length (P.getD a_ pr0).cc) (H305.cellR 0 rfl (Z0o R316 3 kr (show o313 + ((a_ : Int)).toNat * 6 + 3 = o313 + a_ * 6 + 3 by omega)) (fun h => h)) <| wv 158 (vi (((P.getD a_ pr0).C).length)) <| wv 159 (vi 0) <| znt <| Zc ?_
    have hlCa := hlC a_ om
    refine Zq ([15, 17, 18] ++ List.range' 159 46) (fun F_ W_ m_ => ∃ (b_ : Nat) (inn2 : Bool), F_ 159 = (vi b_) ∧ F_ 15 = (.bool (inn2)) ∧ (b_ ≤ (P.getD a_ pr0).C.length) ∧ (inn2 = ((P.take a_).flatMap (·.C) ++ (P.getD a_ pr0).C.take b_).any (inC (O148.getD i Z1K))) ∧ Sat w105 [zR w105, Z0u m116 nmV Value.bool (Z3q LG), Z0u o117 (Value.int .i64) Z2y (Z17 (ZO 3)), Z0u m136 nmV Value.bool (Z3q LG), Z0u o137 (Value.int .i64) Z2y (Z17 (ZO 3)), (Z1e a146 O148 c147), Z0u m193 nmV Value.bool (Z3q LG), Z0u o194 (Value.int .i64) Z2y (Z17 (ZO 3))] W_ ∧ m_ = (P.getD a_ pr0).C.length - b_) _ ⟨0, inn, (show ((vi 0) : Value) = _ by first | rfl | go_num), (by first | rfl | go_num), (Nat.zero_le _), (by rw [hin, List.take_zero, List.append_nil]), H305, rfl⟩ ?_
    rintro g317 w318 _ ⟨b_, inn2, v320, v321, hbk, hin2, H319, rfl⟩
    refine Ze 159 _ v320 ?_
    refine Ze 15 _ v321 ?_
    refine zsl <| wv 160 (.bool (decide ((b_ : Int) < (((P.getD a_ pr0).C).length : Int)))) <| znt <| Z7 ?_
    refine zid (fun b323 g324 => ?_) fun b323 g358 => ?_
    ·refine Zm <| ztn <| Z7 <| Zc <| zsl <| wv 161 (vi b_) <| wv 17 (vi b_) <| Z0G <| wv 162 (pt b101 2) <| zw1 163 (.slice xa73 P.length xc74) (H319.roCell 0 rfl hk110 (fun h => h) rfl) ?_
     refine wv 164 (vi a_) <| wv 165 (.pointer (some ⟨g312, o313 + ((a_ : Int)).toNat * 6, none⟩)) ?_ (hr := Zd (E := 71) kr kr kn rfl e315 rfl om om)
     refine wv 166 (.pointer (some ⟨g312, o313 + ((a_ : Int)).toNat * 6 + 3, none⟩)) <| zw1 167 (.slice (P.getD a_ pr0).ca ((P.getD a_ pr0).C).length (P.getD a_ pr0).cc) (H319.cellR 0 rfl (Z0o R316 3 kr (show o313 + ((a_ : Int)).toNat * 6 + 3 = o313 + a_ * 6 + 3 by omega)) (fun h => h)) <| wv 168 (vi b_) ?_
     obtain ⟨g326, o327, c328, e329, R330⟩ := SliceOf.atD (hPo a_ om).1 ce0 (show b_ < ((P.getD a_ pr0).C).length by omega)
     refine wv 169 (.pointer (some ⟨g326, o327 + ((b_ : Int)).toNat * 38, none⟩)) ?_ (hr := Zd (E := 76) kr kr kn rfl e329 rfl om om)
     refine wv 170 (.agg ⟨(Z0B ((((P.getD a_ pr0).C).getD b_ ce0).x) (((P.getD a_ pr0).C).getD b_ ce0) (((((P.getD a_ pr0).C).getD b_ ce0).S).length))⟩) ?_ (hr := ZE (vs := (Z0B ((((P.getD a_ pr0).C).getD b_ ce0).x) (((P.getD a_ pr0).C).getD b_ ce0) (((((P.getD a_ pr0).C).getD b_ ce0).S).length))) rfl kr kr kn (H319.runR 0 rfl (Z0k R330 0 kr (show o327 + ((b_ : Int)).toNat * 38 = o327 + b_ * 38 + 0 by omega)) (fun h => h)))
     refine zy <| zda (Z5i) H319 fun b332 w333 H334 => ?_
     refine kk <| zy <| Z1p (Z0B ((((P.getD a_ pr0).C).getD b_ ce0).x) (((P.getD a_ pr0).C).getD b_ ce0) (((((P.getD a_ pr0).C).getD b_ ce0).S).length)) H334 8 fun w336 H337 => ?_
     refine kk <| znt <| zqs H337 ?_
     refine qv 171 (.bool (inn2)) <| qv 172 (.bool (inn2)) ?_
     refine (ZS (inn2)).elim (fun b339 => ?_) (fun b339 => ?_)
     ·refine Z0t 172 (.bool true) (congrArg Value.bool b339) ?_
      iterate 10 refine qn 1 172 false ?_
      iterate 9 refine qu 11 182 true ?_
      iterate 2 refine qn 1 172 false ?_
      iterate 8 refine qu 22 193 true ?_
      refine qn 1 172 false ?_
      refine qv 203 (.bool true) <| qv 15 (.bool true) <| Z09 fun w340 H341 => ?_
      refine Z6 <| ztn <| Zl <| zwi 204 ((b_ : Int) + 1) <| wv 159 (vi ((b_ : Int) + 1)) <| Zn ?_
      have hin3 : true = ((P.take a_).flatMap (·.C) ++ (P.getD a_ pr0).C.take (b_ + 1)).any (inC (O148.getD i Z1K)) := by
       rw [Z0K om, ← List.append_assoc, List.any_append, ← hin2]
       simp only [List.any_cons, List.any_nil, Bool.or_false, inC, b323, b339, bls]
      have H342 := H341.pk [0, 1, 2, 3, 4, 5, 6, 7]
      refine Z5 ?_ _ ⟨(b_ + 1), true, rfl, rfl, om, hin3, H342, rfl⟩ om
      exact zs
     refine Z0t 172 (.bool false) (congrArg Value.bool b339) ?_
     refine qy 1 172 false 173 (pt b332 0) <| qy 1 172 false 174 (pt b332 0) <| qy 1 172 false 175 (.agg ⟨(ZN ((((P.getD a_ pr0).C).getD b_ ce0).x.cl) ((((P.getD a_ pr0).C).getD b_ ce0).x.seq))⟩) ?_ (hr := fun _ H' => (zlN (vs := (ZN ((((P.getD a_ pr0).C).getD b_ ce0).x.cl) ((((P.getD a_ pr0).C).getD b_ ce0).x.seq))) (H'.at 8 rfl)))
     refine qy 1 172 false 176 (.slice a146 O148.length c147) <| qy 1 172 false 177 (vi i) <| qy 1 172 false 178 (.pointer (some ⟨g182, 0 + ((i : Int)).toNat * 35, none⟩)) ?_ (hr := fun _ H' => (ZA (E := 63) kr kr kn rfl e184 rfl om om))
     refine qy 1 172 false 179 (.pointer (some ⟨g182, 0 + ((i : Int)).toNat * 35, none⟩)) <| qy 1 172 false 180 (.agg ⟨(ZN x185.cl x185.sq)⟩) ?_ (hr := fun _ H' => (ZE (vs := (ZN x185.cl x185.sq)) rfl kr kr kn (Z0J (H'.at 5 rfl) e184 Z0b h186 0 (show 0 + ((i : Int)).toNat * 35 = i * 35 + 0 by omega) kr kr)))
     refine qy 1 172 false 181 (.bool (decide (((((P.getD a_ pr0).C).getD b_ ce0).x.cl) = x185.cl ∧ ((((P.getD a_ pr0).C).getD b_ ce0).x.seq) = x185.sq))) ?_ (hr := fun _ H' => (Z6y ((((P.getD a_ pr0).C).getD b_ ce0).x.cl) ((((P.getD a_ pr0).C).getD b_ ce0).x.seq) x185.cl x185.sq rfl rfl))
     refine qy 1 172 false 182 (.bool (decide (((((P.getD a_ pr0).C).getD b_ ce0).x.cl) = x185.cl ∧ ((((P.getD a_ pr0).C).getD b_ ce0).x.seq) = x185.sq))) ?_
     refine ziq 182 (fun b343 _ => ?_) fun b343 _ => ?_
     ·refine qy 11 182 true 183 (pt b332 0) <| qy 11 182 true 184 (pt b332 2) <| qy 11 182 true 185 (.agg ⟨(hc (((P.getD a_ pr0).C).getD b_ ce0).x.h)⟩) ?_ (hr := fun _ H' => (zlN (vs := (hc (((P.getD a_ pr0).C).getD b_ ce0).x.h)) (H'.at 8 rfl)))
      refine qy 11 182 true 186 (.slice a146 O148.length c147) <| qy 11 182 true 187 (vi i) <| qy 11 182 true 188 (.pointer (some ⟨g182, 0 + ((i : Int)).toNat * 35, none⟩)) ?_ (hr := fun _ H' => (ZA (E := 63) kr kr kn rfl e184 rfl om om))
      refine qy 11 182 true 189 (.pointer (some ⟨g182, 0 + ((i : Int)).toNat * 35 + 2, none⟩)) <| qy 11 182 true 190 (.agg ⟨(hc x185.h)⟩) ?_ (hr := fun _ H' => (ZE (vs := (hc x185.h)) rfl kr kr kn (Z0J (H'.at 5 rfl) e184 Z0b h186 2 (show 0 + ((i : Int)).toNat * 35 + 2 = i * 35 + 2 by omega) kr kr)))
      refine qy 11 182 true 191 (.bool (decide (((((P.getD a_ pr0).C).getD b_ ce0).x.h) = x185.h))) ?_ (hr := fun _ H' => (Z6s ((((P.getD a_ pr0).C).getD b_ ce0).x.h) x185.h rfl rfl))
      refine qy 1 172 false 192 (.bool (decide (((((P.getD a_ pr0).C).getD b_ ce0).x.h) = x185.h))) <| qy 1 172 false 193 (.bool (decide (((((P.getD a_ pr0).C).getD b_ ce0).x.h) = x185.h))) ?_
      refine ziq 193 (fun b344 g345 => ?_) fun b344 g350 => ?_
      ·refine qy 22 193 true 194 (.agg ⟨(Z0B ((((P.getD a_ pr0).C).getD b_ ce0).x) (((P.getD a_ pr0).C).getD b_ ce0) (((((P.getD a_ pr0).C).getD b_ ce0).S).length))⟩) ?_ (hr := fun _ H' => (Z37 (vs := (Z0B ((((P.getD a_ pr0).C).getD b_ ce0).x) (((P.getD a_ pr0).C).getD b_ ce0) (((((P.getD a_ pr0).C).getD b_ ce0).S).length))) rfl kr kr kn (H'.at 8 rfl) kr))
       refine Z0N (Z0a 22 193 true rfl kr rfl kr) (d := 195) (v := (vu (Zz (((P.getD a_ pr0).C).getD b_ ce0).S))) rfl (fun _ _ => by kernel_rfl) (fun w' H' => (Z2D w' (((P.getD a_ pr0).C).getD b_ ce0).x (((P.getD a_ pr0).C).getD b_ ce0).sa (((P.getD a_ pr0).C).getD b_ ce0).sc (((P.getD a_ pr0).C).getD b_ ce0).S (ListAt.now H' 0 rfl (Z6R hPo om om)) ((hvP _ (Z2Y (show a_ < P.length by omega))).ce _ (Z1d (show b_ < (P.getD a_ pr0).C.length by omega))).len).mono fun _ _ h => ⟨h.1, H'.keepU h.2⟩) ?_
       refine qy 22 193 true 196 (.slice a146 O148.length c147) <| qy 22 193 true 197 (vi i) <| qy 22 193 true 198 (.pointer (some ⟨g182, 0 + ((i : Int)).toNat * 35, none⟩)) ?_ (hr := fun _ H' => (ZA (E := 63) kr kr kn rfl e184 rfl om om))
       refine qy 22 193 true 199 (.pointer (some ⟨g182, 0 + ((i : Int)).toNat * 35 + 34, none⟩)) <| qy 22 193 true 200 (vu x185.t) ?_ (hr := fun _ H' => (zl1 (Z0L (H'.at 5 rfl) e184 Z0b h186 34 rfl (show 0 + ((i : Int)).toNat * 35 + 34 = i * 35 + 34 by omega) kr)))
       refine qy 22 193 true 201 (.bool (decide ((Zz (((P.getD a_ pr0).C).getD b_ ce0).S) = x185.t))) <| qy 1 172 false 202 (.bool (decide ((Zz (((P.getD a_ pr0).C).getD b_ ce0).S) = x185.t))) <| qv 203 (.bool (decide ((Zz (((P.getD a_ pr0).C).getD b_ ce0).S) = x185.t))) <| qv 15 (.bool (decide ((Zz (((P.getD a_ pr0).C).getD b_ ce0).S) = x185.t))) <| Z09 fun w347 H348 => ?_
       refine Z6 <| ztn <| Zl <| zwi 204 ((b_ : Int) + 1) <| wv 159 (vi ((b_ : Int) + 1)) <| Zn ?_
       have hin3 : (decide ((Zz (((P.getD a_ pr0).C).getD b_ ce0).S) = x185.t)) = ((P.take a_).flatMap (·.C) ++ (P.getD a_ pr0).C.take (b_ + 1)).any (inC (O148.getD i Z1K)) := by
        rw [Z0K om, ← List.append_assoc, List.any_append, ← hin2]
        have e_ : O148.getD i Z1K = x185 := by rw [List.getD_eq_getElem?_getD, h186]; rfl
        rw [e_]
        simp only [List.any_cons, List.any_nil, Bool.or_false, inC, b323, b339, b343, b344, bls]
       have H349 := H348.pk [0, 1, 2, 3, 4, 5, 6, 7]
       refine Z5 ?_ _ ⟨(b_ + 1), (decide ((Zz (((P.getD a_ pr0).C).getD b_ ce0).S) = x185.t)), rfl, (show ((.bool (decide ((Zz (((P.getD a_ pr0).C).getD b_ ce0).S) = x185.t))) : Value) = _ by first | rfl | go_num), om, hin3, H349, rfl⟩ om
       exact zs
      iterate 8 refine qn 22 193 true ?_
      refine qy 1 172 false 202 (.bool false) <| qv 203 (.bool false) <| qv 15 (.bool false) <| Z09 fun w352 H353 => ?_
      refine Z6 <| ztn <| Zl <| zwi 204 ((b_ : Int) + 1) <| wv 159 (vi ((b_ : Int) + 1)) <| Zn ?_
      have hin3 : false = ((P.take a_).flatMap (·.C) ++ (P.getD a_ pr0).C.take (b_ + 1)).any (inC (O148.getD i Z1K)) := by
       rw [Z0K om, ← List.append_assoc, List.any_append, ← hin2]
       have e_ : O148.getD i Z1K = x185 := by rw [List.getD_eq_getElem?_getD, h186]; rfl
       rw [e_]
       simp only [List.any_cons, List.any_nil, Bool.or_false, inC, b323, b339, b343, b344, bls]
      have H354 := H353.pk [0, 1, 2, 3, 4, 5, 6, 7]
      refine Z5 ?_ _ ⟨(b_ + 1), false, rfl, rfl, om, hin3, H354, rfl⟩ om
      exact zs
     iterate 9 refine qn 11 182 true ?_
     refine qy 1 172 false 192 (.bool false) <| qy 1 172 false 193 (.bool false) ?_
     iterate 8 refine qn 22 193 true ?_
     refine qy 1 172 false 202 (.bool false) <| qv 203 (.bool false) <| qv 15 (.bool false) <| Z09 fun w355 H356 => ?_
     refine Z6 <| ztn <| Zl <| zwi 204 ((b_ : Int) + 1) <| wv 159 (vi ((b_ : Int) + 1)) <| Zn ?_
     have hin3 : false = ((P.take a_).flatMap (·.C) ++ (P.getD a_ pr0).C.take (b_ + 1)).any (inC (O148.getD i Z1K)) := by
      rw [Z0K om, ← List.append_assoc, List.any_append, ← hin2]
      have e_ : O148.getD i Z1K = x185 := by rw [List.getD_eq_getElem?_getD, h186]; rfl
      rw [e_]
      simp only [List.any_cons, List.any_nil, Bool.or_false, inC, b323, b339, b343, bls]
     have H357 := H356.pk [0, 1, 2, 3, 4, 5, 6, 7]
     refine Z5 ?_ _ ⟨(b_ + 1), false, rfl, rfl, om, hin3, H357, rfl⟩ om
     exact zs
    refine zxb <| Z6 <| ztn <| Zl <| zwi 205 ((a_ : Int) + 1) <| wv 149 (vi ((a_ : Int) + 1)) <| Zn <| Z5 ?_ _ ⟨(a_ + 1), (inn2), rfl, rfl, om, (by rw [Z6w om, hin2, List.take_of_length_le (l := (P.getD a_ pr0).C) om]), H319, rfl⟩ om
    exact zs
   refine zxb <| ztn <| Z7 <| Z7 ?_
   have hinT : inn = true := by rw [hin, List.take_of_length_le om]; exact ZdY p149 (show O148[i]? = some (O148.getD i Z1K) by rw [List.getD_eq_getElem?_getD, List.getElem?_eq_getElem (show i < O148.length by omega)]; rfl)
   refine Ze 15 (.bool true) (show ((.bool (inn)) : Value) = _ by rw [hinT]) ?_
   refine Zl <| wv 19 (vi 0) <| znt <| Zc <| Zq ([15, 19] ++ List.range' 206 19) (fun F_ W_ m_ => ∃ (k : Nat), F_ 19 = (vi k) ∧ F_ 15 = (.bool true) ∧ (k ≤ i) ∧ Sat w105 [zR w105, Z0u m116 nmV Value.bool (Z3q LG), Z0u o117 (Value.int .i64) Z2y (Z17 (ZO 3)), Z0u m136 nmV Value.bool (Z3q LG), Z0u o137 (Value.int .i64) Z2y (Z17 (ZO 3)), (Z1e a146 O148 c147), Z0u m193 nmV Value.bool (Z3q LG), Z0u o194 (Value.int .i64) Z2y (Z17 (ZO 3))] W_ ∧ m_ = i - k) _ ⟨0, (show ((vi 0) : Value) = _ by first | rfl | go_num), (by first | rfl | go_num), (Nat.zero_le _), H305, rfl⟩ ?_
   rintro g362 w363 _ ⟨k, v365, v366, hk, H364, rfl⟩
   refine Ze 19 _ v365 ?_
   refine Ze 15 _ v366 ?_
   refine Z7 <| zsl <| wv 206 (vi k) <| wv 207 (vi i) <| wv 208 (.bool (decide ((k : Int) < i))) <| znt ?_
   refine zid (fun b368 g369 => ?_) fun b368 g378 => ?_
   ·refine Zm <| ztn <| Z7 <| Zc <| zqs H364 ?_
    refine qv 211 (.bool true) <| qv 212 (.bool true) <| qy 1 212 true 213 (.slice a146 O148.length c147) <| qy 1 212 true 214 (vi k) ?_
    obtain ⟨g371, c372, e373⟩ := Z0w (H364.at 5 rfl) om
    obtain ⟨x374, h375⟩ := Z2z (show k < O148.length by omega)
    refine qy 1 212 true 215 (.pointer (some ⟨g371, 0 + ((k : Int)).toNat * 35, none⟩)) ?_ (hr := fun _ H' => (ZA (E := 63) kr kr kn rfl e373 rfl om om))
    refine qy 1 212 true 216 (.pointer (some ⟨g371, 0 + ((k : Int)).toNat * 35, none⟩)) <| qy 1 212 true 217 (.agg ⟨(ZN x374.cl x374.sq)⟩) ?_ (hr := fun _ H' => (ZE (vs := (ZN x374.cl x374.sq)) rfl kr kr kn (Z0J (H'.at 5 rfl) e373 Z0b h375 0 (show 0 + ((k : Int)).toNat * 35 = k * 35 + 0 by omega) kr kr)))
    refine qy 1 212 true 218 (.slice a146 O148.length c147) <| qy 1 212 true 219 (vi i) <| qy 1 212 true 220 (.pointer (some ⟨g182, 0 + ((i : Int)).toNat * 35, none⟩)) ?_ (hr := fun _ H' => (ZA (E := 63) kr kr kn rfl e184 rfl om om))
    refine qy 1 212 true 221 (.pointer (some ⟨g182, 0 + ((i : Int)).toNat * 35, none⟩)) <| qy 1 212 true 222 (.agg ⟨(ZN x185.cl x185.sq)⟩) ?_ (hr := fun _ H' => (ZE (vs := (ZN x185.cl x185.sq)) rfl kr kr kn (Z0J (H'.at 5 rfl) e184 Z0b h186 0 (show 0 + ((i : Int)).toNat * 35 = i * 35 + 0 by omega) kr kr)))
    refine qy 1 212 true 223 (.bool (!(decide (x374.cl = x185.cl ∧ x374.sq = x185.sq)))) ?_ (hr := fun _ H' => (Z3k x374.cl x374.sq x185.cl x185.sq rfl rfl))
    refine qv 224 (.bool (!(decide (x374.cl = x185.cl ∧ x374.sq = x185.sq)))) <| qv 15 (.bool (!(decide (x374.cl = x185.cl ∧ x374.sq = x185.sq)))) <| Z09 fun w376 H377 => ?_
    refine Z6 <| ztn ?_
    have hnm := Z8B hnd1 h186 h375 (show k < i by omega)
    refine Ze 15 (.bool true) (show ((.bool (!(decide (x374.cl = x185.cl ∧ x374.sq = x185.sq)))) : Value) = _ by rw [show decide (x374.cl = x185.cl ∧ x374.sq = x185.sq) = false by rw [decide_eq_false_iff_not] at hnm ⊢; omega]; rfl) ?_
    refine Zl <| wv 209 (vi k) <| zwi 210 ((k : Int) + 1) <| wv 19 (vi ((k : Int) + 1)) <| Zn <| Z5 ?_ _ ⟨(k + 1), rfl, rfl, om, H377, rfl⟩ om
    exact zs
   refine zxb <| ztn <| zsl <| wv 225 (.bool true) <| wv 226 (.bool false) <| znt <| Z1W rfl ?_
   refine Zm <| Z6 <| ztn <| Zl <| zwi 227 ((i : Int) + 1) <| wv 68 (vi ((i : Int) + 1)) <| Zn ?_
   have H380 := H364.pk [0, 1, 2, 3, 4, 5]
   refine Z5 ?_ _ ⟨(i + 1), rfl, om, H380, rfl⟩ om
   exact zs
  iterate 13 refine qn 2 103 true ?_
  iterate 13 refine qu 15 116 false ?_
  iterate 13 refine qu 28 129 true ?_
  refine qu 15 116 false ?_
  refine qn 2 103 true ?_
  refine qv 145 (.bool false) <| Z09 fun w383 H384 => ?_
  refine ztn <| Z1W rfl ?_
  refine Zm <| ztn <| zsl <| wv 15 (.bool false) <| znt <| Z7 <| zsl <| wv 146 (pt b101 2) <| zw1 147 (.slice xa73 P.length xc74) (H384.roCell 0 rfl hk110 (fun h => h) rfl) <| wv 148 (vi P.length) ?_
  refine wv 149 (vi 0) <| znt <| Zc <| Zq ([15, 16, 17, 18] ++ List.range' 149 57) (fun F_ W_ m_ => ∃ (a_ : Nat) (inn : Bool), F_ 149 = (vi a_) ∧ F_ 15 = (.bool (inn)) ∧ (a_ ≤ P.length) ∧ (inn = ((P.take a_).flatMap (·.C)).any (inC (O148.getD i Z1K))) ∧ Sat w105 [zR w105, Z0u m116 nmV Value.bool (Z3q LG), Z0u o117 (Value.int .i64) Z2y (Z17 (ZO 3)), Z0u m136 nmV Value.bool (Z3q LG), Z0u o137 (Value.int .i64) Z2y (Z17 (ZO 3)), (Z1e a146 O148 c147), Z0u m193 nmV Value.bool (Z3q LG), Z0u o194 (Value.int .i64) Z2y (Z17 (ZO 3))] W_ ∧ m_ = P.length - a_) _ ⟨0, false, (show ((vi 0) : Value) = _ by first | rfl | go_num), (by first | rfl | go_num), (Nat.zero_le _), rfl, H384, rfl⟩ ?_
  rintro g385 w386 _ ⟨a_, inn, v388, v389, ha, hin, H387, rfl⟩
  refine Ze 149 _ v388 ?_
  refine Ze 15 _ v389 ?_
  refine zsl <| wv 150 (.bool (decide ((a_ : Int) < P.length))) <| znt <| Z7 ?_
  refine zid (fun b391 g392 => ?_) fun b391 g442 => ?_
  ·refine Zm <| ztn <| Z7 <| Zc <| zsl <| wv 151 (vi a_) <| wv 16 (vi a_) <| Z0G <| wv 152 (pt b101 2) <| zw1 153 (.slice xa73 P.length xc74) (H387.roCell 0 rfl hk110 (fun h => h) rfl) ?_
   refine wv 154 (vi a_) ?_
   obtain ⟨g394, o395, c396, e397, R398⟩ := SliceOf.atD hP pr0 (show a_ < P.length by omega)
   refine wv 155 (.pointer (some ⟨g394, o395 + ((a_ : Int)).toNat * 6, none⟩)) ?_ (hr := Zd (E := 71) kr kr kn rfl e397 rfl om om)
   refine wv 156 (.pointer (some ⟨g394, o395 + ((a_ : Int)).toNat * 6 + 3, none⟩)) <| zw1 157 (.slice (P.getD a_ pr0).ca ((P.getD a_ pr0).C).length (P.getD a_ pr0).cc) (H387.cellR 0 rfl (Z0o R398 3 kr (show o395 + ((a_ : Int)).toNat * 6 + 3 = o395 + a_ * 6 + 3 by omega)) (fun h => h)) <| wv 158 (vi (((P.getD a_ pr0).C).length)) <| wv 159 (vi 0) <| znt <| Zc ?_
   have hlCa := hlC a_ om
   refine Zq ([15, 17, 18] ++ List.range' 159 46) (fun F_ W_ m_ => ∃ (b_ : Nat) (inn2 : Bool), F_ 159 = (vi b_) ∧ F_ 15 = (.bool (inn2)) ∧ (b_ ≤ (P.getD a_ pr0).C.length) ∧ (inn2 = ((P.take a_).flatMap (·.C) ++ (P.getD a_ pr0).C.take b_).any (inC (O148.getD i Z1K))) ∧ Sat w105 [zR w105, Z0u m116 nmV Value.bool (Z3q LG), Z0u o117 (Value.int .i64) Z2y (Z17 (ZO 3)), Z0u m136 nmV Value.bool (Z3q LG), Z0u o137 (Value.int .i64) Z2y (Z17 (ZO 3)), (Z1e a146 O148 c147), Z0u m193 nmV Value.bool (Z3q LG), Z0u o194 (Value.int .i64) Z2y (Z17 (ZO 3))] W_ ∧ m_ = (P.getD a_ pr0).C.length - b_) _ ⟨0, inn, (show ((vi 0) : Value) = _ by first | rfl | go_num), (by first | rfl | go_num), (Nat.zero_le _), (by rw [hin, List.take_zero, List.append_nil]), H387, rfl⟩ ?_
   rintro g399 w400 _ ⟨b_, inn2, v402, v403, hbk, hin2, H401, rfl⟩
   refine Ze 159 _ v402 ?_
   refine Ze 15 _ v403 ?_
   refine zsl <| wv 160 (.bool (decide ((b_ : Int) < (((P.getD a_ pr0).C).length : Int)))) <| znt <| Z7 ?_
   refine zid (fun b405 g406 => ?_) fun b405 g440 => ?_
   ·refine Zm <| ztn <| Z7 <| Zc <| zsl <| wv 161 (vi b_) <| wv 17 (vi b_) <| Z0G <| wv 162 (pt b101 2) <| zw1 163 (.slice xa73 P.length xc74) (H401.roCell 0 rfl hk110 (fun h => h) rfl) ?_
    refine wv 164 (vi a_) <| wv 165 (.pointer (some ⟨g394, o395 + ((a_ : Int)).toNat * 6, none⟩)) ?_ (hr := Zd (E := 71) kr kr kn rfl e397 rfl om om)
    refine wv 166 (.pointer (some ⟨g394, o395 + ((a_ : Int)).toNat * 6 + 3, none⟩)) <| zw1 167 (.slice (P.getD a_ pr0).ca ((P.getD a_ pr0).C).length (P.getD a_ pr0).cc) (H401.cellR 0 rfl (Z0o R398 3 kr (show o395 + ((a_ : Int)).toNat * 6 + 3 = o395 + a_ * 6 + 3 by omega)) (fun h => h)) <| wv 168 (vi b_) ?_
    obtain ⟨g408, o409, c410, e411, R412⟩ := SliceOf.atD (hPo a_ om).1 ce0 (show b_ < ((P.getD a_ pr0).C).length by omega)
    refine wv 169 (.pointer (some ⟨g408, o409 + ((b_ : Int)).toNat * 38, none⟩)) ?_ (hr := Zd (E := 76) kr kr kn rfl e411 rfl om om)
    refine wv 170 (.agg ⟨(Z0B ((((P.getD a_ pr0).C).getD b_ ce0).x) (((P.getD a_ pr0).C).getD b_ ce0) (((((P.getD a_ pr0).C).getD b_ ce0).S).length))⟩) ?_ (hr := ZE (vs := (Z0B ((((P.getD a_ pr0).C).getD b_ ce0).x) (((P.getD a_ pr0).C).getD b_ ce0) (((((P.getD a_ pr0).C).getD b_ ce0).S).length))) rfl kr kr kn (H401.runR 0 rfl (Z0k R412 0 kr (show o409 + ((b_ : Int)).toNat * 38 = o409 + b_ * 38 + 0 by omega)) (fun h => h)))
    refine zy <| zda (Z5i) H401 fun b414 w415 H416 => ?_
    refine kk <| zy <| Z1p (Z0B ((((P.getD a_ pr0).C).getD b_ ce0).x) (((P.getD a_ pr0).C).getD b_ ce0) (((((P.getD a_ pr0).C).getD b_ ce0).S).length)) H416 8 fun w418 H419 => ?_
    refine kk <| znt <| zqs H419 ?_
    refine qv 171 (.bool (inn2)) <| qv 172 (.bool (inn2)) ?_
    refine (ZS (inn2)).elim (fun b421 => ?_) (fun b421 => ?_)
    ·refine Z0t 172 (.bool true) (congrArg Value.bool b421) ?_
     iterate 10 refine qn 1 172 false ?_
     iterate 9 refine qu 11 182 true ?_
     iterate 2 refine qn 1 172 false ?_
     iterate 8 refine qu 22 193 true ?_
     refine qn 1 172 false ?_
     refine qv 203 (.bool true) <| qv 15 (.bool true) <| Z09 fun w422 H423 => ?_
     refine Z6 <| ztn <| Zl <| zwi 204 ((b_ : Int) + 1) <| wv 159 (vi ((b_ : Int) + 1)) <| Zn ?_
     have hin3 : true = ((P.take a_).flatMap (·.C) ++ (P.getD a_ pr0).C.take (b_ + 1)).any (inC (O148.getD i Z1K)) := by
      rw [Z0K om, ← List.append_assoc, List.any_append, ← hin2]
      simp only [List.any_cons, List.any_nil, Bool.or_false, inC, b405, b421, bls]
     have H424 := H423.pk [0, 1, 2, 3, 4, 5, 6, 7]
     refine Z5 ?_ _ ⟨(b_ + 1), true, rfl, rfl, om, hin3, H424, rfl⟩ om
     exact zs
    refine Z0t 172 (.bool false) (congrArg Value.bool b421) ?_
    refine qy 1 172 false 173 (pt b414 0) <| qy 1 172 false 174 (pt b414 0) <| qy 1 172 false 175 (.agg ⟨(ZN ((((P.getD a_ pr0).C).getD b_ ce0).x.cl) ((((P.getD a_ pr0).C).getD b_ ce0).x.seq))⟩) ?_ (hr := fun _ H' => (zlN (vs := (ZN ((((P.getD a_ pr0).C).getD b_ ce0).x.cl) ((((P.getD a_ pr0).C).getD b_ ce0).x.seq))) (H'.at 8 rfl)))
    refine qy 1 172 false 176 (.slice a146 O148.length c147) <| qy 1 172 false 177 (vi i) <| qy 1 172 false 178 (.pointer (some ⟨g182, 0 + ((i : Int)).toNat * 35, none⟩)) ?_ (hr := fun _ H' => (ZA (E := 63) kr kr kn rfl e184 rfl om om))
    refine qy 1 172 false 179 (.pointer (some ⟨g182, 0 + ((i : Int)).toNat * 35, none⟩)) <| qy 1 172 false 180 (.agg ⟨(ZN x185.cl x185.sq)⟩) ?_ (hr := fun _ H' => (ZE (vs := (ZN x185.cl x185.sq)) rfl kr kr kn (Z0J (H'.at 5 rfl) e184 Z0b h186 0 (show 0 + ((i : Int)).toNat * 35 = i * 35 + 0 by omega) kr kr)))
    refine qy 1 172 false 181 (.bool (decide (((((P.getD a_ pr0).C).getD b_ ce0).x.cl) = x185.cl ∧ ((((P.getD a_ pr0).C).getD b_ ce0).x.seq) = x185.sq))) ?_ (hr := fun _ H' => (Z6y ((((P.getD a_ pr0).C).getD b_ ce0).x.cl) ((((P.getD a_ pr0).C).getD b_ ce0).x.seq) x185.cl x185.sq rfl rfl))
    refine qy 1 172 false 182 (.bool (decide (((((P.getD a_ pr0).C).getD b_ ce0).x.cl) = x185.cl ∧ ((((P.getD a_ pr0).C).getD b_ ce0).x.seq) = x185.sq))) ?_
    refine ziq 182 (fun b425 _ => ?_) fun b425 _ => ?_
    ·refine qy 11 182 true 183 (pt b414 0) <| qy 11 182 true 184 (pt b414 2) <| qy 11 182 true 185 (.agg ⟨(hc (((P.getD a_ pr0).C).getD b_ ce0).x.h)⟩) ?_ (hr := fun _ H' => (zlN (vs := (hc (((P.getD a_ pr0).C).getD b_ ce0).x.h)) (H'.at 8 rfl)))
     refine qy 11 182 true 186 (.slice a146 O148.length c147) <| qy 11 182 true 187 (vi i) <| qy 11 182 true 188 (.pointer (some ⟨g182, 0 + ((i : Int)).toNat * 35, none⟩)) ?_ (hr := fun _ H' => (ZA (E := 63) kr kr kn rfl e184 rfl om om))
     refine qy 11 182 true 189 (.pointer (some ⟨g182, 0 + ((i : Int)).toNat * 35 + 2, none⟩)) <| qy 11 182 true 190 (.agg ⟨(hc x185.h)⟩) ?_ (hr := fun _ H' => (ZE (vs := (hc x185.h)) rfl kr kr kn (Z0J (H'.at 5 rfl) e184 Z0b h186 2 (show 0 + ((i : Int)).toNat * 35 + 2 = i * 35 + 2 by omega) kr kr)))
     refine qy 11 182 true 191 (.bool (decide (((((P.getD a_ pr0).C).getD b_ ce0).x.h) = x185.h))) ?_ (hr := fun _ H' => (Z6s ((((P.getD a_ pr0).C).getD b_ ce0).x.h) x185.h rfl rfl))
     refine qy 1 172 false 192 (.bool (decide (((((P.getD a_ pr0).C).getD b_ ce0).x.h) = x185.h))) <| qy 1 172 false 193 (.bool (decide (((((P.getD a_ pr0).C).getD b_ ce0).x.h) = x185.h))) ?_
     refine ziq 193 (fun b426 g427 => ?_) fun b426 g432 => ?_
     ·refine qy 22 193 true 194 (.agg ⟨(Z0B ((((P.getD a_ pr0).C).getD b_ ce0).x) (((P.getD a_ pr0).C).getD b_ ce0) (((((P.getD a_ pr0).C).getD b_ ce0).S).length))⟩) ?_ (hr := fun _ H' => (Z37 (vs := (Z0B ((((P.getD a_ pr0).C).getD b_ ce0).x) (((P.getD a_ pr0).C).getD b_ ce0) (((((P.getD a_ pr0).C).getD b_ ce0).S).length))) rfl kr kr kn (H'.at 8 rfl) kr))
      refine Z0N (Z0a 22 193 true rfl kr rfl kr) (d := 195) (v := (vu (Zz (((P.getD a_ pr0).C).getD b_ ce0).S))) rfl (fun _ _ => by kernel_rfl) (fun w' H' => (Z2D w' (((P.getD a_ pr0).C).getD b_ ce0).x (((P.getD a_ pr0).C).getD b_ ce0).sa (((P.getD a_ pr0).C).getD b_ ce0).sc (((P.getD a_ pr0).C).getD b_ ce0).S (ListAt.now H' 0 rfl (Z6R hPo om om)) ((hvP _ (Z2Y (show a_ < P.length by omega))).ce _ (Z1d (show b_ < (P.getD a_ pr0).C.length by omega))).len).mono fun _ _ h => ⟨h.1, H'.keepU h.2⟩) ?_
      refine qy 22 193 true 196 (.slice a146 O148.length c147) <| qy 22 193 true 197 (vi i) <| qy 22 193 true 198 (.pointer (some ⟨g182, 0 + ((i : Int)).toNat * 35, none⟩)) ?_ (hr := fun _ H' => (ZA (E := 63) kr kr kn rfl e184 rfl om om))
      refine qy 22 193 true 199 (.pointer (some ⟨g182, 0 + ((i : Int)).toNat * 35 + 34, none⟩)) <| qy 22 193 true 200 (vu x185.t) ?_ (hr := fun _ H' => (zl1 (Z0L (H'.at 5 rfl) e184 Z0b h186 34 rfl (show 0 + ((i : Int)).toNat * 35 + 34 = i * 35 + 34 by omega) kr)))
      refine qy 22 193 true 201 (.bool (decide ((Zz (((P.getD a_ pr0).C).getD b_ ce0).S) = x185.t))) <| qy 1 172 false 202 (.bool (decide ((Zz (((P.getD a_ pr0).C).getD b_ ce0).S) = x185.t))) <| qv 203 (.bool (decide ((Zz (((P.getD a_ pr0).C).getD b_ ce0).S) = x185.t))) <| qv 15 (.bool (decide ((Zz (((P.getD a_ pr0).C).getD b_ ce0).S) = x185.t))) <| Z09 fun w429 H430 => ?_
      refine Z6 <| ztn <| Zl <| zwi 204 ((b_ : Int) + 1) <| wv 159 (vi ((b_ : Int) + 1)) <| Zn ?_
      have hin3 : (decide ((Zz (((P.getD a_ pr0).C).getD b_ ce0).S) = x185.t)) = ((P.take a_).flatMap (·.C) ++ (P.getD a_ pr0).C.take (b_ + 1)).any (inC (O148.getD i Z1K)) := by
       rw [Z0K om, ← List.append_assoc, List.any_append, ← hin2]
       have e_ : O148.getD i Z1K = x185 := by rw [List.getD_eq_getElem?_getD, h186]; rfl
       rw [e_]
       simp only [List.any_cons, List.any_nil, Bool.or_false, inC, b405, b421, b425, b426, bls]
      have H431 := H430.pk [0, 1, 2, 3, 4, 5, 6, 7]
      refine Z5 ?_ _ ⟨(b_ + 1), (decide ((Zz (((P.getD a_ pr0).C).getD b_ ce0).S) = x185.t)), rfl, (show ((.bool (decide ((Zz (((P.getD a_ pr0).C).getD b_ ce0).S) = x185.t))) : Value) = _ by first | rfl | go_num), om, hin3, H431, rfl⟩ om
      exact zs
     iterate 8 refine qn 22 193 true ?_
     refine qy 1 172 false 202 (.bool false) <| qv 203 (.bool false) <| qv 15 (.bool false) <| Z09 fun w434 H435 => ?_
     refine Z6 <| ztn <| Zl <| zwi 204 ((b_ : Int) + 1) <| wv 159 (vi ((b_ : Int) + 1)) <| Zn ?_
     have hin3 : false = ((P.take a_).flatMap (·.C) ++ (P.getD a_ pr0).C.take (b_ + 1)).any (inC (O148.getD i Z1K)) := by
      rw [Z0K om, ← List.append_assoc, List.any_append, ← hin2]
      have e_ : O148.getD i Z1K = x185 := by rw [List.getD_eq_getElem?_getD, h186]; rfl
      rw [e_]
      simp only [List.any_cons, List.any_nil, Bool.or_false, inC, b405, b421, b425, b426, bls]
     have H436 := H435.pk [0, 1, 2, 3, 4, 5, 6, 7]
     refine Z5 ?_ _ ⟨(b_ + 1), false, rfl, rfl, om, hin3, H436, rfl⟩ om
     exact zs
    iterate 9 refine qn 11 182 true ?_
    refine qy 1 172 false 192 (.bool false) <| qy 1 172 false 193 (.bool false) ?_
    iterate 8 refine qn 22 193 true ?_
    refine qy 1 172 false 202 (.bool false) <| qv 203 (.bool false) <| qv 15 (.bool false) <| Z09 fun w437 H438 => ?_
    refine Z6 <| ztn <| Zl <| zwi 204 ((b_ : Int) + 1) <| wv 159 (vi ((b_ : Int) + 1)) <| Zn ?_
    have hin3 : false = ((P.take a_).flatMap (·.C) ++ (P.getD a_ pr0).C.take (b_ + 1)).any (inC (O148.getD i Z1K)) := by
     rw [Z0K om, ← List.append_assoc, List.any_append, ← hin2]
     have e_ : O148.getD i Z1K = x185 := by rw [List.getD_eq_getElem?_getD, h186]; rfl
     rw [e_]
     simp only [List.any_cons, List.any_nil, Bool.or_false, inC, b405, b421, b425, bls]
    have H439 := H438.pk [0, 1, 2, 3, 4, 5, 6, 7]
    refine Z5 ?_ _ ⟨(b_ + 1), false, rfl, rfl, om, hin3, H439, rfl⟩ om
    exact zs
   refine zxb <| Z6 <| ztn <| Zl <| zwi 205 ((a_ : Int) + 1) <| wv 149 (vi ((a_ : Int) + 1)) <| Zn <| Z5 ?_ _ ⟨(a_ + 1), (inn2), rfl, rfl, om, (by rw [Z6w om, hin2, List.take_of_length_le (l := (P.getD a_ pr0).C) om]), H401, rfl⟩ om
   exact zs
  refine zxb <| ztn <| Z7 <| Z7 ?_
  have hinT : inn = true := by rw [hin, List.take_of_length_le om]; exact ZdY p149 (show O148[i]? = some (O148.getD i Z1K) by rw [List.getD_eq_getElem?_getD, List.getElem?_eq_getElem (show i < O148.length by omega)]; rfl)
  refine Ze 15 (.bool true) (show ((.bool (inn)) : Value) = _ by rw [hinT]) ?_
  refine Zl <| wv 19 (vi 0) <| znt <| Zc <| Zq ([15, 19] ++ List.range' 206 19) (fun F_ W_ m_ => ∃ (k : Nat), F_ 19 = (vi k) ∧ F_ 15 = (.bool true) ∧ (k ≤ i) ∧ Sat w105 [zR w105, Z0u m116 nmV Value.bool (Z3q LG), Z0u o117 (Value.int .i64) Z2y (Z17 (ZO 3)), Z0u m136 nmV Value.bool (Z3q LG), Z0u o137 (Value.int .i64) Z2y (Z17 (ZO 3)), (Z1e a146 O148 c147), Z0u m193 nmV Value.bool (Z3q LG), Z0u o194 (Value.int .i64) Z2y (Z17 (ZO 3))] W_ ∧ m_ = i - k) _ ⟨0, (show ((vi 0) : Value) = _ by first | rfl | go_num), (by first | rfl | go_num), (Nat.zero_le _), H387, rfl⟩ ?_
  rintro g444 w445 _ ⟨k, v447, v448, hk, H446, rfl⟩
  refine Ze 19 _ v447 ?_
  refine Ze 15 _ v448 ?_
  refine Z7 <| zsl <| wv 206 (vi k) <| wv 207 (vi i) <| wv 208 (.bool (decide ((k : Int) < i))) <| znt ?_
  refine zid (fun b450 g451 => ?_) fun b450 g460 => ?_
  ·refine Zm <| ztn <| Z7 <| Zc <| zqs H446 ?_
   refine qv 211 (.bool true) <| qv 212 (.bool true) <| qy 1 212 true 213 (.slice a146 O148.length c147) <| qy 1 212 true 214 (vi k) ?_
   obtain ⟨g453, c454, e455⟩ := Z0w (H446.at 5 rfl) om
   obtain ⟨x456, h457⟩ := Z2z (show k < O148.length by omega)
   refine qy 1 212 true 215 (.pointer (some ⟨g453, 0 + ((k : Int)).toNat * 35, none⟩)) ?_ (hr := fun _ H' => (ZA (E := 63) kr kr kn rfl e455 rfl om om))
   refine qy 1 212 true 216 (.pointer (some ⟨g453, 0 + ((k : Int)).toNat * 35, none⟩)) <| qy 1 212 true 217 (.agg ⟨(ZN x456.cl x456.sq)⟩) ?_ (hr := fun _ H' => (ZE (vs := (ZN x456.cl x456.sq)) rfl kr kr kn (Z0J (H'.at 5 rfl) e455 Z0b h457 0 (show 0 + ((k : Int)).toNat * 35 = k * 35 + 0 by omega) kr kr)))
   refine qy 1 212 true 218 (.slice a146 O148.length c147) <| qy 1 212 true 219 (vi i) <| qy 1 212 true 220 (.pointer (some ⟨g182, 0 + ((i : Int)).toNat * 35, none⟩)) ?_ (hr := fun _ H' => (ZA (E := 63) kr kr kn rfl e184 rfl om om))
   refine qy 1 212 true 221 (.pointer (some ⟨g182, 0 + ((i : Int)).toNat * 35, none⟩)) <| qy 1 212 true 222 (.agg ⟨(ZN x185.cl x185.sq)⟩) ?_ (hr := fun _ H' => (ZE (vs := (ZN x185.cl x185.sq)) rfl kr kr kn (Z0J (H'.at 5 rfl) e184 Z0b h186 0 (show 0 + ((i : Int)).toNat * 35 = i * 35 + 0 by omega) kr kr)))
   refine qy 1 212 true 223 (.bool (!(decide (x456.cl = x185.cl ∧ x456.sq = x185.sq)))) ?_ (hr := fun _ H' => (Z3k x456.cl x456.sq x185.cl x185.sq rfl rfl))
   refine qv 224 (.bool (!(decide (x456.cl = x185.cl ∧ x456.sq = x185.sq)))) <| qv 15 (.bool (!(decide (x456.cl = x185.cl ∧ x456.sq = x185.sq)))) <| Z09 fun w458 H459 => ?_
   refine Z6 <| ztn ?_
   have hnm := Z8B hnd1 h186 h457 (show k < i by omega)
   refine Ze 15 (.bool true) (show ((.bool (!(decide (x456.cl = x185.cl ∧ x456.sq = x185.sq)))) : Value) = _ by rw [show decide (x456.cl = x185.cl ∧ x456.sq = x185.sq) = false by rw [decide_eq_false_iff_not] at hnm ⊢; omega]; rfl) ?_
   refine Zl <| wv 209 (vi k) <| zwi 210 ((k : Int) + 1) <| wv 19 (vi ((k : Int) + 1)) <| Zn <| Z5 ?_ _ ⟨(k + 1), rfl, rfl, om, H459, rfl⟩ om
   exact zs
  refine zxb <| ztn <| zsl <| wv 225 (.bool true) <| wv 226 (.bool false) <| znt <| Z1W rfl ?_
  refine Zm <| Z6 <| ztn <| Zl <| zwi 227 ((i : Int) + 1) <| wv 68 (vi ((i : Int) + 1)) <| Zn ?_
  have H462 := H446.pk [0, 1, 2, 3, 4, 5]
  refine Z5 ?_ _ ⟨(i + 1), rfl, om, H462, rfl⟩ om
  exact zs
 refine zxb <| ztn <| zsl <| zy <| zdq 228 (Zed w157) H158 fun w466 H467 => ?_
 refine kk <| wv 4 (.bool true) <| znt <| Zk <| ze1 (.bool true) ?_
 exact ⟨rfl, hU1.trans (H467.upd 0 rfl [] ne)⟩
end Go.Proofs.YtenihpghfdcpkaaGreat
