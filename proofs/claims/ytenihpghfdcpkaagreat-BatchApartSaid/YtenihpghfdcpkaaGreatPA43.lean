/- WHAT IS PROVED: contracts and plain laws of Apart12. Conditions: stated with each. -/
import Derived.Test.YtenihpghfdcpkaaGreatPA05
import Derived.Test.YtenihpghfdcpkaaGreatPA26
import Derived.Test.YtenihpghfdcpkaaGreatPA27
import Derived.Test.YtenihpghfdcpkaaGreatPA30
import Derived.Test.YtenihpghfdcpkaaGreatPA39
import Derived.Test.YtenihpghfdcpkaaGreatPA41
import Derived.Test.YtenihpghfdcpkaaGreatPA42
set_option maxHeartbeats 4000000
set_option maxRecDepth 100000
namespace Go.Proofs.YtenihpghfdcpkaaGreat
open Go.RowKit
abbrev Z5S (p0 : Option Addr) (p1 : Nat) (p2 : Nat) (p3 : Option Addr) (p4 : Nat) (p5 : Nat) (p6 : Option Addr) (p7 : Nat) (p8 : Nat) (p9 : Int) (p10 : Option Addr) (p11 : Nat) (p12 : Nat) (p13 : Option Addr) (p14 : Nat) (p15 : Nat) (p16 : Int) (p17 : Option Addr) (p18 : Nat) (p19 : Nat) (p20 : Int) : List Value := ([(.slice p0 p1 p2), (.slice p3 p4 p5), (.slice p6 p7 p8), (.int .u64 p9), (.slice p10 p11 p12), (.slice p13 p14 p15), (.int .i64 p16), (.slice p17 p18 p19), (.int .u64 p20)] : List Value)
abbrev Zbo (p0 : Nat) (p1 : List Signed) : Ck := Z0B p0 ZZ (Value.int .i64) (Z0a p1)
abbrev Zbf (p0 : Nat) : List Value := ([(.map (some p0))] : List Value)
abbrev Z1B (p0 : Int) (p1 : Nat) (p2 : Nat) (p3 : Int) (p4 : Option Addr) (p5 : Nat) (p6 : Nat) (p7 : Option Addr) (p8 : Nat) (p9 : Nat) : List Value := ([(.int .i64 p0), (.int .i64 (3)), (pt p1 0), (pt p2 0), (.int .i64 p0), (.int .i64 (3)), (.int .i64 (4)), (.int .u64 p3), (.slice p4 p5 p6), (.slice p7 p8 p9)] : List Value)
abbrev Zbj : List Value := ([(.int .i64 (0)), (.int .i64 (0)), (.pointer none), (.pointer none), (.int .i64 (0)), (.int .i64 (0)), (.int .i64 (0)), (.int .u64 (0)), (.slice none 0 0), (.slice none 0 0)] : List Value)
abbrev Zc0 (p0 : Option Addr) (p1 : List Signed) (p2 : Nat) : Ck := Zc 181 2 (.slice p0 p1.length p2) p1.length (p1.flatMap Z4W)
abbrev Zb6 (p0 : Option Addr) (p1 : List PrR) (p2 : Nat) : Ck := Zc 71 6 (.slice p0 p1.length p2) p1.length (p1.flatMap Z0p)
abbrev ZbR (p0 : Option Addr) (p1 : List OpR) (p2 : Nat) : Ck := Zc 86 34 (.slice p0 p1.length p2) p1.length (p1.flatMap Z0L)
abbrev Z9E (p0 : Option Addr) (p1 : List TbR) (p2 : Nat) : Ck := Zc 89 2 (.slice p0 p1.length p2) p1.length (p1.flatMap Z0I)
abbrev Z0e (p0 : Int) (p1 : Option Addr) (p2 : Nat) (p3 : Nat) (p4 : Option Addr) (p5 : Nat) (p6 : Nat) (p7 : Option Addr) (p8 : Nat) (p9 : Nat) : List Value := ([(.int .i64 (4)), (.int .u64 p0), (.slice p1 p2 p3), (.slice p4 p5 p6), (.slice p7 p8 p9)] : List Value)
abbrev Z6w : List Value := ([(.int .i64 (0)), (.int .u64 (0)), (.slice none 0 0), (.slice none 0 0), (.slice none 0 0)] : List Value)
abbrev Z0Z (p0 : Option Addr) (p1 : List Z1H) (p2 : Nat) : Ck := Zc 63 35 (.slice p0 p1.length p2) p1.length (p1.flatMap Z1q)
abbrev Z2G (p0 : Int) (p1 : Int) : List Value := ([(.int .i64 p0), (.int .i64 p1)] : List Value)
theorem PrOk.now {w0 w : World} {G : List Ck} {p : PrR} (h : PrOk w0 p) (H : Sat w0 G w) (j : Nat) (hj : G[j]? = some (Z3 w0 fun _ => False)) : PrOk w p := ⟨ListAt.now H j hj h.1, fun c hc => ListAt.now H j hj (h.2 c hc)⟩
theorem Zdb (w : World) (v : Value) (xs : List Z1H) (hx : ListAt Z1q 35 w v xs) (hl : xs.length ≤ 1000000) :
  Calls Tryz.prog 15 #[(v)] w fun e w' => ∃ u, e = .returned u ∧ (Zc 63 35 u xs.length (xs.flatMap Z1q)).ok w' ∧ Upd [] w w' ∧ ∀ q_, (Zc 63 35 u xs.length (xs.flatMap Z1q)).fp q_ → w.heap.size ≤ q_ := by
 have H := Sat.start0 w
 refine Z8 Tryz.func15 rfl 5 rfl (Nat.le_of_ble_eq_true rfl) ?_
 refine zsl <| wv 2 (.slice none 0 0) <| Z0y <| wv 3 (v) <| zwd fun Kq kq => Z4l (T := 56) (e := 63) (size := 35) (bytes := 56) rfl H (by kernel_rfl) Z1w Z5N (ListAt.now H 0 rfl hx) rfl rfl (by omega) (by omega) fun v2 w3 H4 => ?_
 obtain ⟨a5, c6, rfl⟩ := Z2 (H4.at 1 rfl)
 refine kq _ _ <| wv 2 (.slice a5 xs.length c6) <| znt <| Zq <| ze1 (.slice a5 xs.length c6) ?_
 exact ⟨_, rfl, H4.at 1 rfl, H4.upd 0 rfl [] (fun _ h => h.elim), H4.fresh 0 rfl (fun _ h => h) 1 rfl rfl⟩
theorem Z8w (w : World) (na ta ha oa ba lla : Option Addr) (nc tc hc_ oc bc llc : Nat) (N LL : List NmD) (TT : List TmR) (HH OO BB : List Int) (ptm psk pl : Int) (hN : ListAt Z2b 2 w (.slice na N.length nc) N) (hTT : ListAt Zc6 1 w (.slice ta TT.length tc) TT) (hHH : ListAt Zcc 1 w (.slice ha HH.length hc_) HH) (hOO : ListAt Zcc 1 w (.slice oa OO.length oc) OO) (hBB : ListAt Zcc 1 w (.slice ba BB.length bc) BB) (hLL : ListAt Z2b 2 w (.slice lla LL.length llc) LL) (htt : ∀ x ∈ TT, TmOk w x) (hptm : 0 ≤ ptm ∧ ptm ≤ 18446744073709551615) (hpl : 0 ≤ pl ∧ pl ≤ 18446744073709551615) (f more : Int) (hmore : 0 ≤ more ∧ more ≤ 18446744073709551615) :
  Calls Tryz.prog 3 #[(.agg ⟨([(.slice na N.length nc), (.slice ta TT.length tc), (.slice ha HH.length hc_), (.int .u64 (ptm)), (.slice oa OO.length oc), (.slice ba BB.length bc), (.int .i64 (psk)), (.slice lla LL.length llc), (.int .u64 (pl))] : List Value)⟩), (.int .i64 (f)), (.int .u64 (more))] w fun e w' => e = .returned (.bool true) ∧ Upd [] w w' := by
 have hwf := Z1V f 2 (by omega)
 have H := Sat.start0 w
 refine Z8 Tryz.func3 rfl 138 rfl (Nat.le_of_ble_eq_true rfl) ?_
 refine zsl <| zwd fun Kq kq => zdb (Z5S na N.length nc ta TT.length tc ha HH.length hc_ ptm oa OO.length oc ba BB.length bc psk lla LL.length llc pl) H fun b2 w3 H4 => ?_
 refine kq _ _ <| wv 6 (.bool false) <| Z0y <| zwN 24 (Z5S na N.length nc ta TT.length tc ha HH.length hc_ ptm oa OO.length oc ba BB.length bc psk lla LL.length llc pl) (H4.at 1 rfl) <| wv 25 (.int .i64 (f)) <| zwd fun Kq kq => zdc 26 (Zcs w3 (.slice na N.length nc) (.slice ta TT.length tc) (.slice ha HH.length hc_) (.slice oa OO.length oc) (.slice ba BB.length bc) ptm psk pl (by first | decide | omega) lla llc LL ((ListAt.now H4 0 rfl hLL)) f) ?_
 rintro _ w6 ⟨b7, m8, r9, a10, c11, a12, c13, rfl, k14, p15, q16⟩
 have H17 := H4.addU p15 k14 q16
 have H18 := H17.open 2 rfl
 refine ⟨_, rfl, ?_⟩
 refine kq _ _ <| wv 23 (.tuple #[(.agg ⟨(Z1B (1 + Z1 f 2) b7 r9 (pl % 20) a10 ((Z1G 3 ++ (LL.take 3).map Z22).length) c11 a12 ((Z03 3).length) c13)⟩), (.bool true)]) <| wv 27 (.agg ⟨(Z1B (1 + Z1 f 2) b7 r9 (pl % 20) a10 ((Z1G 3 ++ (LL.take 3).map Z22).length) c11 a12 ((Z03 3).length) c13)⟩) <| wv 28 (.bool true) <| zwd fun Kq kq => zda (Zbj) H18 fun b20 w21 H22 => ?_
 refine kq _ _ <| zwd fun Kq kq => Z1z (Z1B (1 + Z1 f 2) b7 r9 (pl % 20) a10 ((Z1G 3 ++ (LL.take 3).map Z22).length) c11 a12 ((Z03 3).length) c13) H22 7 fun w24 H25 => ?_
 refine kq _ _ <| wv 8 (.bool true) <| znt <| Z5 <| Z5 ?_
 obtain ⟨F, hFe⟩ : ∃ F, F = 1 + Z1 f 2 := ⟨_, rfl⟩
 have hF : 1 ≤ F ∧ F ≤ 2 := by omega
 obtain ⟨la, hlae⟩ : ∃ la, la = pl % 20 := ⟨_, rfl⟩
 have hla2 : 0 ≤ la ∧ la < 20 := by omega
 obtain ⟨tm, htm⟩ : ∃ tm, tm = la + 1 + ptm % 60 := ⟨_, rfl⟩
 have htm2 : la < tm ∧ tm ≤ la + 60 := by omega
 have H27 : Sat w [Z3 w (fun _ => False), Z0 b2 27 ([(.slice na N.length nc), (.slice ta TT.length tc), (.slice ha HH.length hc_), (.int .u64 (ptm)), (.slice oa OO.length oc), (.slice ba BB.length bc), (.int .i64 (psk)), (.slice lla LL.length llc), (.int .u64 (pl))] : List Value), Z0 b7 179 ([(.map (some m8))] : List Value), Z0B m8 ZZ (Value.int .i64) (Z0a ([] : List Signed)), Z0 r9 165 ([(.slice none 0 0)] : List Value), Zc 59 2 (.slice a10 ((Z1G 3 ++ (LL.take 3).map Z22).length) c11) ((Z1G 3 ++ (LL.take 3).map Z22).length) ((Z1G 3 ++ (LL.take 3).map Z22).flatMap Z2b), Zc 102 36 (.slice a12 ((Z03 3).length) c13) ((Z03 3).length) ((Z03 3).flatMap Z3Z), Z0 b20 38 ([(.int .i64 (F)), (.int .i64 (3)), (pt b7 0), (pt r9 0), (.int .i64 (F)), (.int .i64 (3)), (.int .i64 (4)), (.int .u64 (la)), (.slice a10 ((Z1G 3 ++ (LL.take 3).map Z22).length) c11), (.slice a12 ((Z03 3).length) c13)] : List Value)] w24 := by rw [hFe, hlae]; exact H25
 obtain ⟨LG, hLG⟩ : ∃ LG : List NmD, LG = (Z1G 3 ++ (LL.take 3).map Z22) := ⟨_, rfl⟩
 have lgl : LG.length ≤ 6 := by rw [hLG, List.length_append, Z5R, List.length_map, List.length_take]; omega
 have H28 : Sat w [Z3 w (fun _ => False), Z0 b2 27 ([(.slice na N.length nc), (.slice ta TT.length tc), (.slice ha HH.length hc_), (.int .u64 (ptm)), (.slice oa OO.length oc), (.slice ba BB.length bc), (.int .i64 (psk)), (.slice lla LL.length llc), (.int .u64 (pl))] : List Value), Z0 b7 179 ([(.map (some m8))] : List Value), Z0B m8 ZZ (Value.int .i64) (Z0a ([] : List Signed)), Z0 r9 165 ([(.slice none 0 0)] : List Value), Zc 59 2 (.slice a10 LG.length c11) LG.length (LG.flatMap Z2b), Zc 102 36 (.slice a12 ((Z03 3).length) c13) ((Z03 3).length) ((Z03 3).flatMap Z3Z), Z0 b20 38 ([(.int .i64 (F)), (.int .i64 (3)), (pt b7 0), (pt r9 0), (.int .i64 (F)), (.int .i64 (3)), (.int .i64 (4)), (.int .u64 (la)), (.slice a10 LG.length c11), (.slice a12 ((Z03 3).length) c13)] : List Value)] w24 := by rw [hLG]; exact H27
 refine Zl <| wv 29 (.bool true) <| wv 30 (.bool false) <| znt <| Z2O rfl ?_
 refine Zt <| ztn <| zsl <| zwN 32 (Z1B F b7 r9 la a10 LG.length c11 a12 ((Z03 3).length) c13) (H28.at 7 rfl) <| zwN 33 (Z5S na N.length nc ta TT.length tc ha HH.length hc_ ptm oa OO.length oc ba BB.length bc psk lla LL.length llc pl) (H28.at 1 rfl) <| zwd fun Kq kq => ?_
 have H30 := H28.addNil 181 2
 refine zdc 34 (Zbp w24 F la hF hla2 b7 m8 r9 none 0 [] (H30.fn [2, 3, 4, 8]) List.nodup_nil (by decide) (.slice a10 LG.length c11) (.slice a12 ((Z03 3).length) c13) (.slice lla LL.length llc) ptm psk pl hptm na nc N (ListAt.now H30 0 rfl hN) (Z3W Z6s (by decide) H30 [2, 3, 4, 8] 0 rfl rfl (by decide) hN) ta tc TT (ListAt.now H30 0 rfl hTT) (Z3W Zdq (by decide) H30 [2, 3, 4, 8] 0 rfl rfl (by decide) hTT) ha hc_ HH (ListAt.now H30 0 rfl hHH) (Z3W Z8q (by decide) H30 [2, 3, 4, 8] 0 rfl rfl (by decide) hHH) oa oc OO (ListAt.now H30 0 rfl hOO) (Z3W Z8q (by decide) H30 [2, 3, 4, 8] 0 rfl rfl (by decide) hOO) ba bc BB (ListAt.now H30 0 rfl hBB) (Z3W Z8q (by decide) H30 [2, 3, 4, 8] 0 rfl rfl (by decide) hBB) (fun x hx => ⟨ListAt.now H30 0 rfl (htt x hx).1, (htt x hx).2⟩) (fun x hx => (Z3W Z27 (by decide) H30 [2, 3, 4, 8] 0 rfl rfl (by decide) (htt x hx).1))) ?_
 rintro _ w31 ⟨a32, c33, PS34, a35, c36, OS37, a38, c39, TS40, a41, c42, LB43, BG44, rfl, hps45, hos46, l47, hts48, l49, hnd50, l51, p52, T53⟩
 rw [← htm] at hps45 ⊢
 have H54 := H30.tl [Z0 b7 179 (Zbf m8), (Zbo m8 LB43), Z0 r9 165 ([(.slice a41 LB43.length c42)] : List Value), (Zc0 a41 LB43 c42), (Zb6 a32 PS34 c33), (ZbR a35 OS37 c36), (Z9E a38 TS40 c39), Z0b BG44] [2, 3, 4, 8] [0, 1, 5, 6, 7] T53 [8, 9, 0, 1, 2, 10, 11, 12, 3, 4, 5, 6, 7]
 refine ⟨_, rfl, ?_⟩
 have hPSl := hps45.len hF.1
 refine kq _ _ <| wv 31 (.tuple #[(.int .u64 (tm)), (.slice a32 PS34.length c33), (.slice a35 OS37.length c36), (.slice a38 TS40.length c39)]) <| wv 35 (.int .u64 (tm)) <| wv 36 (.slice a32 PS34.length c33) <| wv 37 (.slice a35 OS37.length c36) <| wv 38 (.slice a38 TS40.length c39) <| wv 9 (.int .u64 (tm)) <| wv 10 (.slice a32 PS34.length c33) <| wv 11 (.slice a35 OS37.length c36) <| wv 12 (.slice a38 TS40.length c39) ?_
 refine Z0y <| zwN 40 (Z1B F b7 r9 la a10 LG.length c11 a12 ((Z03 3).length) c13) (H54.at 7 rfl) <| zwd fun Kq kq => zdc 41 (Z6m w31 b7 r9 F (3 : Int) F (3 : Int) (4 : Int) la a10 c11 LG (ListAt.row (enc := Z2b) (sz := 2) Z6s (by decide) (H54.at 5 rfl)) a12 c13 (Z03 3) (ListAt.row (enc := Z3Z) (sz := 36) Z8X (by decide) (H54.at 6 rfl)) (by have q := lgl; omega) (by decide)) ?_
 rintro _ w56 ⟨m57, o58, rfl, k59, u60, f61⟩
 have H62 := H54.addU u60 k59 f61
 have H63 := H62.open 13 rfl
 refine ⟨_, rfl, ?_⟩
 refine kq _ _ <| wv 42 (.int .u64 (tm)) <| wv 43 (.slice a32 PS34.length c33) <| zwd fun Kq kq => zdc 44 (ZdT w56 F (3 : Int) (4 : Int) tm la (by omega) (.map (some m57)) o58 (Z2D (Z03 3)) (H63.at 14 rfl) open3 a32 c33 PS34 (ListAt.row (enc := Z0p) (sz := 6) Z26 (by decide) (H63.at 9 rfl)) (by first | omega | (simp only [List.length_append, List.length_drop, List.length_take]; omega)) (fun p hp => (hps45.all p hp).prk (H63.at 12 rfl)) (hps45.lim hF) none 0 [] ListAt.nil (by decide) (by simp) (by decide) none 0 [] ListAt.nil (by decide) (by simp) (fun X => by simp [Z13])) ?_
 rintro _ w65 ⟨DP66, hDP67, ⟨hlt96, rfl, T97⟩ | ⟨Q68, hQ69, DO70, X71, DT72, xa73, xc74, PD75, ya76, yc77, OD78, za79, zc80, TD81, B82, hSO83, hHv84, hST85, hQl86, rfl, hcP87, hcO88, hcT89, hpin90, hoin91, htin92, hok93, hu94, hfr95⟩⟩
 ·exact absurd hlt96 (by rw [hps45.dp hDP67]; have q := hps45.len hF.1; omega)
 have H98 := H63.addU hu94 hok93 hfr95
 have H99 := H98.open 15 rfl
 refine ⟨_, rfl, ?_⟩
 refine kq _ _ <| wv 39 (.tuple #[(.agg ⟨(Z0e tm xa73 PD75.length xc74 ya76 OD78.length yc77 za79 TD81.length zc80)⟩), (.int .i64 (0))]) <| wv 45 (.agg ⟨(Z0e tm xa73 PD75.length xc74 ya76 OD78.length yc77 za79 TD81.length zc80)⟩) <| wv 46 (.int .i64 (0)) <| zwd fun Kq kq => zda (Z6w) H99 fun b101 w102 H103 => ?_
 refine kq _ _ <| zwd fun Kq kq => Z1z (Z0e tm xa73 PD75.length xc74 ya76 OD78.length yc77 za79 TD81.length zc80) H103 19 fun w105 H106 => ?_
 refine kq _ _ <| wv 14 (.int .i64 (0)) <| znt <| Z5 <| zsl <| wv 47 (.int .i64 (0)) <| wv 48 (.bool false) <| znt <| Z2O rfl ?_
 refine Zt <| ztn <| Z5 ?_
 have hU1 : Upd [] w w105 := H106.upd 0 rfl [] (fun _ h => h.elim)
 have hval := Zev hps45 (Q := Q68) (by have q := hcP87; rw [hps45.dp hDP67] at q; exact q)
 obtain ⟨P, hPe⟩ : ∃ P, P = PD75 := ⟨_, rfl⟩
 have hP : ListAt Z0p 6 w105 (.slice xa73 P.length xc74) P := by rw [hPe]; exact ListAt.row Z26 (by decide) (H106.at 15 rfl)
 have hPo : ∀ i, i < P.length → PrOk w105 (P.getD i pr0) := fun i hi => (hpin90 _ (by rw [← hPe]; exact Z75 hi)).ok (H106.at 18 rfl)
 have hvP : ∀ p ∈ P, PrV F la tm LB43 p := by rw [hPe]; exact hval
 have hsm := PrV.sms hvP
 have hlPQ : P.length = Q68 := by rw [hPe]; have q := Z85 hcP87; rw [List.length_take] at q; omega
 have hlP : P.length ≤ 1000 := by omega
 have hlC : ∀ i, i < P.length → (P.getD i pr0).C.length ≤ 1000 := fun i hi => Nat.le_trans (hvP _ (Z75 hi)).len (by decide)
 have hLGa : ListAt Z2b 2 w105 (.slice a10 LG.length c11) LG := ListAt.row Z6s (by decide) (H106.at 5 rfl)
 have hSPa : ListAt Z3Z 36 w105 (.slice a12 (Z03 3).length c13) (Z03 3) := ListAt.row Z8X (by decide) (H106.at 6 rfl)
 have hk108 := H106.at 1 rfl
 have hk109 := H106.at 7 rfl
 have hk110 := H106.at 19 rfl
 rw [← hPe] at hk110
 have HK := Sat.start0 w105
 have hint : ∀ c ∈ P.flatMap (·.C), la < Zj c.S ∧ Zj c.S ≤ tm := fun c hc => by
  obtain ⟨p, hp, hc⟩ := List.mem_flatMap.1 hc
  exact ((hvP p hp).ce c hc).time
 refine Z08 HK [Z3 w105 (fun _ => False)] 9 rfl (by kernel_rfl) (fun Hx => (Hx.pk [0])) ?_
 intro w111 H112 S113
 refine hv0 0 S113 49 (pt b20 4) <| hv0 1 S113 50 (pt b20 7) <| hv0 2 S113 51 (.int .u64 (la)) ?_ (he := fun _ H' => (zl1 (H'.roCell 0 rfl hk109 (fun h => h) rfl)))
 refine hv0 3 S113 52 (.agg ⟨(Z1B F b7 r9 la a10 LG.length c11 a12 ((Z03 3).length) c13)⟩) ?_ (he := fun _ H' => (zlN (vs := (Z1B F b7 r9 la a10 LG.length c11 a12 ((Z03 3).length) c13)) (H'.roCells 0 rfl hk109 (fun h => h))))
 refine hv0 6 S113 55 (.agg ⟨(Z0e tm xa73 P.length xc74 ya76 OD78.length yc77 za79 TD81.length zc80)⟩) ?_ (he := fun _ H' => (zlN (vs := (Z0e tm xa73 P.length xc74 ya76 OD78.length yc77 za79 TD81.length zc80)) (H'.roCells 0 rfl hk110 (fun h => h))))
 refine Z4q 4 fun Kq kq => ?_
 refine zdc 53 (Z6m w111 b7 r9 F (3 : Int) F (3 : Int) (4 : Int) la a10 c11 LG (ListAt.now H112 0 rfl hLGa) a12 c13 (Z03 3) (ListAt.now H112 0 rfl hSPa) (by have q := lgl; omega) (by decide)) ?_
 rintro _ w115 ⟨m116, o117, rfl, k118, u119, f120⟩
 have H121 := H112.addU u119 k118 f120
 have H122 := H121.open 1 rfl
 refine ⟨_, rfl, ?_⟩
 have S123 := H122.pk [0]
 refine kq _ _ S123 <| hv0 5 S123 54 (.map (some m116)) <| Z4q 7 fun Kq kq => ?_
 refine zdc 56 (Z4s w115 la tm (4 : Int) ((.slice ya76 OD78.length yc77)) ((.slice za79 TD81.length zc80)) (.map (some m116)) (Z6n LG) (.inl ⟨_, rfl, (H122.at 1 rfl)⟩) xa73 xc74 P (ListAt.now H122 0 rfl hP) (fun i hi => (hPo i hi).now H122 0 rfl) hsm (by omega) (fun i hi => hlC i hi)) ?_
 rintro _ w125 ⟨a126, c127, O128, rfl, p129, s130, k131, u132, f133⟩
 have H134 := H122.addU u132 k131 f133
 have hlO128 := Zag hsm.all p129
 refine ⟨_, rfl, ?_⟩
 have S135 := H134.pk [0]
 refine kq _ _ S135 <| hv0 8 S135 15 (.slice a126 O128.length c127) <| zhf <| ztn <| zsl <| zwN 57 (Z0e tm xa73 P.length xc74 ya76 OD78.length yc77 za79 TD81.length zc80) (H134.roCells 0 rfl hk110 (fun h => h)) <| zwd fun Kq kq => zda (Z6w) H134 fun b137 w138 H139 => ?_
 refine kq _ _ <| zwd fun Kq kq => Z1z (Z0e tm xa73 P.length xc74 ya76 OD78.length yc77 za79 TD81.length zc80) H139 4 fun w141 H142 => ?_
 refine kq _ _ <| Z0y <| wv 58 (.int .u64 (tm)) <| wv 59 (.int .u64 (tm + 1)) ?_ (hr := Z0g (z := tm + 1) (by kernel_rfl) (Z12 (by omega)))
 refine wv 60 (.int .u64 (more)) <| wv 61 (.int .u64 (more % 60)) ?_ (hr := Z8s (by kernel_rfl) (by omega) (by omega))
 refine wv 62 (.int .u64 ((tm + 1) + (more % 60))) ?_ (hr := Z0g (z := (tm + 1) + (more % 60)) (by kernel_rfl) (Z12 (by omega)))
 refine wv 63 (pt b137 1) <| zwd fun Kq kq => zds ([(.int .u64 ((tm + 1) + (more % 60)))] : List Value) (Z0e ((tm + 1) + (more % 60)) xa73 P.length xc74 ya76 OD78.length yc77 za79 TD81.length zc80) H142 4 fun w145 H146 => ?_
 refine kq _ _ <| znt <| Z5 <| Z08 H146 [Z3 w105 (fun _ => False), Z0B m116 nmV Value.bool (Z6n LG), Z0B o117 (Value.int .i64) Z3N (Z2D (Z03 3)), (Z0Z a126 O128 c127), Z0 b137 47 (Z0e ((tm + 1) + (more % 60)) xa73 P.length xc74 ya76 OD78.length yc77 za79 TD81.length zc80)] 7 rfl (by kernel_rfl) (fun Hx => (Hx.pk [0, 1, 2, 3, 4])) fun w148 H149 S150 => ?_
 refine hv0 0 S150 64 (.int .u64 (tm)) <| hv0 1 S150 65 (.agg ⟨(Z1B F b7 r9 la a10 LG.length c11 a12 ((Z03 3).length) c13)⟩) ?_ (he := fun _ H' => (zlN (vs := (Z1B F b7 r9 la a10 LG.length c11 a12 ((Z03 3).length) c13)) (H'.roCells 0 rfl hk109 (fun h => h))))
 refine hv0 4 S150 68 (.agg ⟨(Z0e ((tm + 1) + (more % 60)) xa73 P.length xc74 ya76 OD78.length yc77 za79 TD81.length zc80)⟩) ?_ (he := fun _ H' => (zlN (vs := (Z0e ((tm + 1) + (more % 60)) xa73 P.length xc74 ya76 OD78.length yc77 za79 TD81.length zc80)) (H'.at 4 rfl)))
 refine Z4q 2 fun Kq kq => ?_
 refine zdc 66 (Z6m w148 b7 r9 F (3 : Int) F (3 : Int) (4 : Int) la a10 c11 LG (ListAt.now H149 0 rfl hLGa) a12 c13 (Z03 3) (ListAt.now H149 0 rfl hSPa) (by have q := lgl; omega) (by decide)) ?_
 rintro _ w152 ⟨m153, o154, rfl, k155, u156, f157⟩
 have H158 := H149.addU u156 k155 f157
 have H159 := H158.open 5 rfl
 refine ⟨_, rfl, ?_⟩
 have S160 := H159.pk [0, 1, 2, 3, 4]
 refine kq _ _ S160 <| hv0 3 S160 67 (.map (some m153)) <| Z4q 5 fun Kq kq => ?_
 refine zdc 69 (Z4s w152 tm ((tm + 1) + (more % 60)) (4 : Int) ((.slice ya76 OD78.length yc77)) ((.slice za79 TD81.length zc80)) (.map (some m153)) (Z6n LG) (.inl ⟨_, rfl, (H159.at 5 rfl)⟩) xa73 xc74 P (ListAt.now H159 0 rfl hP) (fun i hi => (hPo i hi).now H159 0 rfl) hsm (by omega) (fun i hi => hlC i hi)) ?_
 rintro _ w162 ⟨a163, c164, O165, rfl, p166, s167, k168, u169, f170⟩
 have H171 := H159.addU u169 k168 f170
 have hlO165 := Zag hsm.all p166
 refine ⟨_, rfl, ?_⟩
 have S172 := H171.pk [0, 1, 2, 3, 4]
 refine kq _ _ S172 <| hv0 6 S172 17 (.slice a163 O165.length c164) <| zhf <| ztn <| Z5 <| Z5 ?_
 have nO165 : O165 = [] := ZaE (fun c hc => (hint c hc).2) p166
 refine Zl <| wv 70 (.slice a163 O165.length c164) <| wv 71 (.int .i64 ((O165.length : Int))) <| wv 72 (.int .i64 (0)) <| znt <| Za <| Zw ([6, 18] ++ List.range' 72 11) (fun F_ W_ m_ => ∃ (u_ : Unit), F_ 72 = (.int .i64 (0)) ∧ Sat w105 [Z3 w105 (fun _ => False), Z0B m116 nmV Value.bool (Z6n LG), Z0B o117 (Value.int .i64) Z3N (Z2D (Z03 3)), (Z0Z a126 O128 c127), Z0 b137 47 (Z0e ((tm + 1) + (more % 60)) xa73 P.length xc74 ya76 OD78.length yc77 za79 TD81.length zc80), Z0B m153 nmV Value.bool (Z6n LG), Z0B o154 (Value.int .i64) Z3N (Z2D (Z03 3)), (Z0Z a163 O165 c164)] W_ ∧ m_ = 1) _ ⟨(), (show ((.int .i64 (0)) : Value) = _ by first | rfl | go_num), H171, rfl⟩ ?_
 rintro g173 w174 _ ⟨u_, v176, H175, rfl⟩
 refine Zd 72 _ v176 ?_
 refine zsl <| wv 73 (.bool (decide ((0 : Int) < (O165.length : Int)))) <| znt <| Z5 ?_
 have b178 : (decide ((0 : Int) < (O165.length : Int))) = false := by rw [nO165]; rfl
 have g179 := of_decide_eq_false b178
 refine Z2X _ b178 ?_
 refine zxb <| ztn <| zsl <| zwN 83 (Z1B F b7 r9 la a10 LG.length c11 a12 ((Z03 3).length) c13) (H175.roCells 0 rfl hk109 (fun h => h)) <| zwd fun Kq kq => zdc 84 (Z6m w174 b7 r9 F (3 : Int) F (3 : Int) (4 : Int) la a10 c11 LG (ListAt.now H175 0 rfl hLGa) a12 c13 (Z03 3) (ListAt.now H175 0 rfl hSPa) (by have q := lgl; omega) (by decide)) ?_
 rintro _ w181 ⟨m182, o183, rfl, k184, u185, f186⟩
 have H187 := H175.addU u185 k184 f186
 have H188 := H187.open 8 rfl
 refine ⟨_, rfl, ?_⟩
 refine kq _ _ <| wv 85 (.map (some m182)) <| wv 19 (.map (some m182)) <| znt <| Z5 <| zsl <| wv 86 (.slice a126 O128.length c127) <| wv 87 (.int .i64 ((O128.length : Int))) <| wv 88 (.int .i64 (0)) <| znt ?_
 refine Za <| Zw [20, 88, 89, 90, 91, 92, 93, 94, 95, 96, 97] (fun F_ W_ m_ => ∃ (k : Nat) (LX : List (NmD × Bool)), F_ 88 = (.int .i64 ((k : Int))) ∧ (k ≤ O128.length) ∧ Sat w105 [Z3 w105 (fun _ => False), Z0B m116 nmV Value.bool (Z6n LG), Z0B o117 (Value.int .i64) Z3N (Z2D (Z03 3)), (Z0Z a126 O128 c127), Z0 b137 47 (Z0e ((tm + 1) + (more % 60)) xa73 P.length xc74 ya76 OD78.length yc77 za79 TD81.length zc80), Z0B m153 nmV Value.bool (Z6n LG), Z0B o154 (Value.int .i64) Z3N (Z2D (Z03 3)), (Z0Z a163 O165 c164), Z0B m182 nmV Value.bool LX, Z0B o183 (Value.int .i64) Z3N (Z2D (Z03 3))] W_ ∧ m_ = O128.length - k) _ ⟨0, (Z6n LG), (show ((.int .i64 (0)) : Value) = _ by first | rfl | go_num), (Nat.zero_le _), H188, rfl⟩ ?_
 rintro g189 w190 _ ⟨k, LX, v192, hk, H191, rfl⟩
 refine Zd 88 _ v192 ?_
 refine zsl <| wv 89 (.bool (decide ((k : Int) < (O128.length : Int)))) <| znt <| Z5 ?_
 refine (ZJ (decide ((k : Int) < (O128.length : Int)))).elim (fun b194 => ?_) (fun b194 => ?_)
 ·have g195 := of_decide_eq_true b194
  refine Z33 _ b194 ?_
  refine Zt <| ztn <| Z5 <| Za <| zsl <| wv 90 (.int .i64 ((k : Int))) <| wv 20 (.int .i64 ((k : Int))) <| znt <| Zl <| wv 91 (.map (some m182)) ?_
  refine wv 92 (.slice a126 O128.length c127) <| wv 93 (.int .i64 ((k : Int))) ?_
  obtain ⟨g197, c198, e199⟩ := Z0z (H191.at 3 rfl) (by omega)
  obtain ⟨x200, h201⟩ := Z3E (show k < O128.length by omega)
  refine wv 94 (.pointer (some ⟨g197, 0 + ((k : Int)).toNat * 35, none⟩)) ?_ (hr := Z04 (E := 63) (by kernel_rfl) (by kernel_rfl) (Nat.le_of_ble_eq_true rfl) rfl e199 rfl (by omega) (by omega))
  refine wv 95 (.pointer (some ⟨g197, 0 + ((k : Int)).toNat * 35, none⟩)) <| wv 96 (.agg ⟨(Z2G x200.cl x200.sq)⟩) ?_ (hr := Z05 (vs := (Z2G x200.cl x200.sq)) rfl (by kernel_rfl) (by kernel_rfl) (Nat.le_of_ble_eq_true (by kernel_rfl)) (Z2n (H191.at 3 rfl) e199 Z1w h201 0 (show 0 + ((k : Int)).toNat * 35 = k * 35 + 0 by omega) (by kernel_rfl) (by kernel_rfl)))
  refine zwd fun Kq kq => Z0F (kt := 59) (et := 4) rfl H191 8 rfl nmK (by kernel_rfl) rfl (⟨x200.cl, x200.sq⟩ : NmD) rfl true rfl fun w203 H204 => ?_
  refine kq _ _ <| Zu <| Z7 <| ztn <| Zl <| zwi 97 ((k : Int) + 1) <| wv 88 (.int .i64 ((k : Int) + 1)) <| Zu <| Z6 ?_ _ ⟨(k + 1), (Z2j LX (⟨x200.cl, x200.sq⟩ : NmD) true), rfl, (by omega), H204, rfl⟩ (by omega)
  exact zs
 have g205 := of_decide_eq_false b194
 refine Z2X _ b194 ?_
 refine zxb <| ztn <| Z5 <| Z08 H191 [Z3 w105 (fun _ => False), Z0B m116 nmV Value.bool (Z6n LG), Z0B o117 (Value.int .i64) Z3N (Z2D (Z03 3)), (Z0Z a126 O128 c127), Z0 b137 47 (Z0e ((tm + 1) + (more % 60)) xa73 P.length xc74 ya76 OD78.length yc77 za79 TD81.length zc80), Z0B m153 nmV Value.bool (Z6n LG), Z0B o154 (Value.int .i64) Z3N (Z2D (Z03 3)), (Z0Z a163 O165 c164), Z0B m182 nmV Value.bool LX, Z0B o183 (Value.int .i64) Z3N (Z2D (Z03 3))] 8 rfl (by kernel_rfl) (fun Hx => (Hx.pk [0, 1, 2, 3, 4, 5, 6, 7, 8, 9])) fun w207 H208 S209 => ?_
 refine hv0 0 S209 98 (.slice a126 O128.length c127) <| hv0 2 S209 100 (.int .u64 (tm)) <| hv0 3 S209 101 (.map (some m182)) <| hv0 4 S209 102 (.agg ⟨(Z0e ((tm + 1) + (more % 60)) xa73 P.length xc74 ya76 OD78.length yc77 za79 TD81.length zc80)⟩) ?_ (he := fun _ H' => (zlN (vs := (Z0e ((tm + 1) + (more % 60)) xa73 P.length xc74 ya76 OD78.length yc77 za79 TD81.length zc80)) (H'.at 4 rfl)))
 refine Z4q 1 fun Kq kq => ?_
 refine zdc 99 (Zdb w207 (.slice a126 O128.length c127) O128 (ListAt.row (enc := Z1q) (sz := 35) Z1w (by decide) (H208.at 3 rfl)) (by omega)) ?_
 rintro _ w211 ⟨u212, rfl, k213, p214, q215⟩
 have H216 := H208.addU p214 k213 q215
 obtain ⟨a217, c218, rfl⟩ := Z2 (H216.at 10 rfl)
 refine ⟨_, rfl, ?_⟩
 have S219 := H216.pk [0, 1, 2, 3, 4, 5, 6, 7, 8, 9]
 refine kq _ _ S219 <| Z4q 5 fun Kq kq => ?_
 refine zdc 103 (Z4s w211 tm ((tm + 1) + (more % 60)) (4 : Int) ((.slice ya76 OD78.length yc77)) ((.slice za79 TD81.length zc80)) (.map (some m182)) LX (.inl ⟨_, rfl, (H216.at 8 rfl)⟩) xa73 xc74 P (ListAt.now H216 0 rfl hP) (fun i hi => (hPo i hi).now H216 0 rfl) hsm (by omega) (fun i hi => hlC i hi)) ?_
 rintro _ w221 ⟨a222, c223, O224, rfl, p225, s226, k227, u228, f229⟩
 have H230 := H216.addU u228 k227 f229
 have hlO224 := Zag hsm.all p225
 refine ⟨_, rfl, ?_⟩
 have S231 := H230.pk [0, 1, 2, 3, 4, 5, 6, 7, 8, 9]
 refine kq _ _ S231 <| Z4q 6 fun Kq kq => ?_
 refine Z00 (T := 56) (e := 63) (size := 35) (bytes := 56) rfl H230 (by kernel_rfl) 10 11 rfl rfl rfl rfl (ZX Z1q Z5N O224) (by omega) (by omega) ?_
 intro v233 w234 H235
 have H238 := H235.ct 10 rfl (Zc 63 35 v233 ((O128 ++ O224).length) ((O128 ++ O224).flatMap Z1q)) ja
 obtain ⟨a236, c237, rfl⟩ := Z2 (H238.at 10 rfl)
 have S239 := H238.pk [0, 1, 2, 3, 4, 5, 6, 7, 8, 9]
 refine kq _ _ S239 <| hv0 7 S239 21 (.slice a236 ((O128 ++ O224).length) c237) <| zhf <| ztn <| Z5 <| Z5 ?_
 have nO224 : O224 = [] := ZaE (fun c hc => (hint c hc).2) p225
 have hall : (O128 ++ O224) = O128 := by rw [nO224, List.append_nil]
 refine Zd 21 (.slice a236 O128.length c237) (show ((.slice a236 ((O128 ++ O224).length) c237) : Value) = _ by rw [hall]) ?_
 have H240 : Sat w105 [Z3 w105 (fun _ => False), Z0B m116 nmV Value.bool (Z6n LG), Z0B o117 (Value.int .i64) Z3N (Z2D (Z03 3)), Zc 63 35 (.slice a126 O128.length c127) O128.length (O128.flatMap Z1q), Z0 b137 47 ([(.int .i64 (4)), (.int .u64 ((tm + 1) + (more % 60))), (.slice xa73 P.length xc74), ((.slice ya76 OD78.length yc77)), ((.slice za79 TD81.length zc80))] : List Value), Z0B m153 nmV Value.bool (Z6n LG), Z0B o154 (Value.int .i64) Z3N (Z2D (Z03 3)), Zc 63 35 (.slice a163 O165.length c164) O165.length (O165.flatMap Z1q), Z0B m182 nmV Value.bool LX, Z0B o183 (Value.int .i64) Z3N (Z2D (Z03 3)), Zc 63 35 (.slice a236 O128.length c237) O128.length (O128.flatMap Z1q), Zc 63 35 (.slice a222 O224.length c223) O224.length (O224.flatMap Z1q)] w234 := (by have q_ := H238; rw [hall] at q_; exact q_)
 have hnd1 := Zej hsm.all p129
 have hle1 := hlO128
 refine Zl <| wv 22 (.int .i64 (1)) <| znt <| Za <| Zw ([6, 22] ++ List.range' 105 32) (fun F_ W_ m_ => ∃ (j : Nat), F_ 22 = (.int .i64 ((j : Int))) ∧ (1 ≤ j) ∧ Sat w105 [Z3 w105 (fun _ => False), Z0B m116 nmV Value.bool (Z6n LG), Z0B o117 (Value.int .i64) Z3N (Z2D (Z03 3)), (Z0Z a126 O128 c127), Z0 b137 47 (Z0e ((tm + 1) + (more % 60)) xa73 P.length xc74 ya76 OD78.length yc77 za79 TD81.length zc80), Z0B m153 nmV Value.bool (Z6n LG), Z0B o154 (Value.int .i64) Z3N (Z2D (Z03 3)), (Z0Z a163 O165 c164), Z0B m182 nmV Value.bool LX, Z0B o183 (Value.int .i64) Z3N (Z2D (Z03 3)), (Z0Z a236 O128 c237), (Z0Z a222 O224 c223)] W_ ∧ m_ = 20 - j) _ ⟨1, (show ((.int .i64 (1)) : Value) = _ by first | rfl | go_num), (Nat.le_refl _), H240, rfl⟩ ?_
 rintro g241 w242 _ ⟨j, v244, hj, H243, rfl⟩
 refine Zd 22 _ v244 ?_
 refine Z5 <| zsl <| wv 105 (.int .i64 ((j : Int))) <| wv 106 (.slice a236 O128.length c237) <| wv 107 (.int .i64 ((O128.length : Int))) <| wv 108 (.bool (decide ((j : Int) < (O128.length : Int)))) <| znt ?_
 refine (ZJ (decide ((j : Int) < (O128.length : Int)))).elim (fun b246 => ?_) (fun b246 => ?_)
 ·have g247 := of_decide_eq_true b246
  refine Z33 _ b246 ?_
  refine Zt <| ztn <| Z5 <| Za <| Z5 <| zqs H243 ?_
  refine qv 111 (.slice a236 O128.length c237) <| qv 112 (.int .i64 ((j : Int))) ?_
  obtain ⟨g249, c250, e251⟩ := Z0z (H243.at 10 rfl) (by omega)
  obtain ⟨x252, h253⟩ := Z3E (show j < O128.length by omega)
  refine qv 113 (.pointer (some ⟨g249, 0 + ((j : Int)).toNat * 35, none⟩)) ?_ (hr := fun _ H' => (Z04 (E := 63) (by kernel_rfl) (by kernel_rfl) (Nat.le_of_ble_eq_true rfl) rfl e251 rfl (by omega) (by omega)))
  refine qv 114 (.pointer (some ⟨g249, 0 + ((j : Int)).toNat * 35 + 34, none⟩)) <| qv 115 (.int .u64 (x252.t)) ?_ (hr := fun _ H' => (zl1 (Z1x (H'.at 10 rfl) e251 Z1w h253 34 rfl (show 0 + ((j : Int)).toNat * 35 + 34 = j * 35 + 34 by omega) (by kernel_rfl))))
  refine qv 116 (.slice a236 O128.length c237) <| qv 117 (.int .i64 ((j : Int))) <| qv 118 (.int .i64 ((j : Int) - 1)) ?_ (hr := fun _ H' => (Z0g (z := (j : Int) - 1) (by kernel_rfl) (IntWalk.i64_in _ (by omega))))
  obtain ⟨g254, c255, e256⟩ := Z0z (H243.at 10 rfl) (by omega)
  obtain ⟨x257, h258⟩ := Z3E (show ((j : Int) - 1).toNat < O128.length by omega)
  refine qv 119 (.pointer (some ⟨g254, 0 + ((j : Int) - 1).toNat * 35, none⟩)) ?_ (hr := fun _ H' => (Z04 (E := 63) (by kernel_rfl) (by kernel_rfl) (Nat.le_of_ble_eq_true rfl) rfl e256 rfl (by omega) (by omega)))
  refine qv 120 (.pointer (some ⟨g254, 0 + ((j : Int) - 1).toNat * 35 + 34, none⟩)) <| qv 121 (.int .u64 (x257.t)) ?_ (hr := fun _ H' => (zl1 (Z1x (H'.at 10 rfl) e256 Z1w h258 34 rfl (show 0 + ((j : Int) - 1).toNat * 35 + 34 = ((j : Int) - 1).toNat * 35 + 34 by omega) (by kernel_rfl))))
  refine qv 122 (.bool (decide (x252.t < x257.t))) <| qv 123 (.bool (decide (x252.t < x257.t))) ?_
  have b259 : (decide (x252.t < x257.t)) = false := by exact Zfw s130 h253 h258 (by omega)
  refine Z21 123 (.bool false) (congrArg Value.bool b259) ?_
  have g260 := of_decide_eq_false b259
  refine qy 12 123 false 124 (.slice a236 O128.length c237) <| qy 12 123 false 125 (.int .i64 ((j : Int))) <| qy 12 123 false 126 (.pointer (some ⟨g249, 0 + ((j : Int)).toNat * 35, none⟩)) ?_ (hr := fun _ H' => (Z04 (E := 63) (by kernel_rfl) (by kernel_rfl) (Nat.le_of_ble_eq_true rfl) rfl e251 rfl (by omega) (by omega)))
  refine qy 12 123 false 127 (.pointer (some ⟨g249, 0 + ((j : Int)).toNat * 35, none⟩)) <| qy 12 123 false 128 (.agg ⟨(Z2G x252.cl x252.sq)⟩) ?_ (hr := fun _ H' => (Z05 (vs := (Z2G x252.cl x252.sq)) rfl (by kernel_rfl) (by kernel_rfl) (Nat.le_of_ble_eq_true (by kernel_rfl)) (Z2n (H'.at 10 rfl) e251 Z1w h253 0 (show 0 + ((j : Int)).toNat * 35 = j * 35 + 0 by omega) (by kernel_rfl) (by kernel_rfl))))
  refine qy 12 123 false 129 (.slice a236 O128.length c237) <| qy 12 123 false 130 (.int .i64 ((j : Int))) <| qy 12 123 false 131 (.int .i64 ((j : Int) - 1)) ?_ (hr := fun _ H' => (Z0g (z := (j : Int) - 1) (by kernel_rfl) (IntWalk.i64_in _ (by omega))))
  refine qy 12 123 false 132 (.pointer (some ⟨g254, 0 + ((j : Int) - 1).toNat * 35, none⟩)) ?_ (hr := fun _ H' => (Z04 (E := 63) (by kernel_rfl) (by kernel_rfl) (Nat.le_of_ble_eq_true rfl) rfl e256 rfl (by omega) (by omega)))
  refine qy 12 123 false 133 (.pointer (some ⟨g254, 0 + ((j : Int) - 1).toNat * 35, none⟩)) <| qy 12 123 false 134 (.agg ⟨(Z2G x257.cl x257.sq)⟩) ?_ (hr := fun _ H' => (Z05 (vs := (Z2G x257.cl x257.sq)) rfl (by kernel_rfl) (by kernel_rfl) (Nat.le_of_ble_eq_true (by kernel_rfl)) (Z2n (H'.at 10 rfl) e256 Z1w h258 0 (show 0 + ((j : Int) - 1).toNat * 35 = ((j : Int) - 1).toNat * 35 + 0 by omega) (by kernel_rfl) (by kernel_rfl))))
  refine qy 12 123 false 135 (.bool (decide (x252.cl = x257.cl ∧ x252.sq = x257.sq))) ?_ (hr := fun _ H' => (ZaR x252.cl x252.sq x257.cl x257.sq rfl rfl))
  refine qv 136 (.bool (decide (x252.cl = x257.cl ∧ x252.sq = x257.sq))) <| Z17 fun w261 H262 => ?_
  apply ztn
  have b263 : (decide (x252.cl = x257.cl ∧ x252.sq = x257.sq)) = false := by exact Zfs hnd1 h253 h258 (by omega)
  refine Z2X _ b263 ?_
  refine Zt <| Z7 <| ztn <| Zl <| wv 109 (.int .i64 ((j : Int))) <| zwi 110 ((j : Int) + 1) <| wv 22 (.int .i64 ((j : Int) + 1)) <| Zu <| Z6 ?_ _ ⟨(j + 1), rfl, (by omega), H262, rfl⟩ (by omega)
  exact zs
 have g264 := of_decide_eq_false b246
 refine Z2X _ b246 ?_
 refine zxb <| ztn <| zsl <| zwd fun Kq kq => zdq 137 (Zdy w242) H243 fun w267 H268 => ?_
 refine kq _ _ <| wv 6 (.bool true) <| znt <| Zq <| ze1 (.bool true) ?_
 exact ⟨rfl, hU1.trans (H268.upd 0 rfl [] (fun _ h => h.elim))⟩
end Go.Proofs.YtenihpghfdcpkaaGreat
