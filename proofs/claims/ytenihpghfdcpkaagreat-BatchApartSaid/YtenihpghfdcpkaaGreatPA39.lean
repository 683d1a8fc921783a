/- WHAT IS PROVED: contracts and plain laws of Par12. Conditions: stated with each. -/
import Derived.Test.YtenihpghfdcpkaaGreatPA05
import Derived.Test.YtenihpghfdcpkaaGreatPA18
import Derived.Test.YtenihpghfdcpkaaGreatPA34
import Derived.Test.YtenihpghfdcpkaaGreatPA35
import Derived.Test.YtenihpghfdcpkaaGreatPA37
import Derived.Test.YtenihpghfdcpkaaGreatPA38
set_option maxHeartbeats 4000000
set_option maxRecDepth 100000
namespace Go.Proofs.YtenihpghfdcpkaaGreat
open Go.RowKit
abbrev ZB (p0 : Nat) : List Value := ([(.map (some p0))] : List Value)
abbrev ZC (p0 : Nat) (p1 : List Signed) : Ck := Z0B p0 ZZ (Value.int .i64) (Z0a p1)
abbrev Zx (p0 : Option Addr) (p1 : Nat) (p2 : Nat) : List Value := ([(.slice p0 p1 p2)] : List Value)
abbrev ZA (p0 : Option Addr) (p1 : List Signed) (p2 : Nat) : Ck := Zc 181 2 (.slice p0 p1.length p2) p1.length (p1.flatMap Z4W)
abbrev Zz (p0 : Int) (p1 : Nat) (p2 : Nat) (p3 : Int) (p4 : Value) (p5 : Value) : List Value := ([(.int .i64 p0), (.int .i64 (3)), (pt p1 0), (pt p2 0), (.int .i64 p0), (.int .i64 (3)), (.int .i64 (4)), (.int .u64 p3), p4, p5] : List Value)
abbrev ZE (p0 : Option Addr) (p1 : Nat) (p2 : Nat) (p3 : Option Addr) (p4 : Nat) (p5 : Nat) (p6 : Option Addr) (p7 : Nat) (p8 : Nat) (p9 : Int) (p10 : Option Addr) (p11 : Nat) (p12 : Nat) (p13 : Option Addr) (p14 : Nat) (p15 : Nat) (p16 : Int) (p17 : Value) (p18 : Int) : List Value := ([(.slice p0 p1 p2), (.slice p3 p4 p5), (.slice p6 p7 p8), (.int .u64 p9), (.slice p10 p11 p12), (.slice p13 p14 p15), (.int .i64 p16), p17, (.int .u64 p18)] : List Value)
abbrev Z5B (p0 : Int) : List Value := ([(.int .i64 p0), (.int .i64 (3))] : List Value)
abbrev ZG (p0 : Option Addr) (p1 : List PrR) (p2 : Nat) : Ck := Zc 71 6 (.slice p0 p1.length p2) p1.length (p1.flatMap Z0p)
abbrev Z09 (p0 : Int) (p1 : Int) (p2 : Option Addr) (p3 : Nat) (p4 : Nat) : List Value := ([(.int .i64 p0), (.int .i64 (3)), (.int .i64 p1), (.slice p2 p3 p4)] : List Value)
abbrev ZY (p0 : Option Addr) (p1 : List CeR) (p2 : Nat) : Ck := Zc 76 38 (.slice p0 p1.length p2) p1.length (p1.flatMap Z0V)
abbrev Z24 (p0 : Option Addr) (p1 : List Z4) (p2 : Nat) : Ck := Zc 149 38 (.slice p0 p1.length p2) p1.length (p1.flatMap Z1U)
abbrev Z1a (p0 : Z9) (p1 : Option Addr) (p2 : Nat) (p3 : Nat) : List Value := ([(.int .i64 p0.cl), (.int .i64 p0.seq)] : List Value) ++ hc p0.h ++ ([(.int .i64 p0.len), (.int .i64 p0.sb), (.int .i64 p0.sm), (.slice p1 p2 p3)] : List Value)
abbrev Z5K (p0 : Nat) (p1 : Nat) : List Value := ([(pt p0 0), (pt p1 0)] : List Value)
abbrev Z1u : List Value := ([(.int .i64 (0)), (.int .i64 (0))] : List Value) ++ hc Zn ++ ([(.int .i64 (0)), (.int .i64 (0)), (.int .i64 (0)), (.slice none 0 0)] : List Value)
abbrev Z2t (p0 : Z4) : List Value := ([(.int .i64 p0.r), (.int .i64 p0.cl), (.int .i64 p0.seq)] : List Value) ++ hc p0.h ++ ([(.int .u64 p0.t), (.int .i64 p0.sb), (.int .i64 p0.sm)] : List Value)
abbrev Zdz : List Value := ([(.int .i64 (0)), (.int .i64 (0)), (.int .i64 (0))] : List Value) ++ hc Zn ++ ([(.int .u64 (0)), (.int .i64 (0)), (.int .i64 (0))] : List Value)
abbrev Z1b (p0 : Option Addr) (p1 : List UInt8) (p2 : Nat) : Ck := Zc 5 1 (.slice p0 p1.length p2) p1.length (p1.flatMap Zy)
abbrev Z1e (p0 : Int) (p1 : Int) (p2 : Option Addr) (p3 : Nat) (p4 : Nat) (p5 : Int) : List Value := ([(.int .i64 p0), (.int .i64 (4)), (.int .u64 p1), (.slice p2 p3 p4), (.int .i64 p0), (.int .i64 p5)] : List Value)
abbrev Z6S : List Value := ([(.int .i64 (0)), (.int .i64 (0)), (.int .u64 (0)), (.slice none 0 0), (.int .i64 (0)), (.int .i64 (0))] : List Value)
abbrev Z0i (p0 : Option Addr) (p1 : List OpR) (p2 : Nat) : Ck := Zc 86 34 (.slice p0 p1.length p2) p1.length (p1.flatMap Z0L)
abbrev Z4x (p0 : Int) (p1 : Nat) : List Value := ([(.int .i64 p0), (.slice (some ⟨p1, 0, none⟩) 1 1)] : List Value) ++ hc Zn
abbrev Z0K (p0 : Option Addr) (p1 : List TbR) (p2 : Nat) : Ck := Zc 89 2 (.slice p0 p1.length p2) p1.length (p1.flatMap Z0I)
abbrev Z0v (p0 : Int) (p1 : Option Addr) (p2 : Nat) (p3 : Nat) : List Value := ([(.int .i64 p0), (.slice p1 p2 p3)] : List Value)
abbrev Z1K (p0 : Option Addr) (p1 : List Z1d) (p2 : Nat) : Ck := Zc 122 4 (.slice p0 p1.length p2) p1.length (p1.flatMap Z3n)
abbrev Z2U (p0 : Int) (p1 : Int) : List Value := ([(.int .i64 p0), (.int .i64 p1), (.int .i64 (0)), (.int .i64 (0))] : List Value)
abbrev Z96 : List Value := ([(.int .i64 (0)), (.int .i64 (0)), (.int .i64 (0)), (.int .i64 (0))] : List Value)
abbrev Z1v (p0 : Int) (p1 : Int) (p2 : Int) : List Value := ([(.int .i64 p0), (.int .i64 p1), (.int .i64 p0), (.int .i64 p2)] : List Value)
theorem Zbp (w : World) (F last : Int) (hF : 1 ≤ F ∧ F ≤ 2) (hla : 0 ≤ last ∧ last < 20) (b mb r : Nat) (ra : Option Addr) (rc : Nat) (Lb : List Signed) (hA : (ZR (ZT b mb r ra rc Lb)).ok w) (hnb : Lb.Nodup) (hlb : Lb.length ≤ 100) (lg op pl_ : Value) (ptm psk pla : Int) (hptm : 0 ≤ ptm ∧ ptm ≤ 18446744073709551615) (na : Option Addr) (nc : Nat) (N : List NmD) (hN : ListAt Z2b 2 w (.slice na N.length nc) N) (oN : 0 < N.length → ∀ ad, na = some ad → ¬ (ZR (ZT b mb r ra rc Lb)).fp ad.block) (ta : Option Addr) (tc : Nat) (TT : List TmR) (hTT : ListAt Zc6 1 w (.slice ta TT.length tc) TT) (oT : 0 < TT.length → ∀ ad, ta = some ad → ¬ (ZR (ZT b mb r ra rc Lb)).fp ad.block) (ha : Option Addr) (hc_ : Nat) (HH : List Int) (hHH : ListAt Zcc 1 w (.slice ha HH.length hc_) HH) (oH : 0 < HH.length → ∀ ad, ha = some ad → ¬ (ZR (ZT b mb r ra rc Lb)).fp ad.block) (oa : Option Addr) (oc : Nat) (OO : List Int) (hOO : ListAt Zcc 1 w (.slice oa OO.length oc) OO) (oO : 0 < OO.length → ∀ ad, oa = some ad → ¬ (ZR (ZT b mb r ra rc Lb)).fp ad.block) (ba : Option Addr) (bc : Nat) (BB : List Int) (hBB : ListAt Zcc 1 w (.slice ba BB.length bc) BB) (oB : 0 < BB.length → ∀ ad, ba = some ad → ¬ (ZR (ZT b mb r ra rc Lb)).fp ad.block) (htt : ∀ x ∈ TT, TmOk w x) (oX : ∀ x ∈ TT, 0 < x.xs.length → ∀ ad, x.ta = some ad → ¬ (ZR (ZT b mb r ra rc Lb)).fp ad.block) :
  Calls Tryz.prog 11 #[(.agg ⟨([(.int .i64 (F)), (.int .i64 (3)), (.pointer (some ⟨b, 0, none⟩)), (.pointer (some ⟨r, 0, none⟩)), (.int .i64 (F)), (.int .i64 (3)), (.int .i64 (4)), (.int .u64 (last)), (lg), (op)] : List Value)⟩), (.agg ⟨([(.slice na N.length nc), (.slice ta TT.length tc), (.slice ha HH.length hc_), (.int .u64 (ptm)), (.slice oa OO.length oc), (.slice ba BB.length bc), (.int .i64 (psk)), (pl_), (.int .u64 (pla))] : List Value)⟩)] w fun e w' => ∃ (pa : Option Addr) (pc : Nat) (PS : List PrR) (osa : Option Addr) (osc : Nat) (OS : List OpR) (tsa : Option Addr) (tsc : Nat) (TS : List TbR) (ra4 : Option Addr) (rc4 : Nat) (L4 : List Signed) (B4 : List Ck), e = .returned (.tuple #[.int .u64 (last + 1 + ptm % 60), .slice pa PS.length pc, .slice osa OS.length osc, .slice tsa TS.length tsc]) ∧ PsF F last (last + 1 + ptm % 60) L4 B4 PS ∧ (∀ o ∈ OS, OpG B4 o) ∧ OS.length ≤ 4 ∧ (∀ t ∈ TS, TbG F L4 B4 t) ∧ TS.length ≤ 3 ∧ L4.Nodup ∧ L4.length ≤ 700 ∧ Lb <+: L4 ∧ Sat w [Z0 b 179 [.map (some mb)], Z0B mb ZZ (Value.int .i64) (Z0a L4), Z0 r 165 [.slice ra4 (L4).length rc4], Zc 181 2 (.slice ra4 (L4).length rc4) (L4).length ((L4).flatMap Z4W), Zc 71 6 (.slice pa PS.length pc) PS.length (PS.flatMap Z0p), Zc 86 34 (.slice osa OS.length osc) OS.length (OS.flatMap Z0L), Zc 89 2 (.slice tsa TS.length tsc) TS.length (TS.flatMap Z0I), Z0b B4, Z3 w (ZR (ZT b mb r ra rc Lb)).fp] w' := by
 obtain ⟨n, hn⟩ : ∃ n : Nat, (n : Int) = 3 * F + 1 := ⟨(3 * F + 1).toNat, by omega⟩
 obtain ⟨tm, htm⟩ : ∃ tm : Int, tm = last + 1 + ptm % 60 := ⟨_, rfl⟩
 have htm2 : last < tm ∧ tm ≤ last + 60 := by omega
 have H := Sat.start (ZT b mb r ra rc Lb) hA
 refine Z8 Tryz.func11 rfl 247 rfl (Nat.le_of_ble_eq_true rfl) ?_
 refine zsl <| zwd fun Kq kq => zdb (Zz F b r last lg op) H ?_
 intro b2 w3 (H4 : Sat w [Z0 b 179 (ZB mb), (ZC mb Lb), Z0 r 165 (Zx ra Lb.length rc), (ZA ra Lb rc), Z3 w (ZR (ZT b mb r ra rc Lb)).fp, Z0 b2 38 (Zz F b r last lg op)] w3)
 refine kq _ _ <| zwd fun Kq kq => zdb (ZE na N.length nc ta TT.length tc ha HH.length hc_ ptm oa OO.length oc ba BB.length bc psk pl_ pla) H4 fun b6 w7 H8 => ?_
 refine kq _ _ <| wv 4 (.int .u64 (0)) <| wv 5 (.slice none 0 0) <| wv 6 (.slice none 0 0) <| wv 7 (.slice none 0 0) <| Z0y <| wv 30 (pt b2 4) <| wv 31 (pt b2 7) <| zw1 32 (.int .u64 (last)) (H8.cell 5 rfl rfl) <| wv 33 (.int .u64 (last + 1)) ?_ (hr := Z0g (z := last + 1) (by kernel_rfl) (Z12 (by omega)))
 refine wv 34 (pt b6 3) <| zw1 35 (.int .u64 (ptm)) (H8.cell 6 rfl rfl) <| wv 36 (.int .u64 (ptm % 60)) ?_ (hr := Z8s (by kernel_rfl) (by omega) (by omega))
 refine wv 37 (.int .u64 ((last + 1) + (ptm % 60))) ?_ (hr := Z0g (z := (last + 1) + (ptm % 60)) (by kernel_rfl) (Z12 (by omega)))
 refine wv 8 (.int .u64 ((last + 1) + (ptm % 60))) <| znt <| Z5 <| Zd 8 (.int .u64 (tm)) (show ((.int .u64 ((last + 1) + (ptm % 60))) : Value) = _ by rw [htm]) ?_
 refine Zl <| wv 38 (pt b2 0) <| zwN 39 (Z5B F) (H8.at 5 rfl) <| zwd fun Kq kq => zdq 40 (Zdu w7 F 3 (by omega)) H8 fun w10 H11 => ?_
 refine kq _ _ <| wv 9 (.int .i64 (3 * F + 1)) <| znt <| Z5 <| Zd 9 (.int .i64 ((n : Int))) (show ((.int .i64 (3 * F + 1)) : Value) = _ by rw [hn]) ?_
 refine Zl <| wv 10 (.slice none 0 0) <| znt <| Z5 <| zsl <| wv 11 (.int .i64 (0)) <| znt <| Za ?_
 have H13 := H11.addNil 71 6
 have H14 := H13.bag0
 refine Zw (List.range' 10 11 ++ List.range' 41 113) (fun F_ W_ m_ => ∃ (q : Nat) (ra1 : Option Addr) (rc1 : Nat) (L1 : List Signed) (B : List Ck) (pa : Option Addr) (pc : Nat) (PS : List PrR), F_ 11 = (.int .i64 ((q : Int))) ∧ F_ 10 = (.slice pa PS.length pc) ∧ (q ≤ n) ∧ (PsG F last tm L1 B PS q) ∧ (L1.Nodup) ∧ (L1.length ≤ 100 + 70 * q) ∧ (Lb <+: L1) ∧ Sat w [Z0 b 179 (ZB mb), (ZC mb L1), Z0 r 165 (Zx ra1 L1.length rc1), (ZA ra1 L1 rc1), Z3 w (ZR (ZT b mb r ra rc Lb)).fp, Z0 b2 38 (Zz F b r last lg op), Z0 b6 27 (ZE na N.length nc ta TT.length tc ha HH.length hc_ ptm oa OO.length oc ba BB.length bc psk pl_ pla), (ZG pa PS pc), Z0b B] W_ ∧ m_ = n - q) _ ⟨0, ra, rc, Lb, [], none, 0, [], (show ((.int .i64 (0)) : Value) = _ by first | rfl | go_num), (by first | rfl | go_num), (Nat.zero_le _), PsG.nil, hnb, (by omega), (List.prefix_refl _), H14, rfl⟩ ?_
 rintro g15 w16 _ ⟨q, ra1, rc1, L1, B, pa, pc, PS, v18, v19, hq, hps, hnd1, hl1, hpre1, H17, rfl⟩
 refine Zd 11 _ v18 ?_
 refine Zd 10 _ v19 ?_
 have hpsl := hps.length
 refine Z5 <| zsl <| wv 41 (.int .i64 ((q : Int))) <| wv 42 (.int .i64 ((n : Int))) <| wv 43 (.bool (decide ((q : Int) < (n : Int)))) <| znt ?_
 refine (ZJ (decide ((q : Int) < (n : Int)))).elim (fun b21 => ?_) (fun b21 => ?_)
 ·have g22 := of_decide_eq_true b21
  refine Z33 _ b21 ?_
  refine Zt <| ztn <| Z5 <| Za <| zsl <| wv 46 (pt b2 0) <| zwN 47 (Z5B F) (H17.at 5 rfl) <| wv 48 (.int .i64 ((q : Int))) <| wv 49 (.agg ⟨([(.int .i64 (F)), (.int .i64 (3)), (.int .i64 ((q : Int))), (.slice none 0 0)] : List Value)⟩) <| zwd fun Kq kq => ?_
  refine zdb ([(.int .i64 (F)), (.int .i64 (3)), (.int .i64 ((q : Int))), (.slice none 0 0)] : List Value) H17 ?_
  intro b25 w26 (H27 : Sat w [Z0 b 179 (ZB mb), (ZC mb L1), Z0 r 165 (Zx ra1 L1.length rc1), (ZA ra1 L1 rc1), Z3 w (ZR (ZT b mb r ra rc Lb)).fp, Z0 b2 38 (Zz F b r last lg op), Z0 b6 27 (ZE na N.length nc ta TT.length tc ha HH.length hc_ ptm oa OO.length oc ba BB.length bc psk pl_ pla), (ZG pa PS pc), Z0b B, Z0 b25 107 ([(.int .i64 (F)), (.int .i64 (3)), (.int .i64 ((q : Int))), (.slice none 0 0)] : List Value)] w26)
  refine kq _ _ <| wv 12 (pt b25 0) <| znt <| Z5 <| zsl <| wv 13 (.int .i64 (0)) <| znt <| Za ?_
  have H28 := H27.addNil 76 38
  refine Zw ([13, 14, 15, 16, 17, 18] ++ List.range' 51 75) (fun F_ W_ m_ => ∃ (i : Nat) (ra2 : Option Addr) (rc2 : Nat) (L2 : List Signed) (B2 : List Ck) (la : Option Addr) (lc : Nat) (L : List CeR), F_ 13 = (.int .i64 ((i : Int))) ∧ (i ≤ 5) ∧ (i ≤ N.length) ∧ (TabOk F L2 B2 L) ∧ (PsG F last tm L2 B2 PS q) ∧ (L2.Nodup) ∧ (L2.length ≤ 100 + 70 * q + 13 * i) ∧ (L.length ≤ i) ∧ (Lb <+: L2) ∧ Sat w [Z0 b 179 (ZB mb), (ZC mb L2), Z0 r 165 (Zx ra2 L2.length rc2), (ZA ra2 L2 rc2), Z3 w (ZR (ZT b mb r ra rc Lb)).fp, Z0 b2 38 (Zz F b r last lg op), Z0 b6 27 (ZE na N.length nc ta TT.length tc ha HH.length hc_ ptm oa OO.length oc ba BB.length bc psk pl_ pla), (ZG pa PS pc), Z0b B2, Z0 b25 107 (Z09 F ((q : Int)) la L.length lc), (ZY la L lc)] W_ ∧ m_ = 5 - i) _ ⟨0, ra1, rc1, L1, B, none, 0, [], (show ((.int .i64 (0)) : Value) = _ by first | rfl | go_num), (Nat.zero_le _), (Nat.zero_le _), TabOk.nil, hps, hnd1, (by omega), (Nat.zero_le _), hpre1, H28, rfl⟩ ?_
  rintro g29 w30 _ ⟨i, ra2, rc2, L2, B2, la, lc, L, v32, hi, hiN, hti, hps1, hnd2, hl2, hLl, hpre1b, H31, rfl⟩
  refine Zd 13 _ v32 ?_
  apply Z5
  refine Z28 [51, 52, 53, 54, 55, 56, 57, 58, 59] (fun G_ W_ => G_ 59 = (.bool (decide ((i : Int) < (N.length : Int)) && decide ((i : Int) < 5))) ∧ Sat w [Z0 b 179 (ZB mb), (ZC mb L2), Z0 r 165 (Zx ra2 L2.length rc2), (ZA ra2 L2 rc2), Z3 w (ZR (ZT b mb r ra rc Lb)).fp, Z0 b2 38 (Zz F b r last lg op), Z0 b6 27 (ZE na N.length nc ta TT.length tc ha HH.length hc_ ptm oa OO.length oc ba BB.length bc psk pl_ pla), (ZG pa PS pc), Z0b B2, Z0 b25 107 (Z09 F ((q : Int)) la L.length lc), (ZY la L lc)] W_) ?_ ?_
  ·refine Zl <| wv 51 (.int .i64 ((i : Int))) <| wv 52 (pt b6 0) <| zw1 53 (.slice na N.length nc) (H31.cell 6 rfl rfl) <| wv 54 (.int .i64 ((N.length : Int))) <| wv 55 (.bool (decide ((i : Int) < (N.length : Int)))) <| wv 56 (.bool (decide ((i : Int) < (N.length : Int)))) ?_
   refine (ZJ (decide ((i : Int) < (N.length : Int)))).elim (fun b35 => ?_) (fun b35 => ?_)
   ·have g36 := of_decide_eq_true b35
    refine Z06 56 (.bool true) (congrArg Value.bool b35) ?_
    refine wy 5 56 true 57 (.int .i64 ((i : Int))) <| wy 5 56 true 58 (.bool (decide ((i : Int) < 5))) <| wv 59 (.bool (decide ((i : Int) < 5))) <| Zu <| Z01 ?_ ⟨(congrArg Value.bool (show (decide ((i : Int) < 5)) = (decide ((i : Int) < (N.length : Int)) && decide ((i : Int) < 5)) by simp only [b35, Bool.true_and, Bool.false_and])), H31⟩
    exact zs
   have g38 := of_decide_eq_false b35
   refine Z06 56 (.bool false) (congrArg Value.bool b35) ?_
   iterate 2 refine wn 5 56 true ?_
   refine wv 59 (.bool false) <| Zu <| Z01 ?_ ⟨(congrArg Value.bool (show false = (decide ((i : Int) < (N.length : Int)) && decide ((i : Int) < 5)) by simp only [b35, Bool.true_and, Bool.false_and])), H31⟩
   exact zs
  rintro f40 w41 ⟨v43, H42⟩
  refine Zd 59 _ v43 ?_
  refine (ZJ (decide ((i : Int) < (N.length : Int)) && decide ((i : Int) < 5))).elim (fun b44 => ?_) (fun b44 => ?_)
  ·refine Z33 _ b44 ?_
   refine Zt <| ztn <| Z5 <| Za <| Z5 ?_
   have hb_i : (i : Int) < (N.length : Int) ∧ (i : Int) < 5 := by have q := b44; rw [Bool.and_eq_true, decide_eq_true_eq, decide_eq_true_eq] at q; exact q
   refine Zl <| wv 62 (.int .i64 ((n : Int))) <| wv 63 (.int .u64 ((n : Int))) ?_ (hr := Z0g (z := (n : Int)) (by kernel_rfl) (Z12 (by omega)))
   refine wv 64 (.int .i64 (Z2v .i64 1 (n : Int))) ?_ (hr := Z7g rfl rfl (by omega))
   refine wv 65 (.int .i64 (IntKind.i64.wrap ((Z2v .i64 1 (n : Int)) - 1))) <| wv 14 (.int .i64 (IntKind.i64.wrap ((Z2v .i64 1 (n : Int)) - 1))) <| znt ?_
   refine Z28 [14, 66, 67, 68, 69, 70, 71, 72, 73, 74, 75] (fun G_ W_ => ∃ (hl : Int), G_ 14 = (.int .i64 (hl)) ∧ Sat w [Z0 b 179 (ZB mb), (ZC mb L2), Z0 r 165 (Zx ra2 L2.length rc2), (ZA ra2 L2 rc2), Z3 w (ZR (ZT b mb r ra rc Lb)).fp, Z0 b2 38 (Zz F b r last lg op), Z0 b6 27 (ZE na N.length nc ta TT.length tc ha HH.length hc_ ptm oa OO.length oc ba BB.length bc psk pl_ pla), (ZG pa PS pc), Z0b B2, Z0 b25 107 (Z09 F ((q : Int)) la L.length lc), (ZY la L lc)] W_) ?_ ?_
   ·refine zsl <| wv 66 (.int .i64 ((i : Int))) <| wv 67 (pt b6 2) <| zw1 68 (.slice ha HH.length hc_) (H42.cell 6 rfl rfl) <| wv 69 (.int .i64 ((HH.length : Int))) <| wv 70 (.bool (decide ((i : Int) < (HH.length : Int)))) <| znt ?_
    refine (ZJ (decide ((i : Int) < (HH.length : Int)))).elim (fun b46 => ?_) (fun b46 => ?_)
    ·have g47 := of_decide_eq_true b46
     refine Z33 _ b46 ?_
     refine Zl <| wv 71 (pt b6 2) <| zw1 72 (.slice ha HH.length hc_) (H42.cell 6 rfl rfl) <| wv 73 (.int .i64 ((i : Int))) ?_
     obtain ⟨g49, o50, c51, e52, R53⟩ := SliceOf.atD hHH 0 (show i < HH.length by omega)
     refine wv 74 (.pointer (some ⟨g49, o50 + ((i : Int)).toNat * 1, none⟩)) ?_ (hr := Zh (E := 3) (by kernel_rfl) (by kernel_rfl) (Nat.le_of_ble_eq_true rfl) rfl e52 rfl (by omega) (by omega))
     refine zw1 75 (.int .i64 ((HH.getD i 0))) (H42.cellR 4 rfl (Z0P R53 0 (by kernel_rfl) (show o50 + ((i : Int)).toNat * 1 = o50 + i * 1 + 0 by omega)) (by have hq := oH (by omega) _ (Z2a e52); exact hq)) <| wv 14 (.int .i64 ((HH.getD i 0))) <| Zu <| Z01 ?_ ⟨(HH.getD i 0), rfl, H42⟩
     exact zs
    have g54 := of_decide_eq_false b46
    refine Z2X _ b46 ?_
    refine Zt <| Z01 ?_ ⟨IntKind.i64.wrap ((Z2v .i64 1 (n : Int)) - 1), rfl, H42⟩
    exact zs
   rintro f56 w57 ⟨hl, v59, H58⟩
   refine Zd 14 _ v59 ?_
   refine Z5 <| zsl <| wv 76 (.int .i64 (hl)) <| wv 77 (.int .i64 ((q : Int))) <| wv 78 (.int .u64 ((q : Int))) ?_ (hr := Z0g (z := (q : Int)) (by kernel_rfl) (Z12 (by omega)))
   refine wv 79 (.int .i64 (hl / 2 ^ (min (q : Int).toNat 64))) ?_ (hr := Z5y rfl rfl (by omega) rfl (Int.le_of_lt (Int.pow_pos (by decide))))
   refine wv 80 (.int .i64 (Z0j .i64 (hl / 2 ^ (min (q : Int).toNat 64)) 1)) <| wv 81 (.bool (decide ((Z0j .i64 (hl / 2 ^ (min (q : Int).toNat 64)) 1) = 0))) <| znt ?_
   refine (ZJ (decide ((Z0j .i64 (hl / 2 ^ (min (q : Int).toNat 64)) 1) = 0))).elim (fun b60 => ?_) (fun b60 => ?_)
   ·have g61 := of_decide_eq_true b60
    refine Z33 _ b60 ?_
    refine Z4k <| Z1N <| Z3g <| ztn <| Zl <| wv 60 (.int .i64 ((i : Int))) <| zwi 61 ((i : Int) + 1) <| wv 13 (.int .i64 ((i : Int) + 1)) <| Zu <| Z6 ?_ _ ⟨(i + 1), ra2, rc2, L2, B2, la, lc, L, rfl, (by omega), (by omega), hti, hps1, hnd2, (by omega), (by omega), hpre1b, H58, rfl⟩ (by omega)
    exact zs
   have g63 := of_decide_eq_false b60
   refine Z2X _ b60 ?_
   refine Zt <| ztn <| zsl <| wv 15 (.slice none 0 0) <| znt ?_
   refine Z28 [15, 82, 83, 84, 85, 86, 87, 88, 89, 90, 91] (fun G_ W_ => ∃ (va : Option Addr) (vc : Nat) (xs : List Int), G_ 15 = (.slice va xs.length vc) ∧ (ListAt Z4j 1 w (.slice va xs.length vc) xs) ∧ (∀ x ∈ xs, 0 ≤ x ∧ x ≤ 18446744073709551615) ∧ (0 < xs.length → ∀ ad, va = some ad → ¬ (ZR (ZT b mb r ra rc Lb)).fp ad.block) ∧ Sat w [Z0 b 179 (ZB mb), (ZC mb L2), Z0 r 165 (Zx ra2 L2.length rc2), (ZA ra2 L2 rc2), Z3 w (ZR (ZT b mb r ra rc Lb)).fp, Z0 b2 38 (Zz F b r last lg op), Z0 b6 27 (ZE na N.length nc ta TT.length tc ha HH.length hc_ ptm oa OO.length oc ba BB.length bc psk pl_ pla), (ZG pa PS pc), Z0b B2, Z0 b25 107 (Z09 F ((q : Int)) la L.length lc), (ZY la L lc)] W_) ?_ ?_
   ·refine zsl <| wv 82 (.int .i64 ((i : Int))) <| wv 83 (pt b6 1) <| zw1 84 (.slice ta TT.length tc) (H58.cell 6 rfl rfl) <| wv 85 (.int .i64 ((TT.length : Int))) <| wv 86 (.bool (decide ((i : Int) < (TT.length : Int)))) <| znt ?_
    refine (ZJ (decide ((i : Int) < (TT.length : Int)))).elim (fun b66 => ?_) (fun b66 => ?_)
    ·have g67 := of_decide_eq_true b66
     refine Z33 _ b66 ?_
     refine Zl <| wv 87 (pt b6 1) <| zw1 88 (.slice ta TT.length tc) (H58.cell 6 rfl rfl) <| wv 89 (.int .i64 ((i : Int))) ?_
     obtain ⟨g69, o70, c71, e72, R73⟩ := SliceOf.atD hTT tm0 (show i < TT.length by omega)
     refine wv 90 (.pointer (some ⟨g69, o70 + ((i : Int)).toNat * 1, none⟩)) ?_ (hr := Zh (E := 109) (by kernel_rfl) (by kernel_rfl) (Nat.le_of_ble_eq_true rfl) rfl e72 rfl (by omega) (by omega))
     refine zw1 91 (.slice (TT.getD i tm0).ta ((TT.getD i tm0).xs).length (TT.getD i tm0).tc) (H58.cellR 4 rfl (Z0P R73 0 (by kernel_rfl) (show o70 + ((i : Int)).toNat * 1 = o70 + i * 1 + 0 by omega)) (by have hq := oT (by omega) _ (Z2a e72); exact hq)) <| wv 15 (.slice (TT.getD i tm0).ta ((TT.getD i tm0).xs).length (TT.getD i tm0).tc) <| Zu <| Z01 ?_ ⟨(TT.getD i tm0).ta, (TT.getD i tm0).tc, (TT.getD i tm0).xs, rfl, (htt _ (Z6H (by omega))).1, (htt _ (Z6H (by omega))).2, (oX _ (Z6H (by omega))), H58⟩
     exact zs
    have g74 := of_decide_eq_false b66
    refine Z2X _ b66 ?_
    refine Zt <| Z01 ?_ ⟨none, 0, ([] : List Int), rfl, ListAt.nil, (fun x hx => by simp at hx), (fun h => absurd h (Nat.lt_irrefl 0)), H58⟩
    exact zs
   rintro f76 w77 ⟨va, vc, xs, v79, hxs, hbd, hxo, H78⟩
   refine Zd 15 _ v79 ?_
   refine Z28 ([16] ++ List.range' 92 16) (fun G_ W_ => ∃ (xb : Nat) (da : Option Addr) (dc : Nat) (D : List Z4) (Y : Z9) (ra3 : Option Addr) (rc3 : Nat) (L3 : List Signed), G_ 16 = (pt xb 0) ∧ (CoB Y) ∧ (Z3B ⟨Y.cl, Y.seq⟩) ∧ ((D.length : Int) = 2 * F + 1) ∧ (∀ s ∈ D, StB s) ∧ (L3.Nodup) ∧ (L3.length ≤ L2.length + 12) ∧ (L2 <+: L3) ∧ Sat w [Z0 b 179 (ZB mb), (ZC mb L3), Z0 r 165 (Zx ra3 L3.length rc3), (ZA ra3 L3 rc3), Z3 w (ZR (ZT b mb r ra rc Lb)).fp, Z0 b2 38 (Zz F b r last lg op), Z0 b6 27 (ZE na N.length nc ta TT.length tc ha HH.length hc_ ptm oa OO.length oc ba BB.length bc psk pl_ pla), (ZG pa PS pc), Z0b B2, Z0 b25 107 (Z09 F ((q : Int)) la L.length lc), (ZY la L lc), (Z24 da D dc), Z0 xb 76 (Z1a Y da D.length dc)] W_) ?_ ?_
   ·have hw3 := Z1V (N.getD i nm0).cl 3 (by omega)
    have hw4 := Z1V (N.getD i nm0).sq 4 (by omega)
    obtain ⟨g81, o82, c83, e84, R85⟩ := SliceOf.atD hN nm0 (show i < N.length by omega)
    obtain ⟨g86, o87, c88, e89, R90⟩ := SliceOf.atD hN nm0 (show i < N.length by omega)
    obtain ⟨g91, o92, c93, e94, R95⟩ := SliceOf.atD hN nm0 (show i < N.length by omega)
    refine Z08 H78 [Z3 w (ZR (ZT b mb r ra rc Lb)).fp, Z0 b2 38 (Zz F b r last lg op), Z0 b6 27 (ZE na N.length nc ta TT.length tc ha HH.length hc_ ptm oa OO.length oc ba BB.length bc psk pl_ pla), (ZG pa PS pc), Z0b B2, Z0 b25 107 (Z09 F ((q : Int)) la L.length lc), (ZY la L lc)] 18 rfl (by kernel_rfl) (fun Hx => (Hx.pk [4, 5, 6, 7, 8, 9, 10])) ?_
    intro w96 H97 S98
    refine hv0 0 S98 92 (pt b2 2) <| hv0 1 S98 93 (.agg ⟨(Z5K b r)⟩) ?_ (he := fun _ H' => (zlN (vs := (Z5K b r)) (H'.at 1 rfl)))
    refine hv0 2 S98 94 (pt b2 0) <| hv0 3 S98 95 (.agg ⟨(Z5B F)⟩) ?_ (he := fun _ H' => (zlN (vs := (Z5B F)) (H'.at 1 rfl)))
    refine hv0 4 S98 96 (pt b2 2) <| hv0 5 S98 97 (.agg ⟨(Z5K b r)⟩) ?_ (he := fun _ H' => (zlN (vs := (Z5K b r)) (H'.at 1 rfl)))
    refine hv0 6 S98 98 (pt b6 0) <| hv0 7 S98 99 (.slice na N.length nc) ?_ (he := fun _ H' => (zl1 (H'.cell 2 rfl rfl)))
    refine hv0 8 S98 100 (.int .i64 ((i : Int))) ?_
    obtain ⟨g99, o100, c101, e102, R103⟩ := SliceOf.atD hN nm0 (show i < N.length by omega)
    refine Z3u 9 rfl (by kernel_rfl) (by kernel_rfl) (by kernel_rfl) (fun _ _ _ h => h) S98 (Zb rfl) (d := 101) (v := (.pointer (some ⟨g99, o100 + ((i : Int)).toNat * 2, none⟩))) rfl (fun _ H' => (Zh (E := 59) (by kernel_rfl) (by kernel_rfl) (Nat.le_of_ble_eq_true rfl) rfl e102 rfl (by omega) (by omega))) ?_
    refine hv0 10 S98 102 (.agg ⟨([(.int .i64 ((N.getD i nm0).cl)), (.int .i64 ((N.getD i nm0).sq))] : List Value)⟩) ?_ (he := fun _ H' => (Z05 (vs := ([(.int .i64 ((N.getD i nm0).cl)), (.int .i64 ((N.getD i nm0).sq))] : List Value)) rfl (by kernel_rfl) (by kernel_rfl) (Nat.le_of_ble_eq_true (by kernel_rfl)) (H'.runR 0 rfl (Z0W R103 0 (by kernel_rfl) (show o100 + ((i : Int)).toNat * 2 = o100 + i * 2 + 0 by omega)) (by have hq := oN (by omega) _ (Z2a e102); exact hq))))
    refine hv0 13 S98 105 (.int .i64 ((i : Int))) <| hv0 14 S98 106 (.slice va xs.length vc) ?_
    refine Z6A 11 16 rfl rfl (by kernel_rfl) (Zb rfl) (Zb rfl) (fun Kq kq => ?_) (fun Kq kq => ?_)
    ·refine zdq 103 (Z6U w96 ((N.getD i nm0).cl) ((N.getD i nm0).sq)) H97 ?_
     intro w105 H106
     have S108 := H106.pk [4, 5, 6, 7, 8, 9, 10]
     refine kq _ _ S108 ?_
     refine Z6A 12 16 rfl rfl (by kernel_rfl) (Zb rfl) (Zb rfl) (fun Kq kq => ?_) (fun Kq kq => ?_)
     ·refine zdc 104 (Z4r w105 b mb r ra2 rc2 L2 (H106.fn [0, 1, 2, 3]) (Z1 ((N.getD i nm0).cl) 3) (1 + Z1 ((N.getD i nm0).sq) 4) none 0 ([] : List UInt8) ListAt.nil (fun h => absurd h (Nat.lt_irrefl 0)) (by decide) (by omega) (by omega) (by omega) hnd2) ?_
      rintro _ w110 ⟨a112, c113, rfl, T111⟩
      obtain ⟨L115, hL115⟩ : ∃ L115 : List Signed, L115 = Zg L2 (yC (Z1 ((N.getD i nm0).cl) 3) (1 + Z1 ((N.getD i nm0).sq) 4) Zn ([] : List UInt8)) := ⟨_, rfl⟩
      rw [← hL115] at T111
      have H116 := H106.tl [Z0 b 179 (ZB mb), (ZC mb L115), Z0 r 165 (Zx a112 L115.length c113), (ZA a112 L115 c113)] [0, 1, 2, 3] [4, 5, 6, 7, 8, 9, 10] T111 [0, 1, 2, 3, 4, 5, 6, 7, 8, 9, 10]
      refine ⟨_, rfl, ?_⟩
      obtain ⟨Y114, hY114⟩ : ∃ Y114 : Z9, Y114 = mkC L2 (Z1 ((N.getD i nm0).cl) 3) (1 + Z1 ((N.getD i nm0).sq) 4) Zn ([] : List UInt8) := ⟨_, rfl⟩
      rw [← hY114]
      have hgY114 : Zei L115 Y114 := by rw [hL115, hY114]; exact Z6R _ _ _ _ _
      have ndL115 : L115.Nodup := by rw [hL115]; exact Z1P hnd2 _
      have llL115 : L115.length ≤ L2.length + 1 := by rw [hL115]; exact Z23 _ _
      have clY114 : Y114.cl = Z1 ((N.getD i nm0).cl) 3 := by rw [hY114]; rfl
      have sqY114 : Y114.seq = 1 + Z1 ((N.getD i nm0).sq) 4 := by rw [hY114]; rfl
      have lnY114 : Y114.len = ([] : List UInt8).length := by rw [hY114]; rfl
      have hokY : ZeN Y114 := ⟨by omega, by omega, by simp only [List.length_nil] at lnY114; omega⟩
      have S117 := H116.pk [4, 5, 6, 7, 8, 9, 10]
      refine kq _ _ S117 ?_
      refine Z6A 15 16 rfl rfl (by kernel_rfl) (Zb rfl) (Zb rfl) (fun Kq kq => ?_) (fun Kq kq => ?_)
      ·refine zdc 107 (Z4I w110 b mb r a112 c113 L115 (H116.fn [0, 1, 2, 3]) F 3 (by omega) Y114 hokY (i : Int) (by omega) ndL115 va vc xs (ListAt.nowD H116 4 rfl hxs hxo) hbd (Z5u Z27 (by decide) H116 [0, 1, 2, 3] 4 rfl rfl (by decide) hxs hxo)) ?_
       rintro _ w119 ⟨a120, c121, L122, a123, c124, D125, rfl, l129, k126, n127, l128, p130, T131⟩
       have H132 : Sat w [Z0 b 179 (ZB mb), (ZC mb L122), Z0 r 165 (Zx a120 L122.length c121), (ZA a120 L122 c121), Z3 w (ZR (ZT b mb r ra rc Lb)).fp, Z0 b2 38 (Zz F b r last lg op), Z0 b6 27 (ZE na N.length nc ta TT.length tc ha HH.length hc_ ptm oa OO.length oc ba BB.length bc psk pl_ pla), (ZG pa PS pc), Z0b B2, Z0 b25 107 (Z09 F ((q : Int)) la L.length lc), (ZY la L lc), (Z24 a123 D125 c124)] w119 := (Sat.turnL (L' := [Z0 b 179 (ZB mb), (ZC mb L122), Z0 r 165 (Zx a120 L122.length c121), (ZA a120 L122 c121), (Z24 a123 D125 c124)]) (R := [Z3 w (ZR (ZT b mb r ra rc Lb)).fp, Z0 b2 38 (Zz F b r last lg op), Z0 b6 27 (ZE na N.length nc ta TT.length tc ha HH.length hc_ ptm oa OO.length oc ba BB.length bc psk pl_ pla), (ZG pa PS pc), Z0b B2, Z0 b25 107 (Z09 F ((q : Int)) la L.length lc), (ZY la L lc)]) H116 [0, 1, 2, 3] [4, 5, 6, 7, 8, 9, 10] (by decide) (by kernel_rfl) rfl T131).pk [0, 1, 2, 3, 5, 6, 7, 8, 9, 10, 11, 4]
       refine ⟨_, rfl, ?_⟩
       have S133 := H132.pk [4, 5, 6, 7, 8, 9, 10]
       refine kq _ _ S133 <| Z4q 16 fun Kq kq => ?_
       refine zda (Z1u) H132 ?_
       intro b135 w136 H137
       have S138 := H137.pk [4, 5, 6, 7, 8, 9, 10]
       refine kq _ _ S138 <| Z4q 17 fun Kq kq => ?_
       refine Z1z (Z1a Y114 a123 D125.length c124) H137 12 ?_
       intro w140 (H141 : Sat w [Z0 b 179 (ZB mb), (ZC mb L122), Z0 r 165 (Zx a120 L122.length c121), (ZA a120 L122 c121), Z3 w (ZR (ZT b mb r ra rc Lb)).fp, Z0 b2 38 (Zz F b r last lg op), Z0 b6 27 (ZE na N.length nc ta TT.length tc ha HH.length hc_ ptm oa OO.length oc ba BB.length bc psk pl_ pla), (ZG pa PS pc), Z0b B2, Z0 b25 107 (Z09 F ((q : Int)) la L.length lc), (ZY la L lc), (Z24 a123 D125 c124), Z0 b135 76 (Z1a Y114 a123 D125.length c124)] w140)
       have S143 := H141.pk [4, 5, 6, 7, 8, 9, 10]
       refine kq _ _ S143 <| zhf ?_
       have H144 := H141.pk [0, 1, 2, 3, 4, 5, 6, 7, 8, 9, 10, 11, 12]
       have hcb : CoB Y114 := by
        have q1 := (Z1S (Z2m L2 (yC (Z1 (N.getD i nm0).cl 3) (1 + Z1 (N.getD i nm0).sq 4) Zn ([] : List UInt8)))).2
        rw [← hL115] at q1
        have q2 : Y114.sb = 1000 + Z1 (N.getD i nm0).cl 3 := by rw [hY114]; rfl
        have q3 : Y114.sm ≤ (L115.length : Int) := by rw [hY114]; show Ze (Zg L2 (yC (Z1 (N.getD i nm0).cl 3) (1 + Z1 (N.getD i nm0).sq 4) Zn ([] : List UInt8))) (yC (Z1 (N.getD i nm0).cl 3) (1 + Z1 (N.getD i nm0).sq 4) Zn ([] : List UInt8)) ≤ _; rw [← hL115]; exact q1
        simp only [List.length_nil] at lnY114
        exact ⟨⟨by omega, by omega, by omega⟩, by omega, by omega⟩
       have hsn : Z3B ⟨Y114.cl, Y114.seq⟩ := by rw [clY114, sqY114]; exact ⟨⟨by show 0 ≤ Z1 (N.getD i nm0).cl 3; omega, by show Z1 (N.getD i nm0).cl 3 < 3; omega⟩, by show 1 ≤ 1 + Z1 (N.getD i nm0).sq 4; omega, by show 1 + Z1 (N.getD i nm0).sq 4 ≤ 4; omega⟩
       refine Z01 ?_ ⟨b135, a123, c124, D125, Y114, a120, c121, L122, rfl, hcb, hsn, l129, k126, n127, (by omega), ((by rw [hL115]; exact Z4b : L2 <+: L115).trans p130), H144⟩
       exact zs
      refine zda (Z1u) H116 ?_
      intro b145 w146 H147
      have S148 := H147.pk [4, 5, 6, 7, 8, 9, 10]
      refine kq _ _ S148 <| Z4q 15 fun Kq kq => ?_
      refine zdc 107 (Z4I w146 b mb r a112 c113 L115 (H147.fn [0, 1, 2, 3]) F 3 (by omega) Y114 hokY (i : Int) (by omega) ndL115 va vc xs (ListAt.nowD H147 4 rfl hxs hxo) hbd (Z5u Z27 (by decide) H147 [0, 1, 2, 3] 4 rfl rfl (by decide) hxs hxo)) ?_
      rintro _ w150 ⟨a151, c152, L153, a154, c155, D156, rfl, l160, k157, n158, l159, p161, T162⟩
      have H163 : Sat w [Z0 b 179 (ZB mb), (ZC mb L153), Z0 r 165 (Zx a151 L153.length c152), (ZA a151 L153 c152), Z3 w (ZR (ZT b mb r ra rc Lb)).fp, Z0 b2 38 (Zz F b r last lg op), Z0 b6 27 (ZE na N.length nc ta TT.length tc ha HH.length hc_ ptm oa OO.length oc ba BB.length bc psk pl_ pla), (ZG pa PS pc), Z0b B2, Z0 b25 107 (Z09 F ((q : Int)) la L.length lc), (ZY la L lc), Z0 b145 76 (Z1u), (Z24 a154 D156 c155)] w150 := (Sat.turnL (L' := [Z0 b 179 (ZB mb), (ZC mb L153), Z0 r 165 (Zx a151 L153.length c152), (ZA a151 L153 c152), (Z24 a154 D156 c155)]) (R := [Z3 w (ZR (ZT b mb r ra rc Lb)).fp, Z0 b2 38 (Zz F b r last lg op), Z0 b6 27 (ZE na N.length nc ta TT.length tc ha HH.length hc_ ptm oa OO.length oc ba BB.length bc psk pl_ pla), (ZG pa PS pc), Z0b B2, Z0 b25 107 (Z09 F ((q : Int)) la L.length lc), (ZY la L lc), Z0 b145 76 (Z1u)]) H147 [0, 1, 2, 3] [4, 5, 6, 7, 8, 9, 10, 11] (by decide) (by kernel_rfl) rfl T162).pk [0, 1, 2, 3, 5, 6, 7, 8, 9, 10, 11, 12, 4]
      refine ⟨_, rfl, ?_⟩
      have S164 := H163.pk [4, 5, 6, 7, 8, 9, 10]
      refine kq _ _ S164 <| Z4q 17 fun Kq kq => ?_
      refine Z1z (Z1a Y114 a154 D156.length c155) H163 11 ?_
      intro w166 H167
      have S169 := H167.pk [4, 5, 6, 7, 8, 9, 10]
      refine kq _ _ S169 <| zhf ?_
      have H170 := H167.pk [0, 1, 2, 3, 4, 5, 6, 7, 8, 9, 10, 12, 11]
      have hcb : CoB Y114 := by
       have q1 := (Z1S (Z2m L2 (yC (Z1 (N.getD i nm0).cl 3) (1 + Z1 (N.getD i nm0).sq 4) Zn ([] : List UInt8)))).2
       rw [← hL115] at q1
       have q2 : Y114.sb = 1000 + Z1 (N.getD i nm0).cl 3 := by rw [hY114]; rfl
       have q3 : Y114.sm ≤ (L115.length : Int) := by rw [hY114]; show Ze (Zg L2 (yC (Z1 (N.getD i nm0).cl 3) (1 + Z1 (N.getD i nm0).sq 4) Zn ([] : List UInt8))) (yC (Z1 (N.getD i nm0).cl 3) (1 + Z1 (N.getD i nm0).sq 4) Zn ([] : List UInt8)) ≤ _; rw [← hL115]; exact q1
       simp only [List.length_nil] at lnY114
       exact ⟨⟨by omega, by omega, by omega⟩, by omega, by omega⟩
      have hsn : Z3B ⟨Y114.cl, Y114.seq⟩ := by rw [clY114, sqY114]; exact ⟨⟨by show 0 ≤ Z1 (N.getD i nm0).cl 3; omega, by show Z1 (N.getD i nm0).cl 3 < 3; omega⟩, by show 1 ≤ 1 + Z1 (N.getD i nm0).sq 4; omega, by show 1 + Z1 (N.getD i nm0).sq 4 ≤ 4; omega⟩
      refine Z01 ?_ ⟨b145, a154, c155, D156, Y114, a151, c152, L153, rfl, hcb, hsn, l160, k157, n158, (by omega), ((by rw [hL115]; exact Z4b : L2 <+: L115).trans p161), H170⟩
      exact zs
     refine zda (Z1u) H106 ?_
     intro b171 w172 (H173 : Sat w [Z0 b 179 (ZB mb), (ZC mb L2), Z0 r 165 (Zx ra2 L2.length rc2), (ZA ra2 L2 rc2), Z3 w (ZR (ZT b mb r ra rc Lb)).fp, Z0 b2 38 (Zz F b r last lg op), Z0 b6 27 (ZE na N.length nc ta TT.length tc ha HH.length hc_ ptm oa OO.length oc ba BB.length bc psk pl_ pla), (ZG pa PS pc), Z0b B2, Z0 b25 107 (Z09 F ((q : Int)) la L.length lc), (ZY la L lc), Z0 b171 76 (Z1u)] w172)
     have S174 := H173.pk [4, 5, 6, 7, 8, 9, 10]
     refine kq _ _ S174 <| Z4q 12 fun Kq kq => ?_
     refine zdc 104 (Z4r w172 b mb r ra2 rc2 L2 (H173.fn [0, 1, 2, 3]) (Z1 ((N.getD i nm0).cl) 3) (1 + Z1 ((N.getD i nm0).sq) 4) none 0 ([] : List UInt8) ListAt.nil (fun h => absurd h (Nat.lt_irrefl 0)) (by decide) (by omega) (by omega) (by omega) hnd2) ?_
     rintro _ w176 ⟨a178, c179, rfl, T177⟩
     obtain ⟨L181, hL181⟩ : ∃ L181 : List Signed, L181 = Zg L2 (yC (Z1 ((N.getD i nm0).cl) 3) (1 + Z1 ((N.getD i nm0).sq) 4) Zn ([] : List UInt8)) := ⟨_, rfl⟩
     rw [← hL181] at T177
     have H182 := H173.tl [Z0 b 179 (ZB mb), (ZC mb L181), Z0 r 165 (Zx a178 L181.length c179), (ZA a178 L181 c179)] [0, 1, 2, 3] [4, 5, 6, 7, 8, 9, 10, 11] T177 [0, 1, 2, 3, 4, 5, 6, 7, 8, 9, 10, 11]
     refine ⟨_, rfl, ?_⟩
     obtain ⟨Y180, hY180⟩ : ∃ Y180 : Z9, Y180 = mkC L2 (Z1 ((N.getD i nm0).cl) 3) (1 + Z1 ((N.getD i nm0).sq) 4) Zn ([] : List UInt8) := ⟨_, rfl⟩
     rw [← hY180]
     have hgY180 : Zei L181 Y180 := by rw [hL181, hY180]; exact Z6R _ _ _ _ _
     have ndL181 : L181.Nodup := by rw [hL181]; exact Z1P hnd2 _
     have llL181 : L181.length ≤ L2.length + 1 := by rw [hL181]; exact Z23 _ _
     have clY180 : Y180.cl = Z1 ((N.getD i nm0).cl) 3 := by rw [hY180]; rfl
     have sqY180 : Y180.seq = 1 + Z1 ((N.getD i nm0).sq) 4 := by rw [hY180]; rfl
     have lnY180 : Y180.len = ([] : List UInt8).length := by rw [hY180]; rfl
     have hokY : ZeN Y180 := ⟨by omega, by omega, by simp only [List.length_nil] at lnY180; omega⟩
     have S183 := H182.pk [4, 5, 6, 7, 8, 9, 10]
     refine kq _ _ S183 <| Z4q 15 fun Kq kq => ?_
     refine zdc 107 (Z4I w176 b mb r a178 c179 L181 (H182.fn [0, 1, 2, 3]) F 3 (by omega) Y180 hokY (i : Int) (by omega) ndL181 va vc xs (ListAt.nowD H182 4 rfl hxs hxo) hbd (Z5u Z27 (by decide) H182 [0, 1, 2, 3] 4 rfl rfl (by decide) hxs hxo)) ?_
     rintro _ w185 ⟨a186, c187, L188, a189, c190, D191, rfl, l195, k192, n193, l194, p196, T197⟩
     have H198 : Sat w [Z0 b 179 (ZB mb), (ZC mb L188), Z0 r 165 (Zx a186 L188.length c187), (ZA a186 L188 c187), Z3 w (ZR (ZT b mb r ra rc Lb)).fp, Z0 b2 38 (Zz F b r last lg op), Z0 b6 27 (ZE na N.length nc ta TT.length tc ha HH.length hc_ ptm oa OO.length oc ba BB.length bc psk pl_ pla), (ZG pa PS pc), Z0b B2, Z0 b25 107 (Z09 F ((q : Int)) la L.length lc), (ZY la L lc), Z0 b171 76 (Z1u), (Z24 a189 D191 c190)] w185 := (Sat.turnL (L' := [Z0 b 179 (ZB mb), (ZC mb L188), Z0 r 165 (Zx a186 L188.length c187), (ZA a186 L188 c187), (Z24 a189 D191 c190)]) (R := [Z3 w (ZR (ZT b mb r ra rc Lb)).fp, Z0 b2 38 (Zz F b r last lg op), Z0 b6 27 (ZE na N.length nc ta TT.length tc ha HH.length hc_ ptm oa OO.length oc ba BB.length bc psk pl_ pla), (ZG pa PS pc), Z0b B2, Z0 b25 107 (Z09 F ((q : Int)) la L.length lc), (ZY la L lc), Z0 b171 76 (Z1u)]) H182 [0, 1, 2, 3] [4, 5, 6, 7, 8, 9, 10, 11] (by decide) (by kernel_rfl) rfl T197).pk [0, 1, 2, 3, 5, 6, 7, 8, 9, 10, 11, 12, 4]
     refine ⟨_, rfl, ?_⟩
     have S199 := H198.pk [4, 5, 6, 7, 8, 9, 10]
     refine kq _ _ S199 <| Z4q 17 fun Kq kq => ?_
     refine Z1z (Z1a Y180 a189 D191.length c190) H198 11 ?_
     intro w201 H202
     have S204 := H202.pk [4, 5, 6, 7, 8, 9, 10]
     refine kq _ _ S204 <| zhf ?_
     have H205 := H202.pk [0, 1, 2, 3, 4, 5, 6, 7, 8, 9, 10, 12, 11]
     have hcb : CoB Y180 := by
      have q1 := (Z1S (Z2m L2 (yC (Z1 (N.getD i nm0).cl 3) (1 + Z1 (N.getD i nm0).sq 4) Zn ([] : List UInt8)))).2
      rw [← hL181] at q1
      have q2 : Y180.sb = 1000 + Z1 (N.getD i nm0).cl 3 := by rw [hY180]; rfl
      have q3 : Y180.sm ≤ (L181.length : Int) := by rw [hY180]; show Ze (Zg L2 (yC (Z1 (N.getD i nm0).cl 3) (1 + Z1 (N.getD i nm0).sq 4) Zn ([] : List UInt8))) (yC (Z1 (N.getD i nm0).cl 3) (1 + Z1 (N.getD i nm0).sq 4) Zn ([] : List UInt8)) ≤ _; rw [← hL181]; exact q1
      simp only [List.length_nil] at lnY180
      exact ⟨⟨by omega, by omega, by omega⟩, by omega, by omega⟩
     have hsn : Z3B ⟨Y180.cl, Y180.seq⟩ := by rw [clY180, sqY180]; exact ⟨⟨by show 0 ≤ Z1 (N.getD i nm0).cl 3; omega, by show Z1 (N.getD i nm0).cl 3 < 3; omega⟩, by show 1 ≤ 1 + Z1 (N.getD i nm0).sq 4; omega, by show 1 + Z1 (N.getD i nm0).sq 4 ≤ 4; omega⟩
     refine Z01 ?_ ⟨b171, a189, c190, D191, Y180, a186, c187, L188, rfl, hcb, hsn, l195, k192, n193, (by omega), ((by rw [hL181]; exact Z4b : L2 <+: L181).trans p196), H205⟩
     exact zs
    refine zda (Z1u) H97 ?_
    intro b206 w207 (H208 : Sat w [Z0 b 179 (ZB mb), (ZC mb L2), Z0 r 165 (Zx ra2 L2.length rc2), (ZA ra2 L2 rc2), Z3 w (ZR (ZT b mb r ra rc Lb)).fp, Z0 b2 38 (Zz F b r last lg op), Z0 b6 27 (ZE na N.length nc ta TT.length tc ha HH.length hc_ ptm oa OO.length oc ba BB.length bc psk pl_ pla), (ZG pa PS pc), Z0b B2, Z0 b25 107 (Z09 F ((q : Int)) la L.length lc), (ZY la L lc), Z0 b206 76 (Z1u)] w207)
    have S209 := H208.pk [4, 5, 6, 7, 8, 9, 10]
    refine kq _ _ S209 <| Z4q 11 fun Kq kq => ?_
    refine zdq 103 (Z6U w207 ((N.getD i nm0).cl) ((N.getD i nm0).sq)) H208 ?_
    intro w211 H212
    have S214 := H212.pk [4, 5, 6, 7, 8, 9, 10]
    refine kq _ _ S214 <| Z4q 12 fun Kq kq => ?_
    refine zdc 104 (Z4r w211 b mb r ra2 rc2 L2 (H212.fn [0, 1, 2, 3]) (Z1 ((N.getD i nm0).cl) 3) (1 + Z1 ((N.getD i nm0).sq) 4) none 0 ([] : List UInt8) ListAt.nil (fun h => absurd h (Nat.lt_irrefl 0)) (by decide) (by omega) (by omega) (by omega) hnd2) ?_
    rintro _ w216 ⟨a218, c219, rfl, T217⟩
    obtain ⟨L221, hL221⟩ : ∃ L221 : List Signed, L221 = Zg L2 (yC (Z1 ((N.getD i nm0).cl) 3) (1 + Z1 ((N.getD i nm0).sq) 4) Zn ([] : List UInt8)) := ⟨_, rfl⟩
    rw [← hL221] at T217
    have H222 := H212.tl [Z0 b 179 (ZB mb), (ZC mb L221), Z0 r 165 (Zx a218 L221.length c219), (ZA a218 L221 c219)] [0, 1, 2, 3] [4, 5, 6, 7, 8, 9, 10, 11] T217 [0, 1, 2, 3, 4, 5, 6, 7, 8, 9, 10, 11]
    refine ⟨_, rfl, ?_⟩
    obtain ⟨Y220, hY220⟩ : ∃ Y220 : Z9, Y220 = mkC L2 (Z1 ((N.getD i nm0).cl) 3) (1 + Z1 ((N.getD i nm0).sq) 4) Zn ([] : List UInt8) := ⟨_, rfl⟩
    rw [← hY220]
    have hgY220 : Zei L221 Y220 := by rw [hL221, hY220]; exact Z6R _ _ _ _ _
    have ndL221 : L221.Nodup := by rw [hL221]; exact Z1P hnd2 _
    have llL221 : L221.length ≤ L2.length + 1 := by rw [hL221]; exact Z23 _ _
    have clY220 : Y220.cl = Z1 ((N.getD i nm0).cl) 3 := by rw [hY220]; rfl
    have sqY220 : Y220.seq = 1 + Z1 ((N.getD i nm0).sq) 4 := by rw [hY220]; rfl
    have lnY220 : Y220.len = ([] : List UInt8).length := by rw [hY220]; rfl
    have hokY : ZeN Y220 := ⟨by omega, by omega, by simp only [List.length_nil] at lnY220; omega⟩
    have S223 := H222.pk [4, 5, 6, 7, 8, 9, 10]
    refine kq _ _ S223 <| Z4q 15 fun Kq kq => ?_
    refine zdc 107 (Z4I w216 b mb r a218 c219 L221 (H222.fn [0, 1, 2, 3]) F 3 (by omega) Y220 hokY (i : Int) (by omega) ndL221 va vc xs (ListAt.nowD H222 4 rfl hxs hxo) hbd (Z5u Z27 (by decide) H222 [0, 1, 2, 3] 4 rfl rfl (by decide) hxs hxo)) ?_
    rintro _ w225 ⟨a226, c227, L228, a229, c230, D231, rfl, l235, k232, n233, l234, p236, T237⟩
    have H238 : Sat w [Z0 b 179 (ZB mb), (ZC mb L228), Z0 r 165 (Zx a226 L228.length c227), (ZA a226 L228 c227), Z3 w (ZR (ZT b mb r ra rc Lb)).fp, Z0 b2 38 (Zz F b r last lg op), Z0 b6 27 (ZE na N.length nc ta TT.length tc ha HH.length hc_ ptm oa OO.length oc ba BB.length bc psk pl_ pla), (ZG pa PS pc), Z0b B2, Z0 b25 107 (Z09 F ((q : Int)) la L.length lc), (ZY la L lc), Z0 b206 76 (Z1u), (Z24 a229 D231 c230)] w225 := (Sat.turnL (L' := [Z0 b 179 (ZB mb), (ZC mb L228), Z0 r 165 (Zx a226 L228.length c227), (ZA a226 L228 c227), (Z24 a229 D231 c230)]) (R := [Z3 w (ZR (ZT b mb r ra rc Lb)).fp, Z0 b2 38 (Zz F b r last lg op), Z0 b6 27 (ZE na N.length nc ta TT.length tc ha HH.length hc_ ptm oa OO.length oc ba BB.length bc psk pl_ pla), (ZG pa PS pc), Z0b B2, Z0 b25 107 (Z09 F ((q : Int)) la L.length lc), (ZY la L lc), Z0 b206 76 (Z1u)]) H222 [0, 1, 2, 3] [4, 5, 6, 7, 8, 9, 10, 11] (by decide) (by kernel_rfl) rfl T237).pk [0, 1, 2, 3, 5, 6, 7, 8, 9, 10, 11, 12, 4]
    refine ⟨_, rfl, ?_⟩
    have S239 := H238.pk [4, 5, 6, 7, 8, 9, 10]
    refine kq _ _ S239 <| Z4q 17 fun Kq kq => ?_
    refine Z1z (Z1a Y220 a229 D231.length c230) H238 11 ?_
    intro w241 H242
    have S244 := H242.pk [4, 5, 6, 7, 8, 9, 10]
    refine kq _ _ S244 <| zhf ?_
    have H245 := H242.pk [0, 1, 2, 3, 4, 5, 6, 7, 8, 9, 10, 12, 11]
    have hcb : CoB Y220 := by
     have q1 := (Z1S (Z2m L2 (yC (Z1 (N.getD i nm0).cl 3) (1 + Z1 (N.getD i nm0).sq 4) Zn ([] : List UInt8)))).2
     rw [← hL221] at q1
     have q2 : Y220.sb = 1000 + Z1 (N.getD i nm0).cl 3 := by rw [hY220]; rfl
     have q3 : Y220.sm ≤ (L221.length : Int) := by rw [hY220]; show Ze (Zg L2 (yC (Z1 (N.getD i nm0).cl 3) (1 + Z1 (N.getD i nm0).sq 4) Zn ([] : List UInt8))) (yC (Z1 (N.getD i nm0).cl 3) (1 + Z1 (N.getD i nm0).sq 4) Zn ([] : List UInt8)) ≤ _; rw [← hL221]; exact q1
     simp only [List.length_nil] at lnY220
     exact ⟨⟨by omega, by omega, by omega⟩, by omega, by omega⟩
    have hsn : Z3B ⟨Y220.cl, Y220.seq⟩ := by rw [clY220, sqY220]; exact ⟨⟨by show 0 ≤ Z1 (N.getD i nm0).cl 3; omega, by show Z1 (N.getD i nm0).cl 3 < 3; omega⟩, by show 1 ≤ 1 + Z1 (N.getD i nm0).sq 4; omega, by show 1 + Z1 (N.getD i nm0).sq 4 ≤ 4; omega⟩
    refine Z01 ?_ ⟨b206, a229, c230, D231, Y220, a226, c227, L228, rfl, hcb, hsn, l235, k232, n233, (by omega), ((by rw [hL221]; exact Z4b : L2 <+: L221).trans p236), H245⟩
    exact zs
   rintro f246 w247 ⟨xb, da, dc, D, Y, ra3, rc3, L3, v249, hYb, hYs, hDl, hDs, hnd3, hl3, hpre23, H248⟩
   refine Zd 16 _ v249 ?_
   apply Z5
   have H250 : Sat w [Z0b (stC (⟨Y, da, dc, D⟩ : CeR) :: B2), Z0 b 179 (ZB mb), (ZC mb L3), Z0 r 165 (Zx ra3 L3.length rc3), (ZA ra3 L3 rc3), Z3 w (ZR (ZT b mb r ra rc Lb)).fp, Z0 b2 38 (Zz F b r last lg op), Z0 b6 27 (ZE na N.length nc ta TT.length tc ha HH.length hc_ ptm oa OO.length oc ba BB.length bc psk pl_ pla), (ZG pa PS pc), Z0 b25 107 (Z09 F ((q : Int)) la L.length lc), (ZY la L lc), Z0 xb 76 (Z1a Y da D.length dc)] w247 := (H248.pk [8, 11, 0, 1, 2, 3, 4, 5, 6, 7, 9, 10, 12]).bag
   have H251 := H250.pk [1, 2, 3, 4, 5, 6, 7, 8, 0, 9, 10, 11]
   have hxT : CeT (stC (⟨Y, da, dc, D⟩ : CeR) :: B2) (⟨Y, da, dc, D⟩ : CeR) := ⟨hYb, fun i hi => hDs _ (Zdf (show i < D.length from hi)), by show D.length ≤ 12; omega, List.mem_cons_self⟩
   have htk : TabOk F L3 (stC (⟨Y, da, dc, D⟩ : CeR) :: B2) L := hti.more hpre23 Z2M
   refine Zl <| wv 109 (pt b25 0) <| wv 110 (pt b2 2) <| wv 111 (pt b2 3) <| zw1 112 (pt r 0) (H251.cell 5 rfl rfl) <| zwN 113 (Z1a Y da D.length dc) (H251.at 11 rfl) <| zwd fun Kq kq => zdc 114 (ZdD w247 b25 F 3 (q : Int) la lc L (stC (⟨Y, da, dc, D⟩ : CeR) :: B2) r ra3 rc3 L3 (H251.fn [9, 10, 8, 2, 3]) (by omega) (htk.ct) (by omega) hnd3 (by omega) (by omega) 0 (⟨Y, da, dc, D⟩ : CeR) hxT) ?_
   rintro _ w253 ⟨a254, r255, a256, c257, L258, a259, c260, B261, rfl, e262, y263, n264, l265, T266⟩
   have H267 : Sat w [Z0 b 179 (ZB mb), (ZC mb L3), Z0 r 165 (Zx a259 B261.length c260), (ZA a259 B261 c260), Z3 w (ZR (ZT b mb r ra rc Lb)).fp, Z0 b2 38 (Zz F b r last lg op), Z0 b6 27 (ZE na N.length nc ta TT.length tc ha HH.length hc_ ptm oa OO.length oc ba BB.length bc psk pl_ pla), (ZG pa PS pc), Z0b (stC (⟨Y, da, dc, D⟩ : CeR) :: B2), Z0 b25 107 (Z09 F ((q : Int)) a256 L258.length c257), (ZY a256 L258 c257), Z0 xb 76 (Z1a Y da D.length dc)] w253 := (Sat.turnL (L' := [Z0 b25 107 (Z09 F ((q : Int)) a256 L258.length c257), (ZY a256 L258 c257), Z0b (stC (⟨Y, da, dc, D⟩ : CeR) :: B2), Z0 r 165 (Zx a259 B261.length c260), (ZA a259 B261 c260)]) (R := [Z0 b 179 (ZB mb), (ZC mb L3), Z3 w (ZR (ZT b mb r ra rc Lb)).fp, Z0 b2 38 (Zz F b r last lg op), Z0 b6 27 (ZE na N.length nc ta TT.length tc ha HH.length hc_ ptm oa OO.length oc ba BB.length bc psk pl_ pla), (ZG pa PS pc), Z0 xb 76 (Z1a Y da D.length dc)]) H251 [9, 10, 8, 2, 3] [0, 1, 4, 5, 6, 7, 11] (by decide) (by kernel_rfl) rfl T266).pk [5, 6, 3, 4, 7, 8, 9, 10, 2, 0, 1, 11]
   refine ⟨_, rfl, ?_⟩
   refine kq _ _ <| wv 108 (.tuple #[(.agg ⟨(Z2t a254)⟩), (.int .i64 (r255))]) <| wv 115 (.agg ⟨(Z2t a254)⟩) <| wv 116 (.int .i64 (r255)) <| zwd fun Kq kq => zda (Zdz) H267 fun b269 w270 H271 => ?_
   refine kq _ _ <| zwd fun Kq kq => Z1z (Z2t a254) H271 12 ?_
   intro w273 (H274 : Sat w [Z0 b 179 (ZB mb), (ZC mb L3), Z0 r 165 (Zx a259 B261.length c260), (ZA a259 B261 c260), Z3 w (ZR (ZT b mb r ra rc Lb)).fp, Z0 b2 38 (Zz F b r last lg op), Z0 b6 27 (ZE na N.length nc ta TT.length tc ha HH.length hc_ ptm oa OO.length oc ba BB.length bc psk pl_ pla), (ZG pa PS pc), Z0b (stC (⟨Y, da, dc, D⟩ : CeR) :: B2), Z0 b25 107 (Z09 F ((q : Int)) a256 L258.length c257), (ZY a256 L258 c257), Z0 xb 76 (Z1a Y da D.length dc), Z0 b269 113 (Z2t a254)] w273)
   refine kq _ _ <| wv 18 (.int .i64 (r255)) <| Z0y <| wv 117 (.int .i64 (r255)) <| wv 118 (.bool (decide (r255 = 0))) <| znt ?_
   refine (ZJ (decide (r255 = 0))).elim (fun b276 => ?_) (fun b276 => ?_)
   ·have g277 := of_decide_eq_true b276
    refine Z33 _ b276 ?_
    obtain ⟨hae, hLe⟩ := y263 (of_decide_eq_true b276)
    have hal : a254.r ≤ 9223372036854775807 ∧ a254.cl ≤ 9223372036854775807 ∧ a254.seq ≤ 9223372036854775807 ∧ 0 ≤ a254.t ∧ a254.t < 18446744073709551616 := by
     have q1 := hYb
     unfold CoB at q1
     have q2 := ZaS hxT
     rw [hae]; exact ⟨by show (q : Int) ≤ _; omega, q1.1.1, q1.1.2.1, q2⟩
    refine Z08 H274 [Z0 r 165 (Zx a259 B261.length c260), (ZA a259 B261 c260), Z3 w (ZR (ZT b mb r ra rc Lb)).fp, Z0 b2 38 (Zz F b r last lg op), Z0 b6 27 (ZE na N.length nc ta TT.length tc ha HH.length hc_ ptm oa OO.length oc ba BB.length bc psk pl_ pla), (ZG pa PS pc), Z0b (stC (⟨Y, da, dc, D⟩ : CeR) :: B2), Z0 b25 107 (Z09 F ((q : Int)) a256 L258.length c257), (ZY a256 L258 c257), Z0 xb 76 (Z1a Y da D.length dc), Z0 b269 113 (Z2t a254)] 7 rfl (by kernel_rfl) (fun Hx => (Hx.pk [2, 3, 4, 5, 6, 7, 8, 9, 10, 11, 12])) ?_
    intro w279 H280 S281
    refine hv0 0 S281 119 (pt b2 2) <| hv0 1 S281 120 (pt b2 2) <| hv0 2 S281 121 (pt b 0) ?_ (he := fun _ H' => (zl1 (H'.cell 3 rfl rfl)))
    refine hv0 3 S281 122 (.int .i64 ((q : Int))) <| hv0 4 S281 123 (.agg ⟨(Z2t a254)⟩) ?_ (he := fun _ H' => (zlN (vs := (Z2t a254)) (H'.at 10 rfl)))
    refine Z4q 5 fun Kq kq => ?_
    refine zdc 124 (Z4o w279 a254 hal) ?_
    rintro _ w283 ⟨u284, rfl, k285, p286, q287⟩
    have H288 := H280.addU p286 k285 q287
    obtain ⟨a289, c290, rfl⟩ := Z2 (H288.at 13 rfl)
    refine ⟨_, rfl, ?_⟩
    have hal2 := Z81 a254
    have S291 := H288.pk [2, 3, 4, 5, 6, 7, 8, 9, 10, 11, 12]
    refine kq _ _ S291 <| Z4q 6 fun Kq kq => ?_
    refine zdc 125 (Z4z w283 b mb L3 (.slice a289 ((Z2K a254).length) c290) (Z2K a254) (H288.fn [0, 1, 13]) (by omega) (q : Int)) ?_
    rintro _ w293 ⟨rfl, T294⟩
    have H295 : Sat w [Z0 b 179 (ZB mb), (ZC mb (Zg L3 (⟨(q : Int), (Z2K a254)⟩ : Signed))), Z0 r 165 (Zx a259 B261.length c260), (ZA a259 B261 c260), Z3 w (ZR (ZT b mb r ra rc Lb)).fp, Z0 b2 38 (Zz F b r last lg op), Z0 b6 27 (ZE na N.length nc ta TT.length tc ha HH.length hc_ ptm oa OO.length oc ba BB.length bc psk pl_ pla), (ZG pa PS pc), Z0b (stC (⟨Y, da, dc, D⟩ : CeR) :: B2), Z0 b25 107 (Z09 F ((q : Int)) a256 L258.length c257), (ZY a256 L258 c257), Z0 xb 76 (Z1a Y da D.length dc), Z0 b269 113 (Z2t a254), (Z1b a289 (Z2K a254) c290)] w293 := (Sat.turnL (L' := [Z0 b 179 (ZB mb), (ZC mb (Zg L3 (⟨(q : Int), (Z2K a254)⟩ : Signed))), (Z1b a289 (Z2K a254) c290)]) (R := [Z0 r 165 (Zx a259 B261.length c260), (ZA a259 B261 c260), Z3 w (ZR (ZT b mb r ra rc Lb)).fp, Z0 b2 38 (Zz F b r last lg op), Z0 b6 27 (ZE na N.length nc ta TT.length tc ha HH.length hc_ ptm oa OO.length oc ba BB.length bc psk pl_ pla), (ZG pa PS pc), Z0b (stC (⟨Y, da, dc, D⟩ : CeR) :: B2), Z0 b25 107 (Z09 F ((q : Int)) a256 L258.length c257), (ZY a256 L258 c257), Z0 xb 76 (Z1a Y da D.length dc), Z0 b269 113 (Z2t a254)]) H288 [0, 1, 13] [2, 3, 4, 5, 6, 7, 8, 9, 10, 11, 12] (by decide) (by kernel_rfl) rfl T294).pk [0, 1, 3, 4, 5, 6, 7, 8, 9, 10, 11, 12, 13, 2]
    refine ⟨_, rfl, ?_⟩
    have S296 := H295.pk [2, 3, 4, 5, 6, 7, 8, 9, 10, 11, 12]
    refine kq _ _ S296 <| zhf <| Z7 <| ztn ?_
    have hbe : (Zg L3 (⟨(q : Int), (Z2K a254)⟩ : Signed)) = B261 := by rw [hLe, hae]; rfl
    have hpl3 : L3 <+: B261 := by rw [hLe]; exact Z4b
    have hnd4 : B261.Nodup := by rw [hLe]; exact Z1P hnd3 _
    have hll4 : B261.length ≤ L3.length + 1 := by rw [hLe]; exact Z23 _ _
    have H297 : Sat w [Z0 b 179 ([(.map (some mb))] : List Value), Z0B mb ZZ (Value.int .i64) (Z0a B261), Z0 r 165 ([(.slice a259 B261.length c260)] : List Value), Zc 181 2 (.slice a259 B261.length c260) B261.length (B261.flatMap Z4W), Z3 w (ZR (ZT b mb r ra rc Lb)).fp, Z0 b2 38 ([(.int .i64 (F)), (.int .i64 (3)), (pt b 0), (pt r 0), (.int .i64 (F)), (.int .i64 (3)), (.int .i64 (4)), (.int .u64 (last)), (lg), (op)] : List Value), Z0 b6 27 ([(.slice na N.length nc), (.slice ta TT.length tc), (.slice ha HH.length hc_), (.int .u64 (ptm)), (.slice oa OO.length oc), (.slice ba BB.length bc), (.int .i64 (psk)), (pl_), (.int .u64 (pla))] : List Value), Zc 71 6 (.slice pa PS.length pc) PS.length (PS.flatMap Z0p), Z0b (stC (⟨Y, da, dc, D⟩ : CeR) :: B2), Z0 b25 107 ([(.int .i64 (F)), (.int .i64 (3)), (.int .i64 ((q : Int))), (.slice a256 L258.length c257)] : List Value), Zc 76 38 (.slice a256 L258.length c257) L258.length (L258.flatMap Z0V), Z0 xb 76 (([(.int .i64 (Y.cl)), (.int .i64 (Y.seq))] : List Value) ++ hc Y.h ++ ([(.int .i64 (Y.len)), (.int .i64 (Y.sb)), (.int .i64 (Y.sm)), (.slice da D.length dc)] : List Value)), Z0 b269 113 (([(.int .i64 (a254.r)), (.int .i64 (a254.cl)), (.int .i64 (a254.seq))] : List Value) ++ hc a254.h ++ ([(.int .u64 (a254.t)), (.int .i64 (a254.sb)), (.int .i64 (a254.sm))] : List Value)), Zc 5 1 (.slice a289 ((Z2K a254).length) c290) ((Z2K a254).length) ((Z2K a254).flatMap Zy)] w293 := (by have q_ := H295; rw [hbe] at q_; exact q_)
    have htk2 : TabOk F B261 (stC (⟨Y, da, dc, D⟩ : CeR) :: B2) L258 ∧ L258.length ≤ i + 1 := by
     rcases l265 with e | ⟨h1, h2, k, h3, e⟩
     ·rw [e]; exact ⟨htk.more hpl3 Z6h, by omega⟩
     rw [e]; exact ⟨(htk.put hxT hYs h1 h2 h3).more hpl3 Z6h, by rw [List.length_append, List.length_take, List.length_cons, List.length_drop]; omega⟩
    obtain ⟨htk2, hLl2⟩ := htk2
    have hps3 : PsG F last tm B261 (stC (⟨Y, da, dc, D⟩ : CeR) :: B2) PS q := hps1.more (hpre23.trans hpl3) Z2M
    have hpre3 : Lb <+: B261 := (hpre1b.trans hpre23).trans hpl3
    refine Zl <| wv 60 (.int .i64 ((i : Int))) <| zwi 61 ((i : Int) + 1) <| wv 13 (.int .i64 ((i : Int) + 1)) <| Zu ?_
    have H298 := H297.pk [0, 1, 2, 3, 4, 5, 6, 7, 8, 9, 10]
    refine Z6 ?_ _ ⟨(i + 1), a259, c260, B261, (stC (⟨Y, da, dc, D⟩ : CeR) :: B2), a256, c257, L258, rfl, (by omega), (by omega), htk2, hps3, hnd4, (by omega), (by omega), hpre3, H298, rfl⟩ (by omega)
    exact zs
   have g299 := of_decide_eq_false b276
   refine Z2X _ b276 ?_
   refine Zt <| Z7 <| ztn ?_
   have hLe := n264 (of_decide_eq_false b276)
   have hbe : L3 = B261 := hLe.symm
   have hpl3 : L3 <+: B261 := by rw [hLe]; exact ZaI
   have hnd4 : B261.Nodup := by rw [hLe]; exact hnd3
   have hll4 : B261.length ≤ L3.length + 1 := by rw [hLe]; omega
   have H301 : Sat w [Z0 b 179 ([(.map (some mb))] : List Value), Z0B mb ZZ (Value.int .i64) (Z0a B261), Z0 r 165 ([(.slice a259 B261.length c260)] : List Value), Zc 181 2 (.slice a259 B261.length c260) B261.length (B261.flatMap Z4W), Z3 w (ZR (ZT b mb r ra rc Lb)).fp, Z0 b2 38 ([(.int .i64 (F)), (.int .i64 (3)), (pt b 0), (pt r 0), (.int .i64 (F)), (.int .i64 (3)), (.int .i64 (4)), (.int .u64 (last)), (lg), (op)] : List Value), Z0 b6 27 ([(.slice na N.length nc), (.slice ta TT.length tc), (.slice ha HH.length hc_), (.int .u64 (ptm)), (.slice oa OO.length oc), (.slice ba BB.length bc), (.int .i64 (psk)), (pl_), (.int .u64 (pla))] : List Value), Zc 71 6 (.slice pa PS.length pc) PS.length (PS.flatMap Z0p), Z0b (stC (⟨Y, da, dc, D⟩ : CeR) :: B2), Z0 b25 107 ([(.int .i64 (F)), (.int .i64 (3)), (.int .i64 ((q : Int))), (.slice a256 L258.length c257)] : List Value), Zc 76 38 (.slice a256 L258.length c257) L258.length (L258.flatMap Z0V), Z0 xb 76 (([(.int .i64 (Y.cl)), (.int .i64 (Y.seq))] : List Value) ++ hc Y.h ++ ([(.int .i64 (Y.len)), (.int .i64 (Y.sb)), (.int .i64 (Y.sm)), (.slice da D.length dc)] : List Value)), Z0 b269 113 (([(.int .i64 (a254.r)), (.int .i64 (a254.cl)), (.int .i64 (a254.seq))] : List Value) ++ hc a254.h ++ ([(.int .u64 (a254.t)), (.int .i64 (a254.sb)), (.int .i64 (a254.sm))] : List Value))] w273 := (by have q_ := H274; rw [hbe] at q_; exact q_)
   have htk2 : TabOk F B261 (stC (⟨Y, da, dc, D⟩ : CeR) :: B2) L258 ∧ L258.length ≤ i + 1 := by
    rcases l265 with e | ⟨h1, h2, k, h3, e⟩
    ·rw [e]; exact ⟨htk.more hpl3 Z6h, by omega⟩
    rw [e]; exact ⟨(htk.put hxT hYs h1 h2 h3).more hpl3 Z6h, by rw [List.length_append, List.length_take, List.length_cons, List.length_drop]; omega⟩
   obtain ⟨htk2, hLl2⟩ := htk2
   have hps3 : PsG F last tm B261 (stC (⟨Y, da, dc, D⟩ : CeR) :: B2) PS q := hps1.more (hpre23.trans hpl3) Z2M
   have hpre3 : Lb <+: B261 := (hpre1b.trans hpre23).trans hpl3
   refine Zl <| wv 60 (.int .i64 ((i : Int))) <| zwi 61 ((i : Int) + 1) <| wv 13 (.int .i64 ((i : Int) + 1)) <| Zu ?_
   have H302 : Sat w [Z0 b 179 (ZB mb), (ZC mb B261), Z0 r 165 (Zx a259 B261.length c260), (ZA a259 B261 c260), Z3 w (ZR (ZT b mb r ra rc Lb)).fp, Z0 b2 38 (Zz F b r last lg op), Z0 b6 27 (ZE na N.length nc ta TT.length tc ha HH.length hc_ ptm oa OO.length oc ba BB.length bc psk pl_ pla), (ZG pa PS pc), Z0b (stC (⟨Y, da, dc, D⟩ : CeR) :: B2), Z0 b25 107 (Z09 F ((q : Int)) a256 L258.length c257), (ZY a256 L258 c257)] w273 := H301.pk [0, 1, 2, 3, 4, 5, 6, 7, 8, 9, 10]
   refine Z6 ?_ _ ⟨(i + 1), a259, c260, B261, (stC (⟨Y, da, dc, D⟩ : CeR) :: B2), a256, c257, L258, rfl, (by omega), (by omega), htk2, hps3, hnd4, (by omega), (by omega), hpre3, H302, rfl⟩ (by omega)
   exact zs
  refine Z2X _ b44 ?_
  refine zxb <| ztn <| zsl <| wv 127 (pt b25 0) <| wv 128 (pt b2 2) <| wv 129 (pt b2 3) <| zw1 130 (pt r 0) (H42.cell 5 rfl rfl) <| wv 131 (pt b2 4) <| wv 132 (pt b2 6) <| zw1 133 (.int .i64 (4)) (H42.cell 5 rfl rfl) ?_
  refine wv 134 (pt b2 4) <| wv 135 (pt b2 7) <| zw1 136 (.int .u64 (last)) (H42.cell 5 rfl rfl) <| wv 137 (.int .u64 (tm)) <| zwd fun Kq kq => ?_
  obtain ⟨D311, d312⟩ : ∃ D_, D_ = Z2z L last tm := ⟨_, rfl⟩
  have hDt : TabOk F L2 B2 D311 := by rw [d312]; exact hti.span
  have hDl : D311.length ≤ 5 := by rw [d312]; have q := ZaO (L := L) (last := last) (tm := tm); omega
  refine zdc 138 (Z8J w41 b25 F 3 (q : Int) la lc L B2 r ra2 rc2 L2 (H42.fn [9, 10, 8, 2, 3]) (by omega) (hti.ct) (by omega) hnd2 (by omega) 4 last tm (by decide) (by omega)) ?_
  rintro _ w304 ⟨a305, c306, a307, c308, rfl, T309⟩
  rw [← d312] at T309 ⊢
  obtain ⟨L310, hL310⟩ : ∃ L_ : List Signed, L_ = Zg L2 (⟨(q : Int), Z0R (⟨(q : Int), 4, tm, a305, c306, 0, 0, D311⟩ : PrR)⟩ : Signed) := ⟨_, rfl⟩
  rw [← hL310] at T309 ⊢
  obtain ⟨m313, hm313⟩ : ∃ m_ : Int, m_ = Ze L310 (⟨(q : Int), Z0R (⟨(q : Int), 4, tm, a305, c306, 0, 0, D311⟩ : PrR)⟩ : Signed) := ⟨_, rfl⟩
  rw [← hm313]
  have H314 := H42.tl [Z0 b25 107 (Z09 F ((q : Int)) la L.length lc), (ZY la L lc), Z0b B2, Z0 r 165 (Zx a307 L310.length c308), (ZA a307 L310 c308), (ZY a305 D311 c306)] [9, 10, 8, 2, 3] [0, 1, 4, 5, 6, 7] T309 [6, 7, 3, 4, 8, 9, 10, 11, 2, 0, 1, 5]
  refine ⟨_, rfl, ?_⟩
  refine kq _ _ <| wv 126 (.tuple #[(.agg ⟨(Z1e ((q : Int)) tm a305 D311.length c306 m313)⟩), (.int .i64 (0))]) <| wv 139 (.agg ⟨(Z1e ((q : Int)) tm a305 D311.length c306 m313)⟩) <| wv 140 (.int .i64 (0)) <| zwd fun Kq kq => zda (Z6S) H314 ?_
  intro b316 w317 (H318 : Sat w [Z0 b 179 (ZB mb), (ZC mb L2), Z0 r 165 (Zx a307 L310.length c308), (ZA a307 L310 c308), Z3 w (ZR (ZT b mb r ra rc Lb)).fp, Z0 b2 38 (Zz F b r last lg op), Z0 b6 27 (ZE na N.length nc ta TT.length tc ha HH.length hc_ ptm oa OO.length oc ba BB.length bc psk pl_ pla), (ZG pa PS pc), Z0b B2, Z0 b25 107 (Z09 F ((q : Int)) la L.length lc), (ZY la L lc), (ZY a305 D311 c306), Z0 b316 71 (Z6S)] w317)
  refine kq _ _ <| zwd fun Kq kq => Z1z (Z1e ((q : Int)) tm a305 D311.length c306 m313) H318 12 fun w320 H321 => ?_
  refine kq _ _ <| wv 20 (.int .i64 (0)) <| Z0y <| wv 141 (.int .i64 (0)) <| wv 142 (.bool true) <| znt <| Z1X rfl ?_
  refine Z5 <| Z08 H321 [Z0 r 165 (Zx a307 L310.length c308), (ZA a307 L310 c308), Z3 w (ZR (ZT b mb r ra rc Lb)).fp, Z0 b2 38 (Zz F b r last lg op), Z0 b6 27 (ZE na N.length nc ta TT.length tc ha HH.length hc_ ptm oa OO.length oc ba BB.length bc psk pl_ pla), (ZG pa PS pc), Z0b B2, Z0 b25 107 (Z09 F ((q : Int)) la L.length lc), (ZY la L lc), (ZY a305 D311 c306), Z0 b316 71 (Z1e ((q : Int)) tm a305 D311.length c306 m313)] 7 rfl (by kernel_rfl) (fun Hx => (Hx.pk [2, 3, 4, 5, 6, 7, 8, 9, 10, 11, 12])) fun w323 H324 S325 => ?_
  refine hv0 0 S325 143 (pt b2 2) <| hv0 1 S325 144 (pt b2 2) <| hv0 2 S325 145 (pt b 0) ?_ (he := fun _ H' => (zl1 (H'.cell 3 rfl rfl)))
  refine hv0 3 S325 146 (.int .i64 ((q : Int))) <| hv0 4 S325 147 (.agg ⟨(Z1e ((q : Int)) tm a305 D311.length c306 m313)⟩) ?_ (he := fun _ H' => (zlN (vs := (Z1e ((q : Int)) tm a305 D311.length c306 m313)) (H'.at 10 rfl)))
  refine Z4q 5 fun Kq kq => ?_
  refine zdc 148 (Z4g w323 (⟨(q : Int), 4, tm, a305, c306, (q : Int), m313, D311⟩ : PrR) (ListAt.row Z0N (by decide) (H324.at 11 rfl)) (fun i hi => (hDt.ct _ (Z3O hi)).cb (H324.at 8 rfl)) (by show D311.length ≤ _; omega) ⟨by show (q : Int) ≤ _; omega, by show (4 : Int) ≤ _; omega, by show 0 ≤ tm; omega, by show tm < _; omega⟩) ?_
  rintro _ w327 ⟨u328, rfl, k329, p330, q331⟩
  have H332 : Sat w [Z0 b 179 (ZB mb), (ZC mb L2), Z0 r 165 (Zx a307 L310.length c308), (ZA a307 L310 c308), Z3 w (ZR (ZT b mb r ra rc Lb)).fp, Z0 b2 38 (Zz F b r last lg op), Z0 b6 27 (ZE na N.length nc ta TT.length tc ha HH.length hc_ ptm oa OO.length oc ba BB.length bc psk pl_ pla), (ZG pa PS pc), Z0b B2, Z0 b25 107 (Z09 F ((q : Int)) la L.length lc), (ZY la L lc), (ZY a305 D311 c306), Z0 b316 71 (Z1e ((q : Int)) tm a305 D311.length c306 m313), Zc 5 1 u328 ((Z0R (⟨(q : Int), 4, tm, a305, c306, (q : Int), m313, D311⟩ : PrR)).length) ((Z0R (⟨(q : Int), 4, tm, a305, c306, (q : Int), m313, D311⟩ : PrR)).flatMap Zy)] w327 := H324.addU p330 k329 q331
  obtain ⟨a333, c334, rfl⟩ := Z2 (H332.at 13 rfl)
  refine ⟨_, rfl, ?_⟩
  have hpl := Z99 (p := (⟨(q : Int), 4, tm, a305, c306, (q : Int), m313, D311⟩ : PrR)) (fun c hm => Nat.le_trans (hDt.ct _ hm).len (by decide)) (by show D311.length ≤ _; omega)
  have S335 := H332.pk [2, 3, 4, 5, 6, 7, 8, 9, 10, 11, 12]
  refine kq _ _ S335 <| Z4q 6 fun Kq kq => ?_
  refine zdc 149 (Z4z w327 b mb L2 (.slice a333 ((Z0R (⟨(q : Int), 4, tm, a305, c306, (q : Int), m313, D311⟩ : PrR)).length) c334) (Z0R (⟨(q : Int), 4, tm, a305, c306, (q : Int), m313, D311⟩ : PrR)) (H332.fn [0, 1, 13]) (by omega) (q : Int)) ?_
  rintro _ w337 ⟨rfl, T338⟩
  have H339 := H332.tl [Z0 b 179 (ZB mb), (ZC mb (Zg L2 (⟨(q : Int), (Z0R (⟨(q : Int), 4, tm, a305, c306, (q : Int), m313, D311⟩ : PrR))⟩ : Signed))), (Z1b a333 (Z0R (⟨(q : Int), 4, tm, a305, c306, (q : Int), m313, D311⟩ : PrR)) c334)] [0, 1, 13] [2, 3, 4, 5, 6, 7, 8, 9, 10, 11, 12] T338 [0, 1, 3, 4, 5, 6, 7, 8, 9, 10, 11, 12, 13, 2]
  refine ⟨_, rfl, ?_⟩
  have S340 := H339.pk [2, 3, 4, 5, 6, 7, 8, 9, 10, 11, 12]
  refine kq _ _ S340 <| zhf <| ztn <| Zl <| wv 150 (.slice pa PS.length pc) <| zwN 151 (Z1e ((q : Int)) tm a305 D311.length c306 m313) (H339.at 12 rfl) <| zwd fun Kq kq => Z2w 71 6 64 (.agg ⟨(Z6S)⟩) [(0, (.agg ⟨(Z1e ((q : Int)) tm a305 D311.length c306 m313)⟩))] (Z1e ((q : Int)) tm a305 D311.length c306 m313) H339 ?_
  intro b342 w343 (H344 : Sat w [Z0 b 179 (ZB mb), (ZC mb (Zg L2 (⟨(q : Int), (Z0R (⟨(q : Int), 4, tm, a305, c306, (q : Int), m313, D311⟩ : PrR))⟩ : Signed))), Z0 r 165 (Zx a307 L310.length c308), (ZA a307 L310 c308), Z3 w (ZR (ZT b mb r ra rc Lb)).fp, Z0 b2 38 (Zz F b r last lg op), Z0 b6 27 (ZE na N.length nc ta TT.length tc ha HH.length hc_ ptm oa OO.length oc ba BB.length bc psk pl_ pla), (ZG pa PS pc), Z0b B2, Z0 b25 107 (Z09 F ((q : Int)) la L.length lc), (ZY la L lc), (ZY a305 D311 c306), Z0 b316 71 (Z1e ((q : Int)) tm a305 D311.length c306 m313), (Z1b a333 (Z0R (⟨(q : Int), 4, tm, a305, c306, (q : Int), m313, D311⟩ : PrR)) c334), Zc 71 6 (.slice (some ⟨b342, 0, none⟩) 1 1) 1 (Z1e ((q : Int)) tm a305 D311.length c306 m313)] w343)
  have H345 := H344.ct 14 rfl (Zc 71 6 (.slice (some ⟨b342, 0, none⟩) 1 1) 1 ([(⟨(q : Int), 4, tm, a305, c306, (q : Int), m313, D311⟩ : PrR)].flatMap Z0p)) (by rw [(show ((Z1e ((q : Int)) tm a305 D311.length c306 m313) : List Value) = [(⟨(q : Int), 4, tm, a305, c306, (q : Int), m313, D311⟩ : PrR)].flatMap Z0p by kernel_rfl)])
  refine kq _ _ <| zwd fun Kq kq => Z00 (T := 41) (e := 71) (size := 6) (bytes := 64) rfl H345 (by kernel_rfl) 7 14 rfl rfl rfl rfl (ZX Z0p Z5s [(⟨(q : Int), 4, tm, a305, c306, (q : Int), m313, D311⟩ : PrR)]) (by omega) (by omega) fun v347 w348 H349 => ?_
  have H352 := H349.ct 7 rfl (Zc 71 6 v347 ((PS ++ [(⟨(q : Int), 4, tm, a305, c306, (q : Int), m313, D311⟩ : PrR)]).length) ((PS ++ [(⟨(q : Int), 4, tm, a305, c306, (q : Int), m313, D311⟩ : PrR)]).flatMap Z0p)) ja
  obtain ⟨a350, c351, rfl⟩ := Z2 (H352.at 7 rfl)
  refine kq _ _ <| wv 10 (.slice a350 ((PS ++ [(⟨(q : Int), 4, tm, a305, c306, (q : Int), m313, D311⟩ : PrR)]).length) c351) <| Zu <| Z7 <| ztn ?_
  have hbe : (Zg L2 (⟨(q : Int), (Z0R (⟨(q : Int), 4, tm, a305, c306, (q : Int), m313, D311⟩ : PrR))⟩ : Signed)) = L310 := by rw [hL310]; rfl
  have hnd5 : L310.Nodup := by rw [hL310]; exact Z1P hnd2 _
  have hll5 : L310.length ≤ L2.length + 1 := by rw [hL310]; exact Z23 _ _
  have hpp : L2 <+: L310 := by rw [hL310]; exact Z4b
  have H353 : Sat w [Z0 b 179 ([(.map (some mb))] : List Value), Z0B mb ZZ (Value.int .i64) (Z0a L310), Z0 r 165 ([(.slice a307 L310.length c308)] : List Value), Zc 181 2 (.slice a307 L310.length c308) L310.length (L310.flatMap Z4W), Z3 w (ZR (ZT b mb r ra rc Lb)).fp, Z0 b2 38 ([(.int .i64 (F)), (.int .i64 (3)), (pt b 0), (pt r 0), (.int .i64 (F)), (.int .i64 (3)), (.int .i64 (4)), (.int .u64 (last)), (lg), (op)] : List Value), Z0 b6 27 ([(.slice na N.length nc), (.slice ta TT.length tc), (.slice ha HH.length hc_), (.int .u64 (ptm)), (.slice oa OO.length oc), (.slice ba BB.length bc), (.int .i64 (psk)), (pl_), (.int .u64 (pla))] : List Value), Zc 71 6 (.slice a350 ((PS ++ [(⟨(q : Int), 4, tm, a305, c306, (q : Int), m313, D311⟩ : PrR)]).length) c351) ((PS ++ [(⟨(q : Int), 4, tm, a305, c306, (q : Int), m313, D311⟩ : PrR)]).length) ((PS ++ [(⟨(q : Int), 4, tm, a305, c306, (q : Int), m313, D311⟩ : PrR)]).flatMap Z0p), Z0b B2, Z0 b25 107 ([(.int .i64 (F)), (.int .i64 (3)), (.int .i64 ((q : Int))), (.slice la L.length lc)] : List Value), Zc 76 38 (.slice la L.length lc) L.length (L.flatMap Z0V), Zc 76 38 (.slice a305 D311.length c306) D311.length (D311.flatMap Z0V), Z0 b316 71 ([(.int .i64 ((q : Int))), (.int .i64 (4)), (.int .u64 (tm)), (.slice a305 D311.length c306), (.int .i64 ((q : Int))), (.int .i64 (m313))] : List Value), Zc 5 1 (.slice a333 ((Z0R (⟨(q : Int), 4, tm, a305, c306, (q : Int), m313, D311⟩ : PrR)).length) c334) ((Z0R (⟨(q : Int), 4, tm, a305, c306, (q : Int), m313, D311⟩ : PrR)).length) ((Z0R (⟨(q : Int), 4, tm, a305, c306, (q : Int), m313, D311⟩ : PrR)).flatMap Zy), Zc 71 6 (.slice (some ⟨b342, 0, none⟩) 1 1) 1 ([(⟨(q : Int), 4, tm, a305, c306, (q : Int), m313, D311⟩ : PrR)].flatMap Z0p)] w348 := (by have q_ := H352; rw [hbe] at q_; exact q_)
  have H354 : Sat w [Z0b (ceC (⟨(q : Int), 4, tm, a305, c306, (q : Int), m313, D311⟩ : PrR) :: B2), Z0 b 179 (ZB mb), (ZC mb L310), Z0 r 165 (Zx a307 L310.length c308), (ZA a307 L310 c308), Z3 w (ZR (ZT b mb r ra rc Lb)).fp, Z0 b2 38 (Zz F b r last lg op), Z0 b6 27 (ZE na N.length nc ta TT.length tc ha HH.length hc_ ptm oa OO.length oc ba BB.length bc psk pl_ pla), (ZG a350 (PS ++ [(⟨(q : Int), 4, tm, a305, c306, (q : Int), m313, D311⟩ : PrR)]) c351), Z0 b25 107 (Z09 F ((q : Int)) la L.length lc), (ZY la L lc), Z0 b316 71 (Z1e ((q : Int)) tm a305 D311.length c306 m313), (Z1b a333 (Z0R (⟨(q : Int), 4, tm, a305, c306, (q : Int), m313, D311⟩ : PrR)) c334), Zc 71 6 (.slice (some ⟨b342, 0, none⟩) 1 1) 1 ([(⟨(q : Int), 4, tm, a305, c306, (q : Int), m313, D311⟩ : PrR)].flatMap Z0p)] w348 := (H353.pk [8, 11, 0, 1, 2, 3, 4, 5, 6, 7, 9, 10, 12, 13, 14]).bag
  have H355 := H354.pk [1, 2, 3, 4, 5, 6, 7, 8, 0, 9, 10, 11, 12, 13]
  have hpg : PrG F last tm L310 (ceC (⟨(q : Int), 4, tm, a305, c306, (q : Int), m313, D311⟩ : PrR) :: B2) (⟨(q : Int), 4, tm, a305, c306, (q : Int), m313, D311⟩ : PrR) := ⟨⟨by show 0 ≤ (q : Int); omega, by show (q : Int) < _; omega⟩, rfl, rfl, rfl, by rw [hm313, hL310]; exact Z93 (p := (q : Int)) (s := Z0R (⟨(q : Int), 4, tm, a305, c306, 0, 0, D311⟩ : PrR)) hnd2, hDl, List.mem_cons_self, hDt.more hpp Z2M, fun c hc => by rw [show ((⟨(q : Int), 4, tm, a305, c306, (q : Int), m313, D311⟩ : PrR)).C = Z2z L last tm from d312] at hc; exact Zca hc⟩
  have hps2 := (hps1.more hpp (Z2M (A := ceC (⟨(q : Int), 4, tm, a305, c306, (q : Int), m313, D311⟩ : PrR)))).add hpg rfl
  have hpre2 := hpre1b.trans hpp
  refine Zl <| wv 44 (.int .i64 ((q : Int))) <| zwi 45 ((q : Int) + 1) <| wv 11 (.int .i64 ((q : Int) + 1)) <| Zu ?_
  have H356 : Sat w [Z0 b 179 (ZB mb), (ZC mb L310), Z0 r 165 (Zx a307 L310.length c308), (ZA a307 L310 c308), Z3 w (ZR (ZT b mb r ra rc Lb)).fp, Z0 b2 38 (Zz F b r last lg op), Z0 b6 27 (ZE na N.length nc ta TT.length tc ha HH.length hc_ ptm oa OO.length oc ba BB.length bc psk pl_ pla), (ZG a350 (PS ++ [(⟨(q : Int), 4, tm, a305, c306, (q : Int), m313, D311⟩ : PrR)]) c351), Z0b (ceC (⟨(q : Int), 4, tm, a305, c306, (q : Int), m313, D311⟩ : PrR) :: B2)] w348 := H355.pk [0, 1, 2, 3, 4, 5, 6, 7, 8]
  refine Z6 ?_ _ ⟨(q + 1), a307, c308, L310, (ceC (⟨(q : Int), 4, tm, a305, c306, (q : Int), m313, D311⟩ : PrR) :: B2), a350, c351, (PS ++ [(⟨(q : Int), 4, tm, a305, c306, (q : Int), m313, D311⟩ : PrR)]), rfl, (show ((.slice a350 ((PS ++ [(⟨(q : Int), 4, tm, a305, c306, (q : Int), m313, D311⟩ : PrR)]).length) c351) : Value) = _ by first | rfl | go_num), (by omega), hps2, hnd5, (by omega), hpre2, H356, rfl⟩ (by omega)
  exact zs
 have g357 := of_decide_eq_false b21
 refine Z2X _ b21 ?_
 refine zxb <| ztn <| Z5 ?_
 have hqn : q = n := by omega
 refine Zl <| wv 21 (.slice none 0 0) <| znt <| Z5 <| zsl <| wv 22 (.int .i64 (0)) <| znt <| Za ?_
 have H359 := H17.addNil 86 34
 refine Zw ([21, 22, 23, 24] ++ List.range' 154 34) (fun F_ W_ m_ => ∃ (k : Nat) (B3 : List Ck) (osa : Option Addr) (osc : Nat) (OS : List OpR), F_ 22 = (.int .i64 ((k : Int))) ∧ F_ 21 = (.slice osa OS.length osc) ∧ (k ≤ 4) ∧ (k ≤ OO.length) ∧ (PsG F last tm L1 B3 PS n) ∧ (∀ o ∈ OS, OpG B3 o) ∧ (OS.length = k) ∧ Sat w [Z0 b 179 (ZB mb), (ZC mb L1), Z0 r 165 (Zx ra1 L1.length rc1), (ZA ra1 L1 rc1), Z3 w (ZR (ZT b mb r ra rc Lb)).fp, Z0 b2 38 (Zz F b r last lg op), Z0 b6 27 (ZE na N.length nc ta TT.length tc ha HH.length hc_ ptm oa OO.length oc ba BB.length bc psk pl_ pla), (ZG pa PS pc), Z0b B3, (Z0i osa OS osc)] W_ ∧ m_ = 4 - k) _ ⟨0, B, none, 0, [], (show ((.int .i64 (0)) : Value) = _ by first | rfl | go_num), (by first | rfl | go_num), (Nat.zero_le _), (Nat.zero_le _), (by rw [← hqn]; exact hps), (by simp), rfl, H359, rfl⟩ ?_
 rintro g360 w361 _ ⟨k, B3, osa, osc, OS, v363, v364, hk, hkO, hpsf, hos, hosl, H362, rfl⟩
 refine Zd 22 _ v363 ?_
 refine Zd 21 _ v364 ?_
 apply Z5
 refine Z28 [154, 155, 156, 157, 158, 159, 160, 161, 162] (fun G_ W_ => G_ 162 = (.bool (decide ((k : Int) < (OO.length : Int)) && decide ((k : Int) < 4))) ∧ Sat w [Z0 b 179 (ZB mb), (ZC mb L1), Z0 r 165 (Zx ra1 L1.length rc1), (ZA ra1 L1 rc1), Z3 w (ZR (ZT b mb r ra rc Lb)).fp, Z0 b2 38 (Zz F b r last lg op), Z0 b6 27 (ZE na N.length nc ta TT.length tc ha HH.length hc_ ptm oa OO.length oc ba BB.length bc psk pl_ pla), (ZG pa PS pc), Z0b B3, (Z0i osa OS osc)] W_) ?_ ?_
 ·refine Zl <| wv 154 (.int .i64 ((k : Int))) <| wv 155 (pt b6 4) <| zw1 156 (.slice oa OO.length oc) (H362.cell 6 rfl rfl) <| wv 157 (.int .i64 ((OO.length : Int))) <| wv 158 (.bool (decide ((k : Int) < (OO.length : Int)))) <| wv 159 (.bool (decide ((k : Int) < (OO.length : Int)))) ?_
  refine (ZJ (decide ((k : Int) < (OO.length : Int)))).elim (fun b367 => ?_) (fun b367 => ?_)
  ·have g368 := of_decide_eq_true b367
   refine Z06 159 (.bool true) (congrArg Value.bool b367) ?_
   refine wy 5 159 true 160 (.int .i64 ((k : Int))) <| wy 5 159 true 161 (.bool (decide ((k : Int) < 4))) <| wv 162 (.bool (decide ((k : Int) < 4))) <| Zu <| Z01 ?_ ⟨(congrArg Value.bool (show (decide ((k : Int) < 4)) = (decide ((k : Int) < (OO.length : Int)) && decide ((k : Int) < 4)) by simp only [b367, Bool.true_and, Bool.false_and])), H362⟩
   exact zs
  have g370 := of_decide_eq_false b367
  refine Z06 159 (.bool false) (congrArg Value.bool b367) ?_
  iterate 2 refine wn 5 159 true ?_
  refine wv 162 (.bool false) <| Zu <| Z01 ?_ ⟨(congrArg Value.bool (show false = (decide ((k : Int) < (OO.length : Int)) && decide ((k : Int) < 4)) by simp only [b367, Bool.true_and, Bool.false_and])), H362⟩
  exact zs
 rintro f372 w373 ⟨v375, H374⟩
 refine Zd 162 _ v375 ?_
 refine (ZJ (decide ((k : Int) < (OO.length : Int)) && decide ((k : Int) < 4))).elim (fun b376 => ?_) (fun b376 => ?_)
 ·refine Z33 _ b376 ?_
  refine Zt <| ztn <| Z5 <| Za <| Z5 ?_
  have hb_k : (k : Int) < (OO.length : Int) ∧ (k : Int) < 4 := by have q := b376; rw [Bool.and_eq_true, decide_eq_true_eq, decide_eq_true_eq] at q; exact q
  have hwk := Z1V (OO.getD k 0) 4 (by omega)
  refine Zl <| wv 165 (pt b6 4) <| zw1 166 (.slice oa OO.length oc) (H374.cell 6 rfl rfl) <| wv 167 (.int .i64 ((k : Int))) ?_
  obtain ⟨g377, o378, c379, e380, R381⟩ := SliceOf.atD hOO 0 (show k < OO.length by omega)
  refine wv 168 (.pointer (some ⟨g377, o378 + ((k : Int)).toNat * 1, none⟩)) ?_ (hr := Zh (E := 3) (by kernel_rfl) (by kernel_rfl) (Nat.le_of_ble_eq_true rfl) rfl e380 rfl (by omega) (by omega))
  refine zw1 169 (.int .i64 ((OO.getD k 0))) (H374.cellR 4 rfl (Z0P R381 0 (by kernel_rfl) (show o378 + ((k : Int)).toNat * 1 = o378 + k * 1 + 0 by omega)) (by have hq := oO (by omega) _ (Z2a e380); exact hq)) <| zwd fun Kq kq => zdq 170 (Z3b w373 (OO.getD k 0) 4 (by omega)) H374 fun w383 H384 => ?_
  refine kq _ _ <| wv 23 (.int .i64 (Z1 (OO.getD k 0) 4)) <| Z0y <| wv 171 (.int .i64 (Z1 (OO.getD k 0) 4)) <| wv 172 (.int .u8 (Z1 (OO.getD k 0) 4)) ?_ (hr := Z0g (z := Z1 (OO.getD k 0) 4) (by kernel_rfl) (Z7Y (by omega)))
  refine wv 24 (.int .u8 (Z1 (OO.getD k 0) 4)) <| znt ?_
  refine Z28 [24, 173, 174, 175, 176, 177, 178, 179] (fun G_ W_ => ∃ (bv : Int), G_ 24 = (.int .u8 (bv)) ∧ (0 ≤ bv ∧ bv ≤ 255) ∧ Sat w [Z0 b 179 (ZB mb), (ZC mb L1), Z0 r 165 (Zx ra1 L1.length rc1), (ZA ra1 L1 rc1), Z3 w (ZR (ZT b mb r ra rc Lb)).fp, Z0 b2 38 (Zz F b r last lg op), Z0 b6 27 (ZE na N.length nc ta TT.length tc ha HH.length hc_ ptm oa OO.length oc ba BB.length bc psk pl_ pla), (ZG pa PS pc), Z0b B3, (Z0i osa OS osc)] W_) ?_ ?_
  ·refine zsl <| wv 173 (pt b6 4) <| zw1 174 (.slice oa OO.length oc) (H384.cell 6 rfl rfl) <| wv 175 (.int .i64 ((k : Int))) <| wv 176 (.pointer (some ⟨g377, o378 + ((k : Int)).toNat * 1, none⟩)) ?_ (hr := Zh (E := 3) (by kernel_rfl) (by kernel_rfl) (Nat.le_of_ble_eq_true rfl) rfl e380 rfl (by omega) (by omega))
   refine zw1 177 (.int .i64 ((OO.getD k 0))) (H384.cellR 4 rfl (Z0P R381 0 (by kernel_rfl) (show o378 + ((k : Int)).toNat * 1 = o378 + k * 1 + 0 by omega)) (by have hq := oO (by omega) _ (Z2a e380); exact hq)) <| wv 178 (.int .i64 (Int.tmod (OO.getD k 0) 9)) ?_ (hr := ZeM (by kernel_rfl) (by omega))
   refine wv 179 (.bool (decide ((Int.tmod (OO.getD k 0) 9) = 8))) <| znt ?_
   refine (ZJ (decide ((Int.tmod (OO.getD k 0) 9) = 8))).elim (fun b387 => ?_) (fun b387 => ?_)
   ·have g388 := of_decide_eq_true b387
    refine Z33 _ b387 ?_
    refine Zl <| wv 24 (.int .u8 (99)) <| Zu <| Z01 ?_ ⟨99, rfl, (by omega), H384⟩
    exact zs
   have g390 := of_decide_eq_false b387
   refine Z2X _ b387 ?_
   refine Zt <| Z01 ?_ ⟨Z1 (OO.getD k 0) 4, rfl, (by omega), H384⟩
   exact zs
  rintro f392 w393 ⟨bv, v395, hbv, H394⟩
  refine Zd 24 _ v395 ?_
  refine Zl <| wv 180 (.slice osa OS.length osc) <| wv 181 (.int .i64 (Z1 (OO.getD k 0) 4)) <| zwi 182 (2 * (Z1 (OO.getD k 0) 4)) <| wv 183 (.int .u8 (bv)) <| zwd fun Kq kq => Z2w 5 1 1 (.int .u8 (0)) [(0, (.int .u8 (bv)))] ([(.int .u8 (bv))] : List Value) H394 fun b397 w398 H399 => ?_
  have H400 := H399.ct 10 rfl (Zc 5 1 (.slice (some ⟨b397, 0, none⟩) 1 1) 1 ([UInt8.ofNat (bv).toNat].flatMap Zy)) (by rw [Z3H (by omega)])
  refine kq _ _ <| wv 185 (.agg ⟨(Z4x (2 * (Z1 (OO.getD k 0) 4)) b397)⟩) <| zwd fun Kq kq => Z2w 86 34 64 (.agg ⟨(([(.int .i64 (0)), (.slice none 0 0)] : List Value) ++ hc Zn)⟩) [(0, (.agg ⟨(Z4x (2 * (Z1 (OO.getD k 0) 4)) b397)⟩))] (Z4x (2 * (Z1 (OO.getD k 0) 4)) b397) H400 ?_
  intro b402 w403 (H404 : Sat w [Z0 b 179 (ZB mb), (ZC mb L1), Z0 r 165 (Zx ra1 L1.length rc1), (ZA ra1 L1 rc1), Z3 w (ZR (ZT b mb r ra rc Lb)).fp, Z0 b2 38 (Zz F b r last lg op), Z0 b6 27 (ZE na N.length nc ta TT.length tc ha HH.length hc_ ptm oa OO.length oc ba BB.length bc psk pl_ pla), (ZG pa PS pc), Z0b B3, (Z0i osa OS osc), Zc 5 1 (.slice (some ⟨b397, 0, none⟩) 1 1) 1 ([UInt8.ofNat (bv).toNat].flatMap Zy), Zc 86 34 (.slice (some ⟨b402, 0, none⟩) 1 1) 1 (Z4x (2 * (Z1 (OO.getD k 0) 4)) b397)] w403)
  have H405 := H404.ct 11 rfl (Zc 86 34 (.slice (some ⟨b402, 0, none⟩) 1 1) 1 ([(⟨2 * (Z1 (OO.getD k 0) 4), (some ⟨b397, 0, none⟩), 1, [UInt8.ofNat (bv).toNat], Zn⟩ : OpR)].flatMap Z0L)) (by rw [(show ((Z4x (2 * (Z1 (OO.getD k 0) 4)) b397) : List Value) = [(⟨2 * (Z1 (OO.getD k 0) 4), (some ⟨b397, 0, none⟩), 1, [UInt8.ofNat (bv).toNat], Zn⟩ : OpR)].flatMap Z0L by kernel_rfl)])
  refine kq _ _ <| zwd fun Kq kq => Z00 (T := 42) (e := 86) (size := 34) (bytes := 64) rfl H405 (by kernel_rfl) 9 11 rfl rfl rfl rfl (ZX Z0L Z5v [(⟨2 * (Z1 (OO.getD k 0) 4), (some ⟨b397, 0, none⟩), 1, [UInt8.ofNat (bv).toNat], Zn⟩ : OpR)]) (by omega) (by omega) fun v407 w408 H409 => ?_
  have H412 := H409.ct 9 rfl (Zc 86 34 v407 ((OS ++ [(⟨2 * (Z1 (OO.getD k 0) 4), (some ⟨b397, 0, none⟩), 1, [UInt8.ofNat (bv).toNat], Zn⟩ : OpR)]).length) ((OS ++ [(⟨2 * (Z1 (OO.getD k 0) 4), (some ⟨b397, 0, none⟩), 1, [UInt8.ofNat (bv).toNat], Zn⟩ : OpR)]).flatMap Z0L)) ja
  obtain ⟨a410, c411, rfl⟩ := Z2 (H412.at 9 rfl)
  refine kq _ _ <| wv 21 (.slice a410 ((OS ++ [(⟨2 * (Z1 (OO.getD k 0) 4), (some ⟨b397, 0, none⟩), 1, [UInt8.ofNat (bv).toNat], Zn⟩ : OpR)]).length) c411) <| Zu <| Z7 <| ztn ?_
  have H413 : Sat w [Z0b (opC (⟨2 * (Z1 (OO.getD k 0) 4), (some ⟨b397, 0, none⟩), 1, [UInt8.ofNat (bv).toNat], Zn⟩ : OpR) :: B3), Z0 b 179 (ZB mb), (ZC mb L1), Z0 r 165 (Zx ra1 L1.length rc1), (ZA ra1 L1 rc1), Z3 w (ZR (ZT b mb r ra rc Lb)).fp, Z0 b2 38 (Zz F b r last lg op), Z0 b6 27 (ZE na N.length nc ta TT.length tc ha HH.length hc_ ptm oa OO.length oc ba BB.length bc psk pl_ pla), (ZG pa PS pc), (Z0i a410 (OS ++ [(⟨2 * (Z1 (OO.getD k 0) 4), (some ⟨b397, 0, none⟩), 1, [UInt8.ofNat (bv).toNat], Zn⟩ : OpR)]) c411), Zc 86 34 (.slice (some ⟨b402, 0, none⟩) 1 1) 1 ([(⟨2 * (Z1 (OO.getD k 0) 4), (some ⟨b397, 0, none⟩), 1, [UInt8.ofNat (bv).toNat], Zn⟩ : OpR)].flatMap Z0L)] w408 := (H412.pk [8, 10, 0, 1, 2, 3, 4, 5, 6, 7, 9, 11]).bag
  have H414 := H413.pk [1, 2, 3, 4, 5, 6, 7, 8, 0, 9, 10]
  refine Zl <| wv 163 (.int .i64 ((k : Int))) <| zwi 164 ((k : Int) + 1) <| wv 22 (.int .i64 ((k : Int) + 1)) <| Zu ?_
  have H415 : Sat w [Z0 b 179 (ZB mb), (ZC mb L1), Z0 r 165 (Zx ra1 L1.length rc1), (ZA ra1 L1 rc1), Z3 w (ZR (ZT b mb r ra rc Lb)).fp, Z0 b2 38 (Zz F b r last lg op), Z0 b6 27 (ZE na N.length nc ta TT.length tc ha HH.length hc_ ptm oa OO.length oc ba BB.length bc psk pl_ pla), (ZG pa PS pc), Z0b (opC (⟨2 * (Z1 (OO.getD k 0) 4), (some ⟨b397, 0, none⟩), 1, [UInt8.ofNat (bv).toNat], Zn⟩ : OpR) :: B3), (Z0i a410 (OS ++ [(⟨2 * (Z1 (OO.getD k 0) 4), (some ⟨b397, 0, none⟩), 1, [UInt8.ofNat (bv).toNat], Zn⟩ : OpR)]) c411)] w408 := H414.pk [0, 1, 2, 3, 4, 5, 6, 7, 8, 9]
  refine Z6 ?_ _ ⟨(k + 1), (opC (⟨2 * (Z1 (OO.getD k 0) 4), (some ⟨b397, 0, none⟩), 1, [UInt8.ofNat (bv).toNat], Zn⟩ : OpR) :: B3), a410, c411, (OS ++ [(⟨2 * (Z1 (OO.getD k 0) 4), (some ⟨b397, 0, none⟩), 1, [UInt8.ofNat (bv).toNat], Zn⟩ : OpR)]), rfl, (show ((.slice a410 ((OS ++ [(⟨2 * (Z1 (OO.getD k 0) 4), (some ⟨b397, 0, none⟩), 1, [UInt8.ofNat (bv).toNat], Zn⟩ : OpR)]).length) c411) : Value) = _ by first | rfl | go_num), (by omega), (by omega), (hpsf.more ZaI Z2M), (fun o ho => by rcases List.mem_append.1 ho with ho | ho; exact (hos o ho).more Z2M; rw [List.mem_singleton.1 ho]; exact ⟨⟨by show 0 ≤ 2 * _; omega, by show 2 * _ ≤ (6 : Int); omega⟩, rfl, List.mem_cons_self⟩), (by simp only [List.length_append, List.length_cons, List.length_nil]; omega), H415, rfl⟩ (by omega)
  exact zs
 refine Z2X _ b376 ?_
 refine zxb <| ztn <| zsl <| wv 25 (.slice none 0 0) <| znt <| Z5 <| zsl <| wv 26 (.int .i64 (0)) <| znt <| Za ?_
 have H416 := H374.addNil 89 2
 refine Zw ([25, 26, 27, 28, 29] ++ List.range' 188 55) (fun F_ W_ m_ => ∃ (j : Nat) (B4 : List Ck) (ra4 : Option Addr) (rc4 : Nat) (L4 : List Signed) (tsa : Option Addr) (tsc : Nat) (TS : List TbR), F_ 26 = (.int .i64 ((j : Int))) ∧ F_ 25 = (.slice tsa TS.length tsc) ∧ (j ≤ 3) ∧ (PsG F last tm L4 B4 PS n) ∧ (∀ o ∈ OS, OpG B4 o) ∧ (∀ t ∈ TS, TbG F L4 B4 t) ∧ (TS.length = j) ∧ (L4.Nodup) ∧ (L4.length ≤ 600 + 6 * j) ∧ (Lb <+: L4) ∧ Sat w [Z0 b 179 (ZB mb), (ZC mb L4), Z0 r 165 (Zx ra4 L4.length rc4), (ZA ra4 L4 rc4), Z3 w (ZR (ZT b mb r ra rc Lb)).fp, Z0 b2 38 (Zz F b r last lg op), Z0 b6 27 (ZE na N.length nc ta TT.length tc ha HH.length hc_ ptm oa OO.length oc ba BB.length bc psk pl_ pla), (ZG pa PS pc), Z0b B4, (Z0i osa OS osc), (Z0K tsa TS tsc)] W_ ∧ m_ = 3 - j) _ ⟨0, B3, ra1, rc1, L1, none, 0, [], (show ((.int .i64 (0)) : Value) = _ by first | rfl | go_num), (by first | rfl | go_num), (Nat.zero_le _), hpsf, hos, (by simp), rfl, hnd1, (by omega), hpre1, H416, rfl⟩ ?_
 rintro g417 w418 _ ⟨j, B4, ra4, rc4, L4, tsa, tsc, TS, v420, v421, hj, hpsg, hos2, hts, htsl, hnd4, hl4, hpre4, H419, rfl⟩
 refine Zd 26 _ v420 ?_
 refine Zd 25 _ v421 ?_
 apply Z5
 refine Z28 [188, 189, 190, 191, 192, 193, 194, 195, 196] (fun G_ W_ => G_ 196 = (.bool (decide ((j : Int) < (BB.length : Int)) && decide ((j : Int) < 3))) ∧ Sat w [Z0 b 179 (ZB mb), (ZC mb L4), Z0 r 165 (Zx ra4 L4.length rc4), (ZA ra4 L4 rc4), Z3 w (ZR (ZT b mb r ra rc Lb)).fp, Z0 b2 38 (Zz F b r last lg op), Z0 b6 27 (ZE na N.length nc ta TT.length tc ha HH.length hc_ ptm oa OO.length oc ba BB.length bc psk pl_ pla), (ZG pa PS pc), Z0b B4, (Z0i osa OS osc), (Z0K tsa TS tsc)] W_) ?_ ?_
 ·refine Zl <| wv 188 (.int .i64 ((j : Int))) <| wv 189 (pt b6 5) <| zw1 190 (.slice ba BB.length bc) (H419.cell 6 rfl rfl) <| wv 191 (.int .i64 ((BB.length : Int))) <| wv 192 (.bool (decide ((j : Int) < (BB.length : Int)))) <| wv 193 (.bool (decide ((j : Int) < (BB.length : Int)))) ?_
  refine (ZJ (decide ((j : Int) < (BB.length : Int)))).elim (fun b424 => ?_) (fun b424 => ?_)
  ·have g425 := of_decide_eq_true b424
   refine Z06 193 (.bool true) (congrArg Value.bool b424) ?_
   refine wy 5 193 true 194 (.int .i64 ((j : Int))) <| wy 5 193 true 195 (.bool (decide ((j : Int) < 3))) <| wv 196 (.bool (decide ((j : Int) < 3))) <| Zu <| Z01 ?_ ⟨(congrArg Value.bool (show (decide ((j : Int) < 3)) = (decide ((j : Int) < (BB.length : Int)) && decide ((j : Int) < 3)) by simp only [b424, Bool.true_and, Bool.false_and])), H419⟩
   exact zs
  have g427 := of_decide_eq_false b424
  refine Z06 193 (.bool false) (congrArg Value.bool b424) ?_
  iterate 2 refine wn 5 193 true ?_
  refine wv 196 (.bool false) <| Zu <| Z01 ?_ ⟨(congrArg Value.bool (show false = (decide ((j : Int) < (BB.length : Int)) && decide ((j : Int) < 3)) by simp only [b424, Bool.true_and, Bool.false_and])), H419⟩
  exact zs
 rintro f429 w430 ⟨v432, H431⟩
 refine Zd 196 _ v432 ?_
 refine (ZJ (decide ((j : Int) < (BB.length : Int)) && decide ((j : Int) < 3))).elim (fun b433 => ?_) (fun b433 => ?_)
 ·refine Z33 _ b433 ?_
  refine Zt <| ztn <| Z5 <| Za <| Z5 ?_
  have hb_j : (j : Int) < (BB.length : Int) ∧ (j : Int) < 3 := by have q := b433; rw [Bool.and_eq_true, decide_eq_true_eq, decide_eq_true_eq] at q; exact q
  have hwt := Z1V (BB.getD j 0) 4 (by omega)
  refine Zl <| wv 199 (pt b6 5) <| zw1 200 (.slice ba BB.length bc) (H431.cell 6 rfl rfl) <| wv 201 (.int .i64 ((j : Int))) ?_
  obtain ⟨g434, o435, c436, e437, R438⟩ := SliceOf.atD hBB 0 (show j < BB.length by omega)
  refine wv 202 (.pointer (some ⟨g434, o435 + ((j : Int)).toNat * 1, none⟩)) ?_ (hr := Zh (E := 3) (by kernel_rfl) (by kernel_rfl) (Nat.le_of_ble_eq_true rfl) rfl e437 rfl (by omega) (by omega))
  refine zw1 203 (.int .i64 ((BB.getD j 0))) (H431.cellR 4 rfl (Z0P R438 0 (by kernel_rfl) (show o435 + ((j : Int)).toNat * 1 = o435 + j * 1 + 0 by omega)) (by have hq := oB (by omega) _ (Z2a e437); exact hq)) <| zwd fun Kq kq => zdq 204 (Z3b w430 (BB.getD j 0) 4 (by omega)) H431 fun w440 H441 => ?_
  refine kq _ _ <| zwi 205 (2 * (Z1 (BB.getD j 0) 4)) <| wv 206 (.agg ⟨([(.int .i64 (2 * (Z1 (BB.getD j 0) 4))), (.slice none 0 0)] : List Value)⟩) <| zwd fun Kq kq => zda ([(.int .i64 (0)), (.slice none 0 0)] : List Value) H441 fun b444 w445 H446 => ?_
  refine kq _ _ <| zwd fun Kq kq => Z1z ([(.int .i64 (2 * (Z1 (BB.getD j 0) 4))), (.slice none 0 0)] : List Value) H446 11 ?_
  intro w448 (H449 : Sat w [Z0 b 179 (ZB mb), (ZC mb L4), Z0 r 165 (Zx ra4 L4.length rc4), (ZA ra4 L4 rc4), Z3 w (ZR (ZT b mb r ra rc Lb)).fp, Z0 b2 38 (Zz F b r last lg op), Z0 b6 27 (ZE na N.length nc ta TT.length tc ha HH.length hc_ ptm oa OO.length oc ba BB.length bc psk pl_ pla), (ZG pa PS pc), Z0b B4, (Z0i osa OS osc), (Z0K tsa TS tsc), Z0 b444 89 ([(.int .i64 (2 * (Z1 (BB.getD j 0) 4))), (.slice none 0 0)] : List Value)] w448)
  refine kq _ _ <| znt <| Z5 <| zsl <| wv 28 (.int .i64 (0)) <| znt <| Za ?_
  have H451 := H449.addNil 122 4
  refine Zw ([28, 29] ++ List.range' 207 32) (fun F_ W_ m_ => ∃ (e : Nat) (ra5 : Option Addr) (rc5 : Nat) (L5 : List Signed) (dda : Option Addr) (ddc : Nat) (DD : List Z1d), F_ 28 = (.int .i64 ((e : Int))) ∧ ((e : Int) ≤ 2 * F + 1) ∧ (DenG F L5 (2 * (Z1 (BB.getD j 0) 4)) DD e) ∧ (L5.Nodup) ∧ (L5.length ≤ L4.length + e) ∧ (L4 <+: L5) ∧ Sat w [Z0 b 179 (ZB mb), (ZC mb L5), Z0 r 165 (Zx ra5 L5.length rc5), (ZA ra5 L5 rc5), Z3 w (ZR (ZT b mb r ra rc Lb)).fp, Z0 b2 38 (Zz F b r last lg op), Z0 b6 27 (ZE na N.length nc ta TT.length tc ha HH.length hc_ ptm oa OO.length oc ba BB.length bc psk pl_ pla), (ZG pa PS pc), Z0b B4, (Z0i osa OS osc), (Z0K tsa TS tsc), Z0 b444 89 (Z0v (2 * (Z1 (BB.getD j 0) 4)) dda DD.length ddc), (Z1K dda DD ddc)] W_ ∧ m_ = 5 - e) _ ⟨0, ra4, rc4, L4, none, 0, [], (show ((.int .i64 (0)) : Value) = _ by first | rfl | go_num), (by omega), DenG.nil, hnd4, (by omega), (List.prefix_refl _), H451, rfl⟩ ?_
  rintro g452 w453 _ ⟨e, ra5, rc5, L5, dda, ddc, DD, v455, he, hdn, hnd5, hl5, hpre5, H454, rfl⟩
  refine Zd 28 _ v455 ?_
  have hdnl := hdn.length
  refine Z5 <| zsl <| wv 207 (.int .i64 ((e : Int))) <| wv 208 (pt b2 0) <| zwN 209 (Z5B F) (H454.at 5 rfl) <| zwd fun Kq kq => zdq 210 (Zam w453 F 3 (by omega)) H454 fun w458 H459 => ?_
  refine kq _ _ <| wv 211 (.bool (decide ((e : Int) < (2 * F + 1)))) <| znt ?_
  refine (ZJ (decide ((e : Int) < (2 * F + 1)))).elim (fun b461 => ?_) (fun b461 => ?_)
  ·have g462 := of_decide_eq_true b461
   refine Z33 _ b461 ?_
   refine Zt <| ztn <| Z5 <| Za <| zsl <| wv 214 (.int .i64 ((e : Int))) <| wv 215 (pt b444 0) <| zw1 216 (.int .i64 (2 * (Z1 (BB.getD j 0) 4))) (H459.cell 11 rfl rfl) <| wv 217 (.agg ⟨(Z2U ((e : Int)) (2 * (Z1 (BB.getD j 0) 4)))⟩) <| zwd fun Kq kq => ?_
   refine zda (Z96) H459 ?_
   intro b465 w466 H467
   refine kq _ _ <| zwd fun Kq kq => Z1z (Z2U ((e : Int)) (2 * (Z1 (BB.getD j 0) 4))) H467 13 ?_
   intro w469 (H470 : Sat w [Z0 b 179 (ZB mb), (ZC mb L5), Z0 r 165 (Zx ra5 L5.length rc5), (ZA ra5 L5 rc5), Z3 w (ZR (ZT b mb r ra rc Lb)).fp, Z0 b2 38 (Zz F b r last lg op), Z0 b6 27 (ZE na N.length nc ta TT.length tc ha HH.length hc_ ptm oa OO.length oc ba BB.length bc psk pl_ pla), (ZG pa PS pc), Z0b B4, (Z0i osa OS osc), (Z0K tsa TS tsc), Z0 b444 89 (Z0v (2 * (Z1 (BB.getD j 0) 4)) dda DD.length ddc), (Z1K dda DD ddc), Z0 b465 122 (Z2U ((e : Int)) (2 * (Z1 (BB.getD j 0) 4)))] w469)
   refine kq _ _ <| znt <| Z5 <| Z18 H470 [Z0 b 179 (ZB mb), (ZC mb L5), Z3 w (ZR (ZT b mb r ra rc Lb)).fp, Z0 b2 38 (Zz F b r last lg op), Z0 b6 27 (ZE na N.length nc ta TT.length tc ha HH.length hc_ ptm oa OO.length oc ba BB.length bc psk pl_ pla), (ZG pa PS pc), Z0b B4, (Z0i osa OS osc), (Z0K tsa TS tsc), Z0 b444 89 (Z0v (2 * (Z1 (BB.getD j 0) 4)) dda DD.length ddc), (Z1K dda DD ddc), Z0 b465 122 (Z2U ((e : Int)) (2 * (Z1 (BB.getD j 0) 4)))] [8] 9 rfl (by kernel_rfl) (fun Hx => (Hx.pk [0, 1, 4, 5, 6, 7, 8, 9, 10, 11, 12, 13])) fun w472 H473 S474 => ?_
   refine zkp 0 S474 218 (pt b2 2) <| zkp 1 S474 219 (pt b2 3) <| zkv 2 S474 220 (pt r 0) ?_ (he := fun _ H' => (zl1 (H'.cell 3 rfl rfl)))
   refine zkp 3 S474 221 (.int .i64 ((e : Int))) <| zkv 4 S474 222 (.agg ⟨(Z2U ((e : Int)) (2 * (Z1 (BB.getD j 0) 4)))⟩) ?_ (he := fun _ H' => (zlN (vs := (Z2U ((e : Int)) (2 * (Z1 (BB.getD j 0) 4)))) (H'.at 11 rfl)))
   refine Z9r 5 fun Kq kq => ?_
   refine zdc 223 (Z5l w472 (⟨(e : Int), 2 * (Z1 (BB.getD j 0) 4), 0, 0⟩ : Z1d) ⟨by show (e : Int) ≤ _; omega, by show 2 * (Z1 (BB.getD j 0) 4) ≤ _; omega⟩) ?_
   rintro _ w476 ⟨u477, rfl, k478, p479, q480⟩
   have H481 := H473.addU p479 k478 q480
   obtain ⟨a482, c483, rfl⟩ := Z2 (H481.at 14 rfl)
   refine ⟨_, rfl, ?_⟩
   have hdl := Z6V (e : Int) (2 * (Z1 (BB.getD j 0) 4))
   have S484 := H481.pk [0, 1, 4, 5, 6, 7, 8, 9, 10, 11, 12, 13]
   refine kq _ _ S484 <| Z9r 6 fun Kq kq => ?_
   refine zdc 224 (Z2F w476 r ra5 rc5 L5 (.slice a482 ((Z02 (e : Int) (2 * (Z1 (BB.getD j 0) 4))).length) c483) (Z02 (e : Int) (2 * (Z1 (BB.getD j 0) 4))) (H481.fn [2, 3, 14]) (by omega) hnd5 (e : Int)) ?_
   rintro _ w486 ⟨a488, c489, rfl, T487⟩
   have H490 : Sat w [Z0 b 179 (ZB mb), (ZC mb L5), Z0 r 165 (Zx a488 ((Zg L5 (⟨(e : Int), (Z02 (e : Int) (2 * (Z1 (BB.getD j 0) 4)))⟩ : Signed)).length) c489), (ZA a488 (Zg L5 (⟨(e : Int), (Z02 (e : Int) (2 * (Z1 (BB.getD j 0) 4)))⟩ : Signed)) c489), Z3 w (ZR (ZT b mb r ra rc Lb)).fp, Z0 b2 38 (Zz F b r last lg op), Z0 b6 27 (ZE na N.length nc ta TT.length tc ha HH.length hc_ ptm oa OO.length oc ba BB.length bc psk pl_ pla), (ZG pa PS pc), Z0b B4, (Z0i osa OS osc), (Z0K tsa TS tsc), Z0 b444 89 (Z0v (2 * (Z1 (BB.getD j 0) 4)) dda DD.length ddc), (Z1K dda DD ddc), Z0 b465 122 (Z2U ((e : Int)) (2 * (Z1 (BB.getD j 0) 4))), (Z1b a482 (Z02 (e : Int) (2 * (Z1 (BB.getD j 0) 4))) c483)] w486 := (Sat.turnL (L' := [Z0 r 165 (Zx a488 ((Zg L5 (⟨(e : Int), (Z02 (e : Int) (2 * (Z1 (BB.getD j 0) 4)))⟩ : Signed)).length) c489), (ZA a488 (Zg L5 (⟨(e : Int), (Z02 (e : Int) (2 * (Z1 (BB.getD j 0) 4)))⟩ : Signed)) c489), (Z1b a482 (Z02 (e : Int) (2 * (Z1 (BB.getD j 0) 4))) c483)]) (R := [Z0 b 179 (ZB mb), (ZC mb L5), Z3 w (ZR (ZT b mb r ra rc Lb)).fp, Z0 b2 38 (Zz F b r last lg op), Z0 b6 27 (ZE na N.length nc ta TT.length tc ha HH.length hc_ ptm oa OO.length oc ba BB.length bc psk pl_ pla), (ZG pa PS pc), Z0b B4, (Z0i osa OS osc), (Z0K tsa TS tsc), Z0 b444 89 (Z0v (2 * (Z1 (BB.getD j 0) 4)) dda DD.length ddc), (Z1K dda DD ddc), Z0 b465 122 (Z2U ((e : Int)) (2 * (Z1 (BB.getD j 0) 4)))]) H481 [2, 3, 14] [0, 1, 4, 5, 6, 7, 8, 9, 10, 11, 12, 13] (by decide) (by kernel_rfl) rfl T487).pk [3, 4, 0, 1, 5, 6, 7, 8, 9, 10, 11, 12, 13, 14, 2]
   refine ⟨_, rfl, ?_⟩
   have S491 := H490.pk [0, 1, 4, 5, 6, 7, 8, 9, 10, 11, 12, 13]
   refine kq _ _ S491 <| zkp 7 S491 225 (pt b465 2) <| Z3v 8 (Sat w [Z0 b 179 (ZB mb), (ZC mb L5), Z3 w (ZR (ZT b mb r ra rc Lb)).fp, Z0 b2 38 (Zz F b r last lg op), Z0 b6 27 (ZE na N.length nc ta TT.length tc ha HH.length hc_ ptm oa OO.length oc ba BB.length bc psk pl_ pla), (ZG pa PS pc), Z0b B4, (Z0i osa OS osc), (Z0K tsa TS tsc), Z0 b444 89 (Z0v (2 * (Z1 (BB.getD j 0) 4)) dda DD.length ddc), (Z1K dda DD ddc)]) rfl (by kernel_rfl) (Zb rfl) rfl (fun Kq kq => ?_)
   refine zds ([(.int .i64 ((e : Int))), (.int .i64 (Ze (Zg L5 (⟨(e : Int), (Z02 (e : Int) (2 * (Z1 (BB.getD j 0) 4)))⟩ : Signed)) (⟨(e : Int), (Z02 (e : Int) (2 * (Z1 (BB.getD j 0) 4)))⟩ : Signed)))] : List Value) (Z1v ((e : Int)) (2 * (Z1 (BB.getD j 0) 4)) (Ze (Zg L5 (⟨(e : Int), (Z02 (e : Int) (2 * (Z1 (BB.getD j 0) 4)))⟩ : Signed)) (⟨(e : Int), (Z02 (e : Int) (2 * (Z1 (BB.getD j 0) 4)))⟩ : Signed))) H490 13 ?_
   intro w493 H494
   have S496 := H494.pk [0, 1, 4, 5, 6, 7, 8, 9, 10, 11, 12]
   refine kq _ _ S496 <| zhf <| ztn <| Z5 ?_
   obtain ⟨L6, hL6⟩ : ∃ L_ : List Signed, L_ = (Zg L5 (⟨(e : Int), (Z02 (e : Int) (2 * (Z1 (BB.getD j 0) 4)))⟩ : Signed)) := ⟨_, rfl⟩
   have hnd6 : L6.Nodup := by rw [hL6]; exact Z1P hnd5 _
   have hll6 : L6.length ≤ L5.length + 1 := by rw [hL6]; exact Z23 _ _
   have hps5 : L5 <+: L6 := by rw [hL6]; exact Z4b
   have H497 : Sat w [Z0 b 179 ([(.map (some mb))] : List Value), Z0B mb ZZ (Value.int .i64) (Z0a L5), Z0 r 165 ([(.slice a488 L6.length c489)] : List Value), Zc 181 2 (.slice a488 L6.length c489) L6.length (L6.flatMap Z4W), Z3 w (ZR (ZT b mb r ra rc Lb)).fp, Z0 b2 38 ([(.int .i64 (F)), (.int .i64 (3)), (pt b 0), (pt r 0), (.int .i64 (F)), (.int .i64 (3)), (.int .i64 (4)), (.int .u64 (last)), (lg), (op)] : List Value), Z0 b6 27 ([(.slice na N.length nc), (.slice ta TT.length tc), (.slice ha HH.length hc_), (.int .u64 (ptm)), (.slice oa OO.length oc), (.slice ba BB.length bc), (.int .i64 (psk)), (pl_), (.int .u64 (pla))] : List Value), Zc 71 6 (.slice pa PS.length pc) PS.length (PS.flatMap Z0p), Z0b B4, Zc 86 34 (.slice osa OS.length osc) OS.length (OS.flatMap Z0L), Zc 89 2 (.slice tsa TS.length tsc) TS.length (TS.flatMap Z0I), Z0 b444 89 ([(.int .i64 (2 * (Z1 (BB.getD j 0) 4))), (.slice dda DD.length ddc)] : List Value), Zc 122 4 (.slice dda DD.length ddc) DD.length (DD.flatMap Z3n), Z0 b465 122 ([(.int .i64 ((e : Int))), (.int .i64 (2 * (Z1 (BB.getD j 0) 4))), (.int .i64 ((e : Int))), (.int .i64 (Ze (Zg L5 (⟨(e : Int), (Z02 (e : Int) (2 * (Z1 (BB.getD j 0) 4)))⟩ : Signed)) (⟨(e : Int), (Z02 (e : Int) (2 * (Z1 (BB.getD j 0) 4)))⟩ : Signed)))] : List Value), Zc 5 1 (.slice a482 ((Z02 (e : Int) (2 * (Z1 (BB.getD j 0) 4))).length) c483) ((Z02 (e : Int) (2 * (Z1 (BB.getD j 0) 4))).length) ((Z02 (e : Int) (2 * (Z1 (BB.getD j 0) 4))).flatMap Zy)] w493 := (by rw [hL6]; exact H494)
   have hmk6 : Ze (Zg L5 (⟨(e : Int), (Z02 (e : Int) (2 * (Z1 (BB.getD j 0) 4)))⟩ : Signed)) (⟨(e : Int), (Z02 (e : Int) (2 * (Z1 (BB.getD j 0) 4)))⟩ : Signed) = Ze L6 ⟨(e : Int), Z02 (e : Int) (2 * (Z1 (BB.getD j 0) 4))⟩ := by rw [hL6]
   have H498 : Sat w [Z0 b 179 ([(.map (some mb))] : List Value), Z0B mb ZZ (Value.int .i64) (Z0a L5), Z0 r 165 ([(.slice a488 L6.length c489)] : List Value), Zc 181 2 (.slice a488 L6.length c489) L6.length (L6.flatMap Z4W), Z3 w (ZR (ZT b mb r ra rc Lb)).fp, Z0 b2 38 ([(.int .i64 (F)), (.int .i64 (3)), (pt b 0), (pt r 0), (.int .i64 (F)), (.int .i64 (3)), (.int .i64 (4)), (.int .u64 (last)), (lg), (op)] : List Value), Z0 b6 27 ([(.slice na N.length nc), (.slice ta TT.length tc), (.slice ha HH.length hc_), (.int .u64 (ptm)), (.slice oa OO.length oc), (.slice ba BB.length bc), (.int .i64 (psk)), (pl_), (.int .u64 (pla))] : List Value), Zc 71 6 (.slice pa PS.length pc) PS.length (PS.flatMap Z0p), Z0b B4, Zc 86 34 (.slice osa OS.length osc) OS.length (OS.flatMap Z0L), Zc 89 2 (.slice tsa TS.length tsc) TS.length (TS.flatMap Z0I), Z0 b444 89 ([(.int .i64 (2 * (Z1 (BB.getD j 0) 4))), (.slice dda DD.length ddc)] : List Value), Zc 122 4 (.slice dda DD.length ddc) DD.length (DD.flatMap Z3n), Z0 b465 122 ([(.int .i64 ((e : Int))), (.int .i64 (2 * (Z1 (BB.getD j 0) 4))), (.int .i64 ((e : Int))), (.int .i64 (Ze L6 ⟨(e : Int), Z02 (e : Int) (2 * (Z1 (BB.getD j 0) 4))⟩))] : List Value), Zc 5 1 (.slice a482 ((Z02 (e : Int) (2 * (Z1 (BB.getD j 0) 4))).length) c483) ((Z02 (e : Int) (2 * (Z1 (BB.getD j 0) 4))).length) ((Z02 (e : Int) (2 * (Z1 (BB.getD j 0) 4))).flatMap Zy)] w493 := (by rw [← hmk6]; exact H497)
   refine Z08 H498 [Z0 r 165 (Zx a488 L6.length c489), (ZA a488 L6 c489), Z3 w (ZR (ZT b mb r ra rc Lb)).fp, Z0 b2 38 (Zz F b r last lg op), Z0 b6 27 (ZE na N.length nc ta TT.length tc ha HH.length hc_ ptm oa OO.length oc ba BB.length bc psk pl_ pla), (ZG pa PS pc), Z0b B4, (Z0i osa OS osc), (Z0K tsa TS tsc), Z0 b444 89 (Z0v (2 * (Z1 (BB.getD j 0) 4)) dda DD.length ddc), (Z1K dda DD ddc), Z0 b465 122 (Z1v ((e : Int)) (2 * (Z1 (BB.getD j 0) 4)) (Ze L6 ⟨(e : Int), Z02 (e : Int) (2 * (Z1 (BB.getD j 0) 4))⟩)), (Z1b a482 (Z02 (e : Int) (2 * (Z1 (BB.getD j 0) 4))) c483)] 7 rfl (by kernel_rfl) (fun Hx => (Hx.pk [2, 3, 4, 5, 6, 7, 8, 9, 10, 11, 12, 13, 14])) ?_
   intro w499 H500 S501
   refine hv0 0 S501 226 (pt b2 2) <| hv0 1 S501 227 (pt b2 2) <| hv0 2 S501 228 (pt b 0) ?_ (he := fun _ H' => (zl1 (H'.cell 3 rfl rfl)))
   refine hv0 3 S501 229 (.int .i64 ((e : Int))) <| hv0 4 S501 230 (.agg ⟨(Z1v ((e : Int)) (2 * (Z1 (BB.getD j 0) 4)) (Ze L6 ⟨(e : Int), Z02 (e : Int) (2 * (Z1 (BB.getD j 0) 4))⟩))⟩) ?_ (he := fun _ H' => (zlN (vs := (Z1v ((e : Int)) (2 * (Z1 (BB.getD j 0) 4)) (Ze L6 ⟨(e : Int), Z02 (e : Int) (2 * (Z1 (BB.getD j 0) 4))⟩))) (H'.at 11 rfl)))
   refine Z4q 5 fun Kq kq => ?_
   refine zdc 231 (Z5l w499 (⟨(e : Int), 2 * (Z1 (BB.getD j 0) 4), (e : Int), Ze L6 ⟨(e : Int), Z02 (e : Int) (2 * (Z1 (BB.getD j 0) 4))⟩⟩ : Z1d) ⟨by show (e : Int) ≤ _; omega, by show 2 * (Z1 (BB.getD j 0) 4) ≤ _; omega⟩) ?_
   rintro _ w503 ⟨u504, rfl, k505, p506, q507⟩
   have H508 : Sat w [Z0 b 179 (ZB mb), (ZC mb L5), Z0 r 165 (Zx a488 L6.length c489), (ZA a488 L6 c489), Z3 w (ZR (ZT b mb r ra rc Lb)).fp, Z0 b2 38 (Zz F b r last lg op), Z0 b6 27 (ZE na N.length nc ta TT.length tc ha HH.length hc_ ptm oa OO.length oc ba BB.length bc psk pl_ pla), (ZG pa PS pc), Z0b B4, (Z0i osa OS osc), (Z0K tsa TS tsc), Z0 b444 89 (Z0v (2 * (Z1 (BB.getD j 0) 4)) dda DD.length ddc), (Z1K dda DD ddc), Z0 b465 122 (Z1v ((e : Int)) (2 * (Z1 (BB.getD j 0) 4)) (Ze L6 ⟨(e : Int), Z02 (e : Int) (2 * (Z1 (BB.getD j 0) 4))⟩)), (Z1b a482 (Z02 (e : Int) (2 * (Z1 (BB.getD j 0) 4))) c483), Zc 5 1 u504 ((Z02 (e : Int) (2 * (Z1 (BB.getD j 0) 4))).length) ((Z02 (e : Int) (2 * (Z1 (BB.getD j 0) 4))).flatMap Zy)] w503 := H500.addU p506 k505 q507
   obtain ⟨a509, c510, rfl⟩ := Z2 (H508.at 15 rfl)
   refine ⟨_, rfl, ?_⟩
   have hdl := Z6V (e : Int) (2 * (Z1 (BB.getD j 0) 4))
   have S511 := H508.pk [2, 3, 4, 5, 6, 7, 8, 9, 10, 11, 12, 13, 14]
   refine kq _ _ S511 <| Z4q 6 fun Kq kq => ?_
   refine zdc 232 (Z4z w503 b mb L5 (.slice a509 ((Z02 (e : Int) (2 * (Z1 (BB.getD j 0) 4))).length) c510) (Z02 (e : Int) (2 * (Z1 (BB.getD j 0) 4))) (H508.fn [0, 1, 15]) (by omega) (e : Int)) ?_
   rintro _ w513 ⟨rfl, T514⟩
   have H515 := H508.tl [Z0 b 179 (ZB mb), (ZC mb (Zg L5 (⟨(e : Int), (Z02 (e : Int) (2 * (Z1 (BB.getD j 0) 4)))⟩ : Signed))), (Z1b a509 (Z02 (e : Int) (2 * (Z1 (BB.getD j 0) 4))) c510)] [0, 1, 15] [2, 3, 4, 5, 6, 7, 8, 9, 10, 11, 12, 13, 14] T514 [0, 1, 3, 4, 5, 6, 7, 8, 9, 10, 11, 12, 13, 14, 15, 2]
   refine ⟨_, rfl, ?_⟩
   have S516 := H515.pk [2, 3, 4, 5, 6, 7, 8, 9, 10, 11, 12, 13, 14]
   refine kq _ _ S516 <| zhf <| ztn ?_
   have H517 : Sat w [Z0 b 179 ([(.map (some mb))] : List Value), Z0B mb ZZ (Value.int .i64) (Z0a L6), Z0 r 165 ([(.slice a488 L6.length c489)] : List Value), Zc 181 2 (.slice a488 L6.length c489) L6.length (L6.flatMap Z4W), Z3 w (ZR (ZT b mb r ra rc Lb)).fp, Z0 b2 38 ([(.int .i64 (F)), (.int .i64 (3)), (pt b 0), (pt r 0), (.int .i64 (F)), (.int .i64 (3)), (.int .i64 (4)), (.int .u64 (last)), (lg), (op)] : List Value), Z0 b6 27 ([(.slice na N.length nc), (.slice ta TT.length tc), (.slice ha HH.length hc_), (.int .u64 (ptm)), (.slice oa OO.length oc), (.slice ba BB.length bc), (.int .i64 (psk)), (pl_), (.int .u64 (pla))] : List Value), Zc 71 6 (.slice pa PS.length pc) PS.length (PS.flatMap Z0p), Z0b B4, Zc 86 34 (.slice osa OS.length osc) OS.length (OS.flatMap Z0L), Zc 89 2 (.slice tsa TS.length tsc) TS.length (TS.flatMap Z0I), Z0 b444 89 ([(.int .i64 (2 * (Z1 (BB.getD j 0) 4))), (.slice dda DD.length ddc)] : List Value), Zc 122 4 (.slice dda DD.length ddc) DD.length (DD.flatMap Z3n), Z0 b465 122 ([(.int .i64 ((e : Int))), (.int .i64 (2 * (Z1 (BB.getD j 0) 4))), (.int .i64 ((e : Int))), (.int .i64 (Ze L6 ⟨(e : Int), Z02 (e : Int) (2 * (Z1 (BB.getD j 0) 4))⟩))] : List Value), Zc 5 1 (.slice a482 ((Z02 (e : Int) (2 * (Z1 (BB.getD j 0) 4))).length) c483) ((Z02 (e : Int) (2 * (Z1 (BB.getD j 0) 4))).length) ((Z02 (e : Int) (2 * (Z1 (BB.getD j 0) 4))).flatMap Zy), Zc 5 1 (.slice a509 ((Z02 (e : Int) (2 * (Z1 (BB.getD j 0) 4))).length) c510) ((Z02 (e : Int) (2 * (Z1 (BB.getD j 0) 4))).length) ((Z02 (e : Int) (2 * (Z1 (BB.getD j 0) 4))).flatMap Zy)] w513 := (by have q_ := H515; rw [← hL6] at q_; exact q_)
   refine Zl <| wv 233 (pt b444 1) <| zw1 234 (.slice dda DD.length ddc) (H517.cell 11 rfl rfl) <| zwN 235 (Z1v ((e : Int)) (2 * (Z1 (BB.getD j 0) 4)) (Ze L6 ⟨(e : Int), Z02 (e : Int) (2 * (Z1 (BB.getD j 0) 4))⟩)) (H517.at 13 rfl) <| zwd fun Kq kq => Z2w 122 4 32 (.agg ⟨(Z96)⟩) [(0, (.agg ⟨(Z1v ((e : Int)) (2 * (Z1 (BB.getD j 0) 4)) (Ze L6 ⟨(e : Int), Z02 (e : Int) (2 * (Z1 (BB.getD j 0) 4))⟩))⟩))] (Z1v ((e : Int)) (2 * (Z1 (BB.getD j 0) 4)) (Ze L6 ⟨(e : Int), Z02 (e : Int) (2 * (Z1 (BB.getD j 0) 4))⟩)) H517 ?_
   intro b519 w520 (H521 : Sat w [Z0 b 179 (ZB mb), (ZC mb L6), Z0 r 165 (Zx a488 L6.length c489), (ZA a488 L6 c489), Z3 w (ZR (ZT b mb r ra rc Lb)).fp, Z0 b2 38 (Zz F b r last lg op), Z0 b6 27 (ZE na N.length nc ta TT.length tc ha HH.length hc_ ptm oa OO.length oc ba BB.length bc psk pl_ pla), (ZG pa PS pc), Z0b B4, (Z0i osa OS osc), (Z0K tsa TS tsc), Z0 b444 89 (Z0v (2 * (Z1 (BB.getD j 0) 4)) dda DD.length ddc), (Z1K dda DD ddc), Z0 b465 122 (Z1v ((e : Int)) (2 * (Z1 (BB.getD j 0) 4)) (Ze L6 ⟨(e : Int), Z02 (e : Int) (2 * (Z1 (BB.getD j 0) 4))⟩)), (Z1b a482 (Z02 (e : Int) (2 * (Z1 (BB.getD j 0) 4))) c483), (Z1b a509 (Z02 (e : Int) (2 * (Z1 (BB.getD j 0) 4))) c510), Zc 122 4 (.slice (some ⟨b519, 0, none⟩) 1 1) 1 (Z1v ((e : Int)) (2 * (Z1 (BB.getD j 0) 4)) (Ze L6 ⟨(e : Int), Z02 (e : Int) (2 * (Z1 (BB.getD j 0) 4))⟩))] w520)
   have H522 := H521.ct 16 rfl (Zc 122 4 (.slice (some ⟨b519, 0, none⟩) 1 1) 1 ([(⟨(e : Int), 2 * (Z1 (BB.getD j 0) 4), (e : Int), Ze L6 ⟨(e : Int), Z02 (e : Int) (2 * (Z1 (BB.getD j 0) 4))⟩⟩ : Z1d)].flatMap Z3n)) (by rw [(show ((Z1v ((e : Int)) (2 * (Z1 (BB.getD j 0) 4)) (Ze L6 ⟨(e : Int), Z02 (e : Int) (2 * (Z1 (BB.getD j 0) 4))⟩)) : List Value) = [(⟨(e : Int), 2 * (Z1 (BB.getD j 0) 4), (e : Int), Ze L6 ⟨(e : Int), Z02 (e : Int) (2 * (Z1 (BB.getD j 0) 4))⟩⟩ : Z1d)].flatMap Z3n by kernel_rfl)])
   refine kq _ _ <| zwd fun Kq kq => Z00 (T := 87) (e := 122) (size := 4) (bytes := 32) rfl H522 (by kernel_rfl) 12 16 rfl rfl rfl rfl (ZX Z3n Z8L [(⟨(e : Int), 2 * (Z1 (BB.getD j 0) 4), (e : Int), Ze L6 ⟨(e : Int), Z02 (e : Int) (2 * (Z1 (BB.getD j 0) 4))⟩⟩ : Z1d)]) (by omega) (by omega) fun v524 w525 H526 => ?_
   have H529 := H526.ct 12 rfl (Zc 122 4 v524 ((DD ++ [(⟨(e : Int), 2 * (Z1 (BB.getD j 0) 4), (e : Int), Ze L6 ⟨(e : Int), Z02 (e : Int) (2 * (Z1 (BB.getD j 0) 4))⟩⟩ : Z1d)]).length) ((DD ++ [(⟨(e : Int), 2 * (Z1 (BB.getD j 0) 4), (e : Int), Ze L6 ⟨(e : Int), Z02 (e : Int) (2 * (Z1 (BB.getD j 0) 4))⟩⟩ : Z1d)]).flatMap Z3n)) ja
   obtain ⟨a527, c528, rfl⟩ := Z2 (H529.at 12 rfl)
   refine kq _ _ <| wv 238 (pt b444 1) <| zwd fun Kq kq => zds (Zx a527 ((DD ++ [(⟨(e : Int), 2 * (Z1 (BB.getD j 0) 4), (e : Int), Ze L6 ⟨(e : Int), Z02 (e : Int) (2 * (Z1 (BB.getD j 0) 4))⟩⟩ : Z1d)]).length) c528) (Z0v (2 * (Z1 (BB.getD j 0) 4)) a527 ((DD ++ [(⟨(e : Int), 2 * (Z1 (BB.getD j 0) 4), (e : Int), Ze L6 ⟨(e : Int), Z02 (e : Int) (2 * (Z1 (BB.getD j 0) 4))⟩⟩ : Z1d)]).length) c528) H529 11 ?_
   intro w531 (H532 : Sat w [Z0 b 179 (ZB mb), (ZC mb L6), Z0 r 165 (Zx a488 L6.length c489), (ZA a488 L6 c489), Z3 w (ZR (ZT b mb r ra rc Lb)).fp, Z0 b2 38 (Zz F b r last lg op), Z0 b6 27 (ZE na N.length nc ta TT.length tc ha HH.length hc_ ptm oa OO.length oc ba BB.length bc psk pl_ pla), (ZG pa PS pc), Z0b B4, (Z0i osa OS osc), (Z0K tsa TS tsc), Z0 b444 89 (Z0v (2 * (Z1 (BB.getD j 0) 4)) a527 ((DD ++ [(⟨(e : Int), 2 * (Z1 (BB.getD j 0) 4), (e : Int), Ze L6 ⟨(e : Int), Z02 (e : Int) (2 * (Z1 (BB.getD j 0) 4))⟩⟩ : Z1d)]).length) c528), (Z1K a527 (DD ++ [(⟨(e : Int), 2 * (Z1 (BB.getD j 0) 4), (e : Int), Ze L6 ⟨(e : Int), Z02 (e : Int) (2 * (Z1 (BB.getD j 0) 4))⟩⟩ : Z1d)]) c528), Z0 b465 122 (Z1v ((e : Int)) (2 * (Z1 (BB.getD j 0) 4)) (Ze L6 ⟨(e : Int), Z02 (e : Int) (2 * (Z1 (BB.getD j 0) 4))⟩)), (Z1b a482 (Z02 (e : Int) (2 * (Z1 (BB.getD j 0) 4))) c483), (Z1b a509 (Z02 (e : Int) (2 * (Z1 (BB.getD j 0) 4))) c510), Zc 122 4 (.slice (some ⟨b519, 0, none⟩) 1 1) 1 ([(⟨(e : Int), 2 * (Z1 (BB.getD j 0) 4), (e : Int), Ze L6 ⟨(e : Int), Z02 (e : Int) (2 * (Z1 (BB.getD j 0) 4))⟩⟩ : Z1d)].flatMap Z3n)] w531)
   refine kq _ _ <| Zu <| Z7 <| ztn ?_
   have hdn2 := (hdn.more hps5).add (d := (⟨(e : Int), 2 * (Z1 (BB.getD j 0) 4), (e : Int), Ze L6 ⟨(e : Int), Z02 (e : Int) (2 * (Z1 (BB.getD j 0) 4))⟩⟩ : Z1d)) rfl (by unfold Z1m inB; rw [decide_eq_true (show 0 ≤ (e : Int) by omega), decide_eq_true (show (e : Int) < 3 * F + 1 by omega), decide_eq_true (show 0 ≤ (2 * (Z1 (BB.getD j 0) 4) : Int) by omega), decide_eq_true rfl, Z7r (by rw [hL6]; exact Z2m _ _) rfl]; rfl) ⟨by show (e : Int) ≤ _; omega, by show (2 * (Z1 (BB.getD j 0) 4) : Int) ≤ _; omega⟩ rfl
   refine Zl <| wv 212 (.int .i64 ((e : Int))) <| zwi 213 ((e : Int) + 1) <| wv 28 (.int .i64 ((e : Int) + 1)) <| Zu ?_
   have H534 := H532.pk [0, 1, 2, 3, 4, 5, 6, 7, 8, 9, 10, 11, 12]
   refine Z6 ?_ _ ⟨(e + 1), a488, c489, L6, a527, c528, (DD ++ [(⟨(e : Int), 2 * (Z1 (BB.getD j 0) 4), (e : Int), Ze L6 ⟨(e : Int), Z02 (e : Int) (2 * (Z1 (BB.getD j 0) 4))⟩⟩ : Z1d)]), rfl, (by omega), hdn2, hnd6, (by omega), (hpre5.trans hps5), H534, rfl⟩ (by omega)
   exact zs
  have g535 := of_decide_eq_false b461
  refine Z2X _ b461 ?_
  refine zxb <| ztn ?_
  have heF : (e : Int) = 2 * F + 1 := by omega
  refine Zl <| wv 239 (.slice tsa TS.length tsc) <| zwN 240 (Z0v (2 * (Z1 (BB.getD j 0) 4)) dda DD.length ddc) (H459.at 11 rfl) <| zwd fun Kq kq => Z2w 89 2 32 (.agg ⟨([(.int .i64 (0)), (.slice none 0 0)] : List Value)⟩) [(0, (.agg ⟨(Z0v (2 * (Z1 (BB.getD j 0) 4)) dda DD.length ddc)⟩))] (Z0v (2 * (Z1 (BB.getD j 0) 4)) dda DD.length ddc) H459 ?_
  intro b538 w539 (H540 : Sat w [Z0 b 179 (ZB mb), (ZC mb L5), Z0 r 165 (Zx ra5 L5.length rc5), (ZA ra5 L5 rc5), Z3 w (ZR (ZT b mb r ra rc Lb)).fp, Z0 b2 38 (Zz F b r last lg op), Z0 b6 27 (ZE na N.length nc ta TT.length tc ha HH.length hc_ ptm oa OO.length oc ba BB.length bc psk pl_ pla), (ZG pa PS pc), Z0b B4, (Z0i osa OS osc), (Z0K tsa TS tsc), Z0 b444 89 (Z0v (2 * (Z1 (BB.getD j 0) 4)) dda DD.length ddc), (Z1K dda DD ddc), Zc 89 2 (.slice (some ⟨b538, 0, none⟩) 1 1) 1 (Z0v (2 * (Z1 (BB.getD j 0) 4)) dda DD.length ddc)] w539)
  have H541 := H540.ct 13 rfl (Zc 89 2 (.slice (some ⟨b538, 0, none⟩) 1 1) 1 ([(⟨2 * (Z1 (BB.getD j 0) 4), dda, ddc, DD⟩ : TbR)].flatMap Z0I)) (by rw [(show ((Z0v (2 * (Z1 (BB.getD j 0) 4)) dda DD.length ddc) : List Value) = [(⟨2 * (Z1 (BB.getD j 0) 4), dda, ddc, DD⟩ : TbR)].flatMap Z0I by kernel_rfl)])
  refine kq _ _ <| zwd fun Kq kq => Z00 (T := 43) (e := 89) (size := 2) (bytes := 32) rfl H541 (by kernel_rfl) 10 13 rfl rfl rfl rfl (ZX Z0I Z5F [(⟨2 * (Z1 (BB.getD j 0) 4), dda, ddc, DD⟩ : TbR)]) (by omega) (by omega) fun v543 w544 H545 => ?_
  have H548 := H545.ct 10 rfl (Zc 89 2 v543 ((TS ++ [(⟨2 * (Z1 (BB.getD j 0) 4), dda, ddc, DD⟩ : TbR)]).length) ((TS ++ [(⟨2 * (Z1 (BB.getD j 0) 4), dda, ddc, DD⟩ : TbR)]).flatMap Z0I)) ja
  obtain ⟨a546, c547, rfl⟩ := Z2 (H548.at 10 rfl)
  refine kq _ _ <| wv 25 (.slice a546 ((TS ++ [(⟨2 * (Z1 (BB.getD j 0) 4), dda, ddc, DD⟩ : TbR)]).length) c547) <| Zu <| Z7 <| ztn ?_
  have H549 : Sat w [Z0b (tbC (⟨2 * (Z1 (BB.getD j 0) 4), dda, ddc, DD⟩ : TbR) :: B4), Z0 b 179 (ZB mb), (ZC mb L5), Z0 r 165 (Zx ra5 L5.length rc5), (ZA ra5 L5 rc5), Z3 w (ZR (ZT b mb r ra rc Lb)).fp, Z0 b2 38 (Zz F b r last lg op), Z0 b6 27 (ZE na N.length nc ta TT.length tc ha HH.length hc_ ptm oa OO.length oc ba BB.length bc psk pl_ pla), (ZG pa PS pc), (Z0i osa OS osc), (Z0K a546 (TS ++ [(⟨2 * (Z1 (BB.getD j 0) 4), dda, ddc, DD⟩ : TbR)]) c547), Z0 b444 89 (Z0v (2 * (Z1 (BB.getD j 0) 4)) dda DD.length ddc), Zc 89 2 (.slice (some ⟨b538, 0, none⟩) 1 1) 1 ([(⟨2 * (Z1 (BB.getD j 0) 4), dda, ddc, DD⟩ : TbR)].flatMap Z0I)] w544 := (H548.pk [8, 12, 0, 1, 2, 3, 4, 5, 6, 7, 9, 10, 11, 13]).bag
  have H550 := H549.pk [1, 2, 3, 4, 5, 6, 7, 8, 0, 9, 10, 11, 12]
  refine Zl <| wv 197 (.int .i64 ((j : Int))) <| zwi 198 ((j : Int) + 1) <| wv 26 (.int .i64 ((j : Int) + 1)) <| Zu ?_
  have H551 : Sat w [Z0 b 179 (ZB mb), (ZC mb L5), Z0 r 165 (Zx ra5 L5.length rc5), (ZA ra5 L5 rc5), Z3 w (ZR (ZT b mb r ra rc Lb)).fp, Z0 b2 38 (Zz F b r last lg op), Z0 b6 27 (ZE na N.length nc ta TT.length tc ha HH.length hc_ ptm oa OO.length oc ba BB.length bc psk pl_ pla), (ZG pa PS pc), Z0b (tbC (⟨2 * (Z1 (BB.getD j 0) 4), dda, ddc, DD⟩ : TbR) :: B4), (Z0i osa OS osc), (Z0K a546 (TS ++ [(⟨2 * (Z1 (BB.getD j 0) 4), dda, ddc, DD⟩ : TbR)]) c547)] w544 := H550.pk [0, 1, 2, 3, 4, 5, 6, 7, 8, 9, 10]
  refine Z6 ?_ _ ⟨(j + 1), (tbC (⟨2 * (Z1 (BB.getD j 0) 4), dda, ddc, DD⟩ : TbR) :: B4), ra5, rc5, L5, a546, c547, (TS ++ [(⟨2 * (Z1 (BB.getD j 0) 4), dda, ddc, DD⟩ : TbR)]), rfl, (show ((.slice a546 ((TS ++ [(⟨2 * (Z1 (BB.getD j 0) 4), dda, ddc, DD⟩ : TbR)]).length) c547) : Value) = _ by first | rfl | go_num), (by omega), (hpsg.more hpre5 Z2M), (fun o ho => (hos2 o ho).more Z2M), (fun t ht => by rcases List.mem_append.1 ht with ht | ht; exact (hts t ht).more hpre5 Z2M; rw [List.mem_singleton.1 ht]; exact ⟨⟨by show 0 ≤ 2 * _; omega, by show 2 * _ ≤ (6 : Int); omega⟩, hdn.right (by omega), fun d hd => (hdn.all d hd).2.2, by show DD.length ≤ 12; omega, List.mem_cons_self⟩), (by simp only [List.length_append, List.length_cons, List.length_nil]; omega), hnd5, (by omega), (hpre4.trans hpre5), H551, rfl⟩ (by omega)
  exact zs
 refine Z2X _ b433 ?_
 refine zxb <| ztn <| zsl <| wv 243 (.int .u64 (tm)) <| wv 244 (.slice pa PS.length pc) <| wv 245 (.slice osa OS.length osc) <| wv 246 (.slice tsa TS.length tsc) <| wv 4 (.int .u64 (tm)) <| wv 5 (.slice pa PS.length pc) <| wv 6 (.slice osa OS.length osc) ?_
 refine wv 7 (.slice tsa TS.length tsc) <| znt <| Zq <| end4 rfl (Z10 (v := (.int .u64 (tm))) rfl) (Z10 (v := (.slice pa PS.length pc)) rfl) (Z10 (v := (.slice osa OS.length osc)) rfl) (Z10 (v := (.slice tsa TS.length tsc)) rfl) ?_
 subst htm
 exact ⟨pa, pc, PS, osa, osc, OS, tsa, tsc, TS, ra4, rc4, L4, B4, rfl, hpsg.out hn, hos2, by omega, hts, by omega, hnd4, by omega, hpre4, H431.pk [0, 1, 2, 3, 7, 9, 10, 8, 4]⟩
end Go.Proofs.YtenihpghfdcpkaaGreat
