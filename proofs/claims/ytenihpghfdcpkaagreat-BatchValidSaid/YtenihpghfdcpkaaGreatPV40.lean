/- WHAT IS PROVED: contracts and plain laws of Par12. Conditions: stated with each. -/
import Derived.Test.YtenihpghfdcpkaaGreatPV02
import Derived.Test.YtenihpghfdcpkaaGreatPV05
import Derived.Test.YtenihpghfdcpkaaGreatPV26
import Derived.Test.YtenihpghfdcpkaaGreatPV34
import Derived.Test.YtenihpghfdcpkaaGreatPV35
import Derived.Test.YtenihpghfdcpkaaGreatPV38
import Derived.Test.YtenihpghfdcpkaaGreatPV39
set_option maxHeartbeats 4000000
set_option maxRecDepth 100000
namespace Go.Proofs.YtenihpghfdcpkaaGreat
open Go.RowKit
abbrev ZR (p0 : Nat) : List Value := ([(.map (some p0))] : LV)
abbrev Z00 (p0 : Nat) (p1 : List Signed) : Ck := Z2S p0 Z0c (Value.int .i64) (Z0o p1)
abbrev Z0w (p0 : Option Addr) (p1 : Nat) (p2 : Nat) : List Value := ([(.slice p0 p1 p2)] : LV)
abbrev Z04 (p0 : Option Addr) (p1 : List Signed) (p2 : Nat) : Ck := Zo 181 2 (.slice p0 p1.length p2) p1.length (p1.flatMap Z47)
abbrev ZS (p0 : Int) (p1 : Nat) (p2 : Nat) (p3 : Int) (p4 : Value) (p5 : Value) : List Value := ([i6 p0, i6 3, (pt p1 0), (pt p2 0), i6 p0, i6 3, i6 4, u6 p3, p4, p5] : LV)
abbrev ZU (p0 : Option Addr) (p1 : Nat) (p2 : Nat) (p3 : Option Addr) (p4 : Nat) (p5 : Nat) (p6 : Option Addr) (p7 : Nat) (p8 : Nat) (p9 : Int) (p10 : Option Addr) (p11 : Nat) (p12 : Nat) (p13 : Option Addr) (p14 : Nat) (p15 : Nat) (p16 : Int) (p17 : Value) (p18 : Int) : List Value := ([(.slice p0 p1 p2), (.slice p3 p4 p5), (.slice p6 p7 p8), u6 p9, (.slice p10 p11 p12), (.slice p13 p14 p15), i6 p16, p17, u6 p18] : LV)
abbrev Z5f (p0 : Int) : List Value := ([i6 p0, i6 3] : LV)
abbrev ZW (p0 : Option Addr) (p1 : List PrR) (p2 : Nat) : Ck := Zo 71 6 (.slice p0 p1.length p2) p1.length (p1.flatMap Z0T)
abbrev Z7O (p0 : Int) (p1 : Int) (p2 : Option Addr) (p3 : Nat) (p4 : Nat) : List Value := ([i6 p0, i6 3, i6 p1, (.slice p2 p3 p4)] : LV)
abbrev Z0s (p0 : Option Addr) (p1 : List CeR) (p2 : Nat) : Ck := Zo 76 38 (.slice p0 p1.length p2) p1.length (p1.flatMap Z1o)
abbrev Z2W (p0 : Option Addr) (p1 : List Zb) (p2 : Nat) : Ck := Zo 149 38 (.slice p0 p1.length p2) p1.length (p1.flatMap Z2O)
abbrev Z3J (p0 : Zj) (p1 : Option Addr) (p2 : Nat) (p3 : Nat) : List Value := ([i6 p0.cl, i6 p0.seq] : LV) ++ hc p0.h ++ ([i6 p0.len, i6 p0.sb, i6 p0.sm, (.slice p1 p2 p3)] : LV)
abbrev ZbJ (p0 : Nat) (p1 : Nat) : List Value := ([(pt p0 0), (pt p1 0)] : LV)
abbrev Z1L : List Value := ([i6 0, i6 0] : LV) ++ hc Zz ++ ([i6 0, i6 0, i6 0, (.slice none 0 0)] : LV)
abbrev Z3c (p0 : Zb) : List Value := ([i6 p0.r, i6 p0.cl, i6 p0.seq] : LV) ++ hc p0.h ++ ([u6 p0.t, i6 p0.sb, i6 p0.sm] : LV)
abbrev ZcG : List Value := ([i6 0, i6 0, i6 0] : LV) ++ hc Zz ++ ([u6 0, i6 0, i6 0] : LV)
abbrev Z1q (p0 : Option Addr) (p1 : List UInt8) (p2 : Nat) : Ck := Zo 5 1 (.slice p0 p1.length p2) p1.length (p1.flatMap Zx)
abbrev Zbq (p0 : Int) (p1 : Int) (p2 : Option Addr) (p3 : Nat) (p4 : Nat) (p5 : Int) : List Value := ([i6 p0, i6 4, u6 p1, (.slice p2 p3 p4), i6 p0, i6 p5] : LV)
abbrev Z6P : List Value := ([i6 0, i6 0, u6 0, (.slice none 0 0), i6 0, i6 0] : LV)
abbrev Z0I (p0 : Option Addr) (p1 : List OpR) (p2 : Nat) : Ck := Zo 86 34 (.slice p0 p1.length p2) p1.length (p1.flatMap Z0J)
abbrev Z4o (p0 : Int) (p1 : Nat) : List Value := ([i6 p0, (.slice (some ⟨p1, 0, none⟩) 1 1)] : LV) ++ hc Zz
abbrev Z18 (p0 : Option Addr) (p1 : List TbR) (p2 : Nat) : Ck := Zo 89 2 (.slice p0 p1.length p2) p1.length (p1.flatMap Z16)
abbrev Z0W (p0 : Int) (p1 : Option Addr) (p2 : Nat) (p3 : Nat) : List Value := ([i6 p0, (.slice p1 p2 p3)] : LV)
abbrev Z1Y (p0 : Option Addr) (p1 : List Z1s) (p2 : Nat) : Ck := Zo 122 4 (.slice p0 p1.length p2) p1.length (p1.flatMap Z4v)
abbrev Z2R (p0 : Int) (p1 : Int) : List Value := ([i6 p0, i6 p1, i6 0, i6 0] : LV)
abbrev Z8y : List Value := ([i6 0, i6 0, i6 0, i6 0] : LV)
abbrev Z1K (p0 : Int) (p1 : Int) (p2 : Int) : List Value := ([i6 p0, i6 p1, i6 p0, i6 p2] : LV)
theorem Zbc (w : World) (F last : Int) (hF : 1 ≤ F ∧ F ≤ 2) (hla : 0 ≤ last ∧ last < 20) (b mb r : Nat) (ra : Option Addr) (rc : Nat) (Lb : List Signed) (hA : (Z0h (Z0l b mb r ra rc Lb)).ok w) (hnb : Lb.Nodup) (hlb : Lb.length ≤ 100) (lg op pl_ : Value) (ptm psk pla : Int) (hptm : 0 ≤ ptm ∧ ptm ≤ 18446744073709551615) (na : Option Addr) (nc : Nat) (N : List NmD) (hN : ListAt Z2n 2 w (.slice na N.length nc) N) (oN : 0 < N.length → ∀ ad, na = some ad → ¬ (Z0h (Z0l b mb r ra rc Lb)).fp ad.block) (ta : Option Addr) (tc : Nat) (TT : List TmR) (hTT : ListAt ZbW 1 w (.slice ta TT.length tc) TT) (oT : 0 < TT.length → ∀ ad, ta = some ad → ¬ (Z0h (Z0l b mb r ra rc Lb)).fp ad.block) (ha : Option Addr) (hc_ : Nat) (HH : List Int) (hHH : ListAt ZbZ 1 w (.slice ha HH.length hc_) HH) (oH : 0 < HH.length → ∀ ad, ha = some ad → ¬ (Z0h (Z0l b mb r ra rc Lb)).fp ad.block) (oa : Option Addr) (oc : Nat) (OO : List Int) (hOO : ListAt ZbZ 1 w (.slice oa OO.length oc) OO) (oO : 0 < OO.length → ∀ ad, oa = some ad → ¬ (Z0h (Z0l b mb r ra rc Lb)).fp ad.block) (ba : Option Addr) (bc : Nat) (BB : List Int) (hBB : ListAt ZbZ 1 w (.slice ba BB.length bc) BB) (oB : 0 < BB.length → ∀ ad, ba = some ad → ¬ (Z0h (Z0l b mb r ra rc Lb)).fp ad.block) (htt : ∀ x ∈ TT, TmOk w x) (oX : ∀ x ∈ TT, 0 < x.xs.length → ∀ ad, x.ta = some ad → ¬ (Z0h (Z0l b mb r ra rc Lb)).fp ad.block) :
  Calls Tryz.prog 11 #[(.agg ⟨([i6 F, i6 3, zp b, zp r, i6 F, i6 3, i6 4, u6 last, (lg), (op)] : LV)⟩), (.agg ⟨([(.slice na N.length nc), (.slice ta TT.length tc), (.slice ha HH.length hc_), u6 ptm, (.slice oa OO.length oc), (.slice ba BB.length bc), i6 psk, (pl_), u6 pla] : LV)⟩)] w fun e w' => ∃ (pa : Option Addr) (pc : Nat) (PS : List PrR) (osa : Option Addr) (osc : Nat) (OS : List OpR) (tsa : Option Addr) (tsc : Nat) (TS : List TbR) (ra4 : Option Addr) (rc4 : Nat) (L4 : List Signed) (B4 : List Ck), e = .returned (.tuple #[u6 (last + 1 + ptm % 60), .slice pa PS.length pc, .slice osa OS.length osc, .slice tsa TS.length tsc]) ∧ PsF F last (last + 1 + ptm % 60) L4 B4 PS ∧ (∀ o ∈ OS, OpG B4 o) ∧ OS.length ≤ 4 ∧ (∀ t ∈ TS, TbG F L4 B4 t) ∧ TS.length ≤ 3 ∧ L4.Nodup ∧ L4.length ≤ 700 ∧ Lb <+: L4 ∧ Sat w [Z0 b 179 [.map (some mb)], Z2S mb Z0c (Value.int .i64) (Z0o L4), Z0 r 165 [.slice ra4 (L4).length rc4], Zo 181 2 (.slice ra4 (L4).length rc4) (L4).length ((L4).flatMap Z47), Zo 71 6 (.slice pa PS.length pc) PS.length (PS.flatMap Z0T), Zo 86 34 (.slice osa OS.length osc) OS.length (OS.flatMap Z0J), Zo 89 2 (.slice tsa TS.length tsc) TS.length (TS.flatMap Z16), Z0G B4, ZQ w (Z0h (Z0l b mb r ra rc Lb)).fp] w' := by
 obtain ⟨n, hn⟩ : ∃ n : Nat, (n : Int) = 3 * F + 1 := ⟨(3 * F + 1).toNat, by omega⟩
 obtain ⟨tm, htm⟩ : ∃ tm : Int, tm = last + 1 + ptm % 60 := ⟨_, rfl⟩
 have htm2 : last < tm ∧ tm ≤ last + 60 := by omega
 have H := Sat.start (Z0l b mb r ra rc Lb) hA
 refine Zg Tryz.func11 rfl 247 rfl kn ?_
 refine zsl <| zy <| zdb (ZS F b r last lg op) H ?_
 intro b2 w3 (H4 : Sat w [Z0 b 179 (ZR mb), (Z00 mb Lb), Z0 r 165 (Z0w ra Lb.length rc), (Z04 ra Lb rc), ZQ w (Z0h (Z0l b mb r ra rc Lb)).fp, Z0 b2 38 (ZS F b r last lg op)] w3)
 refine kk <| zy <| zdb (ZU na N.length nc ta TT.length tc ha HH.length hc_ ptm oa OO.length oc ba BB.length bc psk pl_ pla) H4 fun b6 w7 H8 => ?_
 refine kk <| wv 4 (vu 0) <| wv 5 (.slice none 0 0) <| wv 6 (.slice none 0 0) <| wv 7 (.slice none 0 0) <| Z1a <| wv 30 (pt b2 4) <| wv 31 (pt b2 7) <| zw1 32 (vu last) (H8.cell 5 rfl rfl) <| wv 33 (vu (last + 1)) ?_ (hr := Z0A (z := last + 1) kr (Z1h om))
 refine wv 34 (pt b6 3) <| zw1 35 (vu ptm) (H8.cell 6 rfl rfl) <| wv 36 (vu (ptm % 60)) ?_ (hr := Z7E kr om om)
 let Ar : Value := vu ((last + 1) + (ptm % 60))
 refine wv 37 Ar ?_ (hr := Z0A (z := (last + 1) + (ptm % 60)) kr (Z1h om))
 refine wv 8 Ar <| znt <| Z9 <| Zn 8 (vu tm) (show (Ar : Value) = _ by rw [htm]) ?_
 refine ZG <| wv 38 (pt b2 0) <| zwN 39 (Z5f F) (H8.at 5 rfl) <| zy <| zdq 40 (Z7o w7 F 3 om) H8 fun w10 H11 => ?_
 refine kk <| wv 9 (vi (3 * F + 1)) <| znt <| Z9 <| Zn 9 (vi n) (show ((vi (3 * F + 1)) : Value) = _ by rw [hn]) ?_
 refine ZG <| wv 10 (.slice none 0 0) <| znt <| Z9 <| zsl <| wv 11 (vi 0) <| znt <| Zh ?_
 have H13 := H11.addNil 71 6
 have H14 := H13.bag0
 refine ZB (List.range' 10 11 ++ List.range' 41 113) (fun F_ W_ m_ => ∃ (q : Nat) (ra1 : Option Addr) (rc1 : Nat) (L1 : List Signed) (B : List Ck) (pa : Option Addr) (pc : Nat) (PS : List PrR), F_ 11 = (vi q) ∧ F_ 10 = (.slice pa PS.length pc) ∧ (q ≤ n) ∧ (PsG F last tm L1 B PS q) ∧ (L1.Nodup) ∧ (L1.length ≤ 100 + 70 * q) ∧ (Lb <+: L1) ∧ Sat w [Z0 b 179 (ZR mb), (Z00 mb L1), Z0 r 165 (Z0w ra1 L1.length rc1), (Z04 ra1 L1 rc1), ZQ w (Z0h (Z0l b mb r ra rc Lb)).fp, Z0 b2 38 (ZS F b r last lg op), Z0 b6 27 (ZU na N.length nc ta TT.length tc ha HH.length hc_ ptm oa OO.length oc ba BB.length bc psk pl_ pla), (ZW pa PS pc), Z0G B] W_ ∧ m_ = n - q) _ ⟨0, ra, rc, Lb, [], none, 0, [], (show ((vi 0) : Value) = _ by first | rfl | go_num), (by first | rfl | go_num), (Nat.zero_le _), PsG.nil, hnb, om, (List.prefix_refl _), H14, rfl⟩ ?_
 rintro g15 w16 _ ⟨q, ra1, rc1, L1, B, pa, pc, PS, v18, v19, hq, hps, hnd1, hl1, hpre1, H17, rfl⟩
 refine Zn 11 _ v18 ?_
 refine Zn 10 _ v19 ?_
 have hpsl := hps.length
 refine Z9 <| zsl <| wv 41 (vi q) <| wv 42 (vi n) <| wv 43 (.bool (decide ((q : Int) < n))) <| znt ?_
 let A8 : Value := .slice oa OO.length oc
 let A9 := Z0w ra1 L1.length rc1
 let Aa : Value := .slice ha HH.length hc_
 let Ac : Value := .slice ta TT.length tc
 let Ad : Value := .slice na N.length nc
 let Ao : Value := .map (some mb)
 refine zid (fun b21 g22 => ?_) fun b21 g357 => ?_
 ·let Ag := ([(vi F), (vi 3), (vi q), (.slice none 0 0)] : LV)
  refine Zp <| ztn <| Z9 <| Zh <| zsl <| wv 46 (pt b2 0) <| zwN 47 (Z5f F) (H17.at 5 rfl) <| wv 48 (vi q) <| wv 49 (.agg ⟨Ag⟩) <| zy ?_
  refine zdb Ag H17 ?_
  intro b25 w26 (H27 : Sat w [Z0 b 179 (ZR mb), (Z00 mb L1), Z0 r 165 A9, (Z04 ra1 L1 rc1), ZQ w (Z0h (Z0l b mb r ra rc Lb)).fp, Z0 b2 38 (ZS F b r last lg op), Z0 b6 27 (ZU na N.length nc ta TT.length tc ha HH.length hc_ ptm oa OO.length oc ba BB.length bc psk pl_ pla), (ZW pa PS pc), Z0G B, Z0 b25 107 Ag] w26)
  refine kk <| wv 12 (pt b25 0) <| znt <| Z9 <| zsl <| wv 13 (vi 0) <| znt <| Zh ?_
  have H28 := H27.addNil 76 38
  refine ZB ([13, 14, 15, 16, 17, 18] ++ List.range' 51 75) (fun F_ W_ m_ => ∃ (i : Nat) (ra2 : Option Addr) (rc2 : Nat) (L2 : List Signed) (B2 : List Ck) (la : Option Addr) (lc : Nat) (L : List CeR), F_ 13 = (vi i) ∧ (i ≤ 5) ∧ (i ≤ N.length) ∧ (TabOk F L2 B2 L) ∧ (PsG F last tm L2 B2 PS q) ∧ (L2.Nodup) ∧ (L2.length ≤ 100 + 70 * q + 13 * i) ∧ (L.length ≤ i) ∧ (Lb <+: L2) ∧ Sat w [Z0 b 179 (ZR mb), (Z00 mb L2), Z0 r 165 (Z0w ra2 L2.length rc2), (Z04 ra2 L2 rc2), ZQ w (Z0h (Z0l b mb r ra rc Lb)).fp, Z0 b2 38 (ZS F b r last lg op), Z0 b6 27 (ZU na N.length nc ta TT.length tc ha HH.length hc_ ptm oa OO.length oc ba BB.length bc psk pl_ pla), (ZW pa PS pc), Z0G B2, Z0 b25 107 (Z7O F ((q : Int)) la L.length lc), (Z0s la L lc)] W_ ∧ m_ = 5 - i) _ ⟨0, ra1, rc1, L1, B, none, 0, [], (show ((vi 0) : Value) = _ by first | rfl | go_num), (Nat.zero_le _), (Nat.zero_le _), TabOk.nil, hps, hnd1, om, (Nat.zero_le _), hpre1, H28, rfl⟩ ?_
  rintro g29 w30 _ ⟨i, ra2, rc2, L2, B2, la, lc, L, v32, hi, hiN, hti, hps1, hnd2, hl2, hLl, hpre1b, H31, rfl⟩
  refine Zn 13 _ v32 ?_
  apply Z9
  let A0 := Z7O F ((q : Int)) la L.length lc
  let Ab := Z0 r 165 (Z0w ra2 L2.length rc2)
  let Ak := Z00 mb L2
  let Am := Z04 ra2 L2 rc2
  refine Z1J [51, 52, 53, 54, 55, 56, 57, 58, 59] (fun G_ W_ => G_ 59 = (.bool (decide ((i : Int) < N.length) && decide ((i : Int) < 5))) ∧ Sat w [Z0 b 179 (ZR mb), Ak, Ab, Am, ZQ w (Z0h (Z0l b mb r ra rc Lb)).fp, Z0 b2 38 (ZS F b r last lg op), Z0 b6 27 (ZU na N.length nc ta TT.length tc ha HH.length hc_ ptm oa OO.length oc ba BB.length bc psk pl_ pla), (ZW pa PS pc), Z0G B2, Z0 b25 107 A0, (Z0s la L lc)] W_) ?_ ?_
  ·let Ba : Value := .bool (decide ((i : Int) < N.length))
   refine ZG <| wv 51 (vi i) <| wv 52 (pt b6 0) <| zw1 53 Ad (H31.cell 6 rfl rfl) <| wv 54 (vi N.length) <| wv 55 Ba <| wv 56 Ba ?_
   refine zil 56 (fun b35 g36 => ?_) fun b35 g38 => ?_
   ·refine wy 5 56 true 57 (vi i) <| wy 5 56 true 58 (.bool (decide ((i : Int) < 5))) <| wv 59 (.bool (decide ((i : Int) < 5))) <| ZL <| ZH ?_ ⟨(congrArg Value.bool (show (decide ((i : Int) < 5)) = (decide ((i : Int) < N.length) && decide ((i : Int) < 5)) by simp only [b35, Bool.true_and, Bool.false_and])), H31⟩
    exact zs
   iterate 2 refine wn 5 56 true ?_
   refine wv 59 (.bool false) <| ZL <| ZH ?_ ⟨(congrArg Value.bool (show false = (decide ((i : Int) < N.length) && decide ((i : Int) < 5)) by simp only [b35, Bool.true_and, Bool.false_and])), H31⟩
   exact zs
  rintro f40 w41 ⟨v43, H42⟩
  refine Zn 59 _ v43 ?_
  refine (ZY (decide ((i : Int) < (N.length : Int)) && decide ((i : Int) < 5))).elim (fun b44 => ?_) (fun b44 => ?_)
  ·refine Z48 _ b44 ?_
   refine Zp <| ztn <| Z9 <| Zh <| Z9 ?_
   have hb_i : (i : Int) < N.length ∧ (i : Int) < 5 := by have q := b44; rw [Bool.and_eq_true, decide_eq_true_eq, decide_eq_true_eq] at q; exact q
   refine ZG <| wv 62 (vi n) <| wv 63 (vu n) ?_ (hr := Z0A (z := (n : Int)) kr (Z1h om))
   refine wv 64 (vi (Z2A .i64 1 (n : Int))) ?_ (hr := Z7a rfl rfl om)
   let Au : Value := vi (IntKind.i64.wrap ((Z2A .i64 1 (n : Int)) - 1))
   refine wv 65 Au <| wv 14 Au <| znt ?_
   refine Z1J [14, 66, 67, 68, 69, 70, 71, 72, 73, 74, 75] (fun G_ W_ => ∃ (hl : Int), G_ 14 = (vi hl) ∧ Sat w [Z0 b 179 (ZR mb), Ak, Ab, Am, ZQ w (Z0h (Z0l b mb r ra rc Lb)).fp, Z0 b2 38 (ZS F b r last lg op), Z0 b6 27 (ZU na N.length nc ta TT.length tc ha HH.length hc_ ptm oa OO.length oc ba BB.length bc psk pl_ pla), (ZW pa PS pc), Z0G B2, Z0 b25 107 A0, (Z0s la L lc)] W_) ?_ ?_
   ·refine zsl <| wv 66 (vi i) <| wv 67 (pt b6 2) <| zw1 68 Aa (H42.cell 6 rfl rfl) <| wv 69 (vi HH.length) <| wv 70 (.bool (decide ((i : Int) < HH.length))) <| znt ?_
    refine zid (fun b46 g47 => ?_) fun b46 g54 => ?_
    ·refine ZG <| wv 71 (pt b6 2) <| zw1 72 Aa (H42.cell 6 rfl rfl) <| wv 73 (vi i) ?_
     obtain ⟨g49, o50, c51, e52, R53⟩ := SliceOf.atD hHH 0 (show i < HH.length by omega)
     refine wv 74 (.pointer (some ⟨g49, o50 + ((i : Int)).toNat * 1, none⟩)) ?_ (hr := Z8 (E := 3) kr kr kn rfl e52 rfl om om)
     refine zw1 75 (vi (HH.getD i 0)) (H42.cellR 4 rfl (Z0f R53 0 kr (show o50 + ((i : Int)).toNat * 1 = o50 + i * 1 + 0 by omega)) (by have hq := oH om _ (Z2o e52); exact hq)) <| wv 14 (vi (HH.getD i 0)) <| ZL <| ZH ?_ ⟨(HH.getD i 0), rfl, H42⟩
     exact zs
    refine Zp <| ZH ?_ ⟨IntKind.i64.wrap ((Z2A .i64 1 (n : Int)) - 1), rfl, H42⟩
    exact zs
   rintro f56 w57 ⟨hl, v59, H58⟩
   refine Zn 14 _ v59 ?_
   refine Z9 <| zsl <| wv 76 (vi hl) <| wv 77 (vi q) <| wv 78 (vu q) ?_ (hr := Z0A (z := (q : Int)) kr (Z1h om))
   refine wv 79 (vi (hl / 2 ^ (min (q : Int).toNat 64))) ?_ (hr := Z5b rfl rfl om rfl (Int.le_of_lt (Int.pow_pos (by decide))))
   refine wv 80 (vi (Z0P .i64 (hl / 2 ^ (min (q : Int).toNat 64)) 1)) <| wv 81 (.bool (decide ((Z0P .i64 (hl / 2 ^ (min (q : Int).toNat 64)) 1) = 0))) <| znt ?_
   refine zid (fun b60 g61 => ?_) fun b60 g63 => ?_
   ·refine Z8T <| Z4g <| Z70 <| ztn <| ZG <| wv 60 (vi i) <| zwi 61 ((i : Int) + 1) <| wv 13 (vi ((i : Int) + 1)) <| ZL <| Za ?_ _ ⟨(i + 1), ra2, rc2, L2, B2, la, lc, L, rfl, om, om, hti, hps1, hnd2, om, om, hpre1b, H58, rfl⟩ om
    exact zs
   refine Zp <| ztn <| zsl <| wv 15 (.slice none 0 0) <| znt ?_
   refine Z1J [15, 82, 83, 84, 85, 86, 87, 88, 89, 90, 91] (fun G_ W_ => ∃ (va : Option Addr) (vc : Nat) (xs : List Int), G_ 15 = (.slice va xs.length vc) ∧ (ListAt Z4b 1 w (.slice va xs.length vc) xs) ∧ (∀ x ∈ xs, 0 ≤ x ∧ x ≤ 18446744073709551615) ∧ (0 < xs.length → ∀ ad, va = some ad → ¬ (Z0h (Z0l b mb r ra rc Lb)).fp ad.block) ∧ Sat w [Z0 b 179 (ZR mb), Ak, Ab, Am, ZQ w (Z0h (Z0l b mb r ra rc Lb)).fp, Z0 b2 38 (ZS F b r last lg op), Z0 b6 27 (ZU na N.length nc ta TT.length tc ha HH.length hc_ ptm oa OO.length oc ba BB.length bc psk pl_ pla), (ZW pa PS pc), Z0G B2, Z0 b25 107 A0, (Z0s la L lc)] W_) ?_ ?_
   ·refine zsl <| wv 82 (vi i) <| wv 83 (pt b6 1) <| zw1 84 Ac (H58.cell 6 rfl rfl) <| wv 85 (vi TT.length) <| wv 86 (.bool (decide ((i : Int) < TT.length))) <| znt ?_
    refine zid (fun b66 g67 => ?_) fun b66 g74 => ?_
    ·refine ZG <| wv 87 (pt b6 1) <| zw1 88 Ac (H58.cell 6 rfl rfl) <| wv 89 (vi i) ?_
     obtain ⟨g69, o70, c71, e72, R73⟩ := SliceOf.atD hTT tm0 (show i < TT.length by omega)
     refine wv 90 (.pointer (some ⟨g69, o70 + ((i : Int)).toNat * 1, none⟩)) ?_ (hr := Z8 (E := 109) kr kr kn rfl e72 rfl om om)
     let Ap : Value := .slice (TT.getD i tm0).ta ((TT.getD i tm0).xs).length (TT.getD i tm0).tc
     refine zw1 91 Ap (H58.cellR 4 rfl (Z0f R73 0 kr (show o70 + ((i : Int)).toNat * 1 = o70 + i * 1 + 0 by omega)) (by have hq := oT om _ (Z2o e72); exact hq)) <| wv 15 Ap <| ZL <| ZH ?_ ⟨(TT.getD i tm0).ta, (TT.getD i tm0).tc, (TT.getD i tm0).xs, rfl, (htt _ (Z6c om)).1, (htt _ (Z6c om)).2, (oX _ (Z6c om)), H58⟩
     exact zs
    refine Zp <| ZH ?_ ⟨none, 0, ([] : List Int), rfl, ListAt.nil, (fun x hx => by simp at hx), (fun h => absurd h (Nat.lt_irrefl 0)), H58⟩
    exact zs
   rintro f76 w77 ⟨va, vc, xs, v79, hxs, hbd, hxo, H78⟩
   refine Zn 15 _ v79 ?_
   refine Z1J ([16] ++ List.range' 92 16) (fun G_ W_ => ∃ (xb : Nat) (da : Option Addr) (dc : Nat) (D : List Zb) (Y : Zj) (ra3 : Option Addr) (rc3 : Nat) (L3 : List Signed), G_ 16 = (pt xb 0) ∧ (CoB Y) ∧ (Z3q ⟨Y.cl, Y.seq⟩) ∧ ((D.length : Int) = 2 * F + 1) ∧ (∀ s ∈ D, StB s) ∧ (L3.Nodup) ∧ (L3.length ≤ L2.length + 12) ∧ (L2 <+: L3) ∧ Sat w [Z0 b 179 (ZR mb), (Z00 mb L3), Z0 r 165 (Z0w ra3 L3.length rc3), (Z04 ra3 L3 rc3), ZQ w (Z0h (Z0l b mb r ra rc Lb)).fp, Z0 b2 38 (ZS F b r last lg op), Z0 b6 27 (ZU na N.length nc ta TT.length tc ha HH.length hc_ ptm oa OO.length oc ba BB.length bc psk pl_ pla), (ZW pa PS pc), Z0G B2, Z0 b25 107 A0, (Z0s la L lc), (Z2W da D dc), Z0 xb 76 (Z3J Y da D.length dc)] W_) ?_ ?_
   ·have hw3 := Z1k (N.getD i nm0).cl 3 om
    have hw4 := Z1k (N.getD i nm0).sq 4 om
    obtain ⟨g81, o82, c83, e84, R85⟩ := SliceOf.atD hN nm0 (show i < N.length by omega)
    obtain ⟨g86, o87, c88, e89, R90⟩ := SliceOf.atD hN nm0 (show i < N.length by omega)
    obtain ⟨g91, o92, c93, e94, R95⟩ := SliceOf.atD hN nm0 (show i < N.length by omega)
    refine Z0a H78 [ZQ w (Z0h (Z0l b mb r ra rc Lb)).fp, Z0 b2 38 (ZS F b r last lg op), Z0 b6 27 (ZU na N.length nc ta TT.length tc ha HH.length hc_ ptm oa OO.length oc ba BB.length bc psk pl_ pla), (ZW pa PS pc), Z0G B2, Z0 b25 107 A0, (Z0s la L lc)] 18 rfl kr (fun Hx => (Hx.pk [4, 5, 6, 7, 8, 9, 10])) ?_
    intro w96 H97 S98
    let B0 := ZbJ b r
    refine hv0 0 S98 92 (pt b2 2) <| hv0 1 S98 93 (.agg ⟨B0⟩) ?_ (he := fun _ H' => (zlN (vs := B0) (H'.at 1 rfl)))
    refine hv0 2 S98 94 (pt b2 0) <| hv0 3 S98 95 (.agg ⟨(Z5f F)⟩) ?_ (he := fun _ H' => (zlN (vs := (Z5f F)) (H'.at 1 rfl)))
    refine hv0 4 S98 96 (pt b2 2) <| hv0 5 S98 97 (.agg ⟨B0⟩) ?_ (he := fun _ H' => (zlN (vs := B0) (H'.at 1 rfl)))
    refine hv0 6 S98 98 (pt b6 0) <| hv0 7 S98 99 Ad ?_ (he := fun _ H' => (zl1 (H'.cell 2 rfl rfl)))
    refine hv0 8 S98 100 (vi i) ?_
    obtain ⟨g99, o100, c101, e102, R103⟩ := SliceOf.atD hN nm0 (show i < N.length by omega)
    refine Z0V 9 rfl kr kr kr (fun _ _ _ h => h) S98 (Zc rfl) (d := 101) (v := (.pointer (some ⟨g99, o100 + ((i : Int)).toNat * 2, none⟩))) rfl (fun _ H' => (Z8 (E := 59) kr kr kn rfl e102 rfl om om)) ?_
    refine hv0 10 S98 102 (.agg ⟨([(vi ((N.getD i nm0).cl)), (vi ((N.getD i nm0).sq))] : LV)⟩) ?_ (he := fun _ H' => (ZX (vs := ([(vi ((N.getD i nm0).cl)), (vi ((N.getD i nm0).sq))] : LV)) rfl kr kr kn (H'.runR 0 rfl (Z08 R103 0 kr (show o100 + ((i : Int)).toNat * 2 = o100 + i * 2 + 0 by omega)) (by have hq := oN om _ (Z2o e102); exact hq))))
    refine hv0 13 S98 105 (vi i) <| hv0 14 S98 106 (.slice va xs.length vc) ?_
    refine Z5X 11 16 rfl rfl kr (Zc rfl) (Zc rfl) (fun Kq kq => ?_) (fun Kq kq => ?_)
    ·refine zdq 103 (Z6r w96 ((N.getD i nm0).cl) ((N.getD i nm0).sq)) H97 ?_
     intro w105 H106
     have S108 := H106.pk [4, 5, 6, 7, 8, 9, 10]
     refine kq _ _ S108 ?_
     refine Z5X 12 16 rfl rfl kr (Zc rfl) (Zc rfl) (fun Kq kq => ?_) (fun Kq kq => ?_)
     ·refine zdc 104 (Z4t w105 b mb r ra2 rc2 L2 (H106.fn [0, 1, 2, 3]) (Z1 ((N.getD i nm0).cl) 3) (1 + Z1 ((N.getD i nm0).sq) 4) none 0 z8 ListAt.nil (fun h => absurd h (Nat.lt_irrefl 0)) (by decide) om om om hnd2) ?_
      rintro _ w110 ⟨a112, c113, rfl, T111⟩
      obtain ⟨L115, hL115⟩ : ∃ L115 : List Signed, L115 = Zy L2 (yC (Z1 ((N.getD i nm0).cl) 3) (1 + Z1 ((N.getD i nm0).sq) 4) Zz z8) := ⟨_, rfl⟩
      rw [← hL115] at T111
      have H116 := H106.tl [Z0 b 179 (ZR mb), (Z00 mb L115), Z0 r 165 (Z0w a112 L115.length c113), (Z04 a112 L115 c113)] [0, 1, 2, 3] [4, 5, 6, 7, 8, 9, 10] T111 [0, 1, 2, 3, 4, 5, 6, 7, 8, 9, 10]
      refine ⟨_, rfl, ?_⟩
      obtain ⟨Y114, hY114⟩ : ∃ Y114 : Zj, Y114 = mkC L2 (Z1 ((N.getD i nm0).cl) 3) (1 + Z1 ((N.getD i nm0).sq) 4) Zz z8 := ⟨_, rfl⟩
      rw [← hY114]
      have hgY114 : Zds L115 Y114 := by rw [hL115, hY114]; exact Z6V _ _ _ _ _
      have ndL115 : L115.Nodup := by rw [hL115]; exact Z22 hnd2 _
      have llL115 : L115.length ≤ L2.length + 1 := by rw [hL115]; exact Z2g _ _
      have clY114 : Y114.cl = Z1 ((N.getD i nm0).cl) 3 := by rw [hY114]; rfl
      have sqY114 : Y114.seq = 1 + Z1 ((N.getD i nm0).sq) 4 := by rw [hY114]; rfl
      have lnY114 : Y114.len = z8.length := by rw [hY114]; rfl
      have hokY : Zco Y114 := ⟨by omega, by omega, by simp only [List.length_nil] at lnY114; omega⟩
      have S117 := H116.pk [4, 5, 6, 7, 8, 9, 10]
      refine kq _ _ S117 ?_
      refine Z5X 15 16 rfl rfl kr (Zc rfl) (Zc rfl) (fun Kq kq => ?_) (fun Kq kq => ?_)
      ·refine zdc 107 (Z4H w110 b mb r a112 c113 L115 (H116.fn [0, 1, 2, 3]) F 3 om Y114 hokY (i : Int) om ndL115 va vc xs (ListAt.nowD H116 4 rfl hxs hxo) hbd (Z5g Z2j (by decide) H116 [0, 1, 2, 3] 4 rfl rfl (by decide) hxs hxo)) ?_
       rintro _ w119 ⟨a120, c121, L122, a123, c124, D125, rfl, l129, k126, n127, l128, p130, T131⟩
       let Al := Z0 r 165 (Z0w a120 L122.length c121)
       let At := Z2W a123 D125 c124
       let Aw := Z04 a120 L122 c121
       let Bb := Z00 mb L122
       have H132 : Sat w [Z0 b 179 (ZR mb), Bb, Al, Aw, ZQ w (Z0h (Z0l b mb r ra rc Lb)).fp, Z0 b2 38 (ZS F b r last lg op), Z0 b6 27 (ZU na N.length nc ta TT.length tc ha HH.length hc_ ptm oa OO.length oc ba BB.length bc psk pl_ pla), (ZW pa PS pc), Z0G B2, Z0 b25 107 A0, (Z0s la L lc), At] w119 := (Sat.turnL (L' := [Z0 b 179 (ZR mb), Bb, Al, Aw, At]) (R := [ZQ w (Z0h (Z0l b mb r ra rc Lb)).fp, Z0 b2 38 (ZS F b r last lg op), Z0 b6 27 (ZU na N.length nc ta TT.length tc ha HH.length hc_ ptm oa OO.length oc ba BB.length bc psk pl_ pla), (ZW pa PS pc), Z0G B2, Z0 b25 107 A0, (Z0s la L lc)]) H116 [0, 1, 2, 3] [4, 5, 6, 7, 8, 9, 10] (by decide) kr rfl T131).pk [0, 1, 2, 3, 5, 6, 7, 8, 9, 10, 11, 4]
       refine ⟨_, rfl, ?_⟩
       have S133 := H132.pk [4, 5, 6, 7, 8, 9, 10]
       refine kq _ _ S133 <| zhy 16 ?_
       refine zda (Z1L) H132 ?_
       intro b135 w136 H137
       have S138 := H137.pk [4, 5, 6, 7, 8, 9, 10]
       refine kh S138 <| zhy 17 ?_
       let B6 := Z3J Y114 a123 D125.length c124
       refine Z1S B6 H137 12 ?_
       intro w140 (H141 : Sat w [Z0 b 179 (ZR mb), Bb, Al, Aw, ZQ w (Z0h (Z0l b mb r ra rc Lb)).fp, Z0 b2 38 (ZS F b r last lg op), Z0 b6 27 (ZU na N.length nc ta TT.length tc ha HH.length hc_ ptm oa OO.length oc ba BB.length bc psk pl_ pla), (ZW pa PS pc), Z0G B2, Z0 b25 107 A0, (Z0s la L lc), At, Z0 b135 76 B6] w140)
       have S143 := H141.pk [4, 5, 6, 7, 8, 9, 10]
       refine kh S143 <| zhf ?_
       have H144 := H141.pk [0, 1, 2, 3, 4, 5, 6, 7, 8, 9, 10, 11, 12]
       have hcb : CoB Y114 := by
        have q1 := (Z1M (Z2d L2 (yC (Z1 (N.getD i nm0).cl 3) (1 + Z1 (N.getD i nm0).sq 4) Zz z8))).2
        rw [← hL115] at q1
        have q2 : Y114.sb = 1000 + Z1 (N.getD i nm0).cl 3 := by rw [hY114]; rfl
        have q3 : Y114.sm ≤ (L115.length : Int) := by rw [hY114]; show Zr (Zy L2 (yC (Z1 (N.getD i nm0).cl 3) (1 + Z1 (N.getD i nm0).sq 4) Zz z8)) (yC (Z1 (N.getD i nm0).cl 3) (1 + Z1 (N.getD i nm0).sq 4) Zz z8) ≤ _; rw [← hL115]; exact q1
        simp only [List.length_nil] at lnY114
        exact ⟨⟨by omega, by omega, by omega⟩, by omega, by omega⟩
       have hsn : Z3q ⟨Y114.cl, Y114.seq⟩ := by rw [clY114, sqY114]; exact ⟨⟨by show 0 ≤ Z1 (N.getD i nm0).cl 3; omega, by show Z1 (N.getD i nm0).cl 3 < 3; omega⟩, by show 1 ≤ 1 + Z1 (N.getD i nm0).sq 4; omega, by show 1 + Z1 (N.getD i nm0).sq 4 ≤ 4; omega⟩
       refine ZH ?_ ⟨b135, a123, c124, D125, Y114, a120, c121, L122, rfl, hcb, hsn, l129, k126, n127, om, ((by rw [hL115]; exact Z3V : L2 <+: L115).trans p130), H144⟩
       exact zs
      refine zda (Z1L) H116 ?_
      intro b145 w146 H147
      have S148 := H147.pk [4, 5, 6, 7, 8, 9, 10]
      refine kq _ _ S148 <| zhy 15 ?_
      refine zdc 107 (Z4H w146 b mb r a112 c113 L115 (H147.fn [0, 1, 2, 3]) F 3 om Y114 hokY (i : Int) om ndL115 va vc xs (ListAt.nowD H147 4 rfl hxs hxo) hbd (Z5g Z2j (by decide) H147 [0, 1, 2, 3] 4 rfl rfl (by decide) hxs hxo)) ?_
      rintro _ w150 ⟨a151, c152, L153, a154, c155, D156, rfl, l160, k157, n158, l159, p161, T162⟩
      let B5 := Z0 r 165 (Z0w a151 L153.length c152)
      have H163 : Sat w [Z0 b 179 (ZR mb), (Z00 mb L153), B5, (Z04 a151 L153 c152), ZQ w (Z0h (Z0l b mb r ra rc Lb)).fp, Z0 b2 38 (ZS F b r last lg op), Z0 b6 27 (ZU na N.length nc ta TT.length tc ha HH.length hc_ ptm oa OO.length oc ba BB.length bc psk pl_ pla), (ZW pa PS pc), Z0G B2, Z0 b25 107 A0, (Z0s la L lc), Z0 b145 76 (Z1L), (Z2W a154 D156 c155)] w150 := (Sat.turnL (L' := [Z0 b 179 (ZR mb), (Z00 mb L153), B5, (Z04 a151 L153 c152), (Z2W a154 D156 c155)]) (R := [ZQ w (Z0h (Z0l b mb r ra rc Lb)).fp, Z0 b2 38 (ZS F b r last lg op), Z0 b6 27 (ZU na N.length nc ta TT.length tc ha HH.length hc_ ptm oa OO.length oc ba BB.length bc psk pl_ pla), (ZW pa PS pc), Z0G B2, Z0 b25 107 A0, (Z0s la L lc), Z0 b145 76 (Z1L)]) H147 [0, 1, 2, 3] [4, 5, 6, 7, 8, 9, 10, 11] (by decide) kr rfl T162).pk [0, 1, 2, 3, 5, 6, 7, 8, 9, 10, 11, 12, 4]
      refine ⟨_, rfl, ?_⟩
      have S164 := H163.pk [4, 5, 6, 7, 8, 9, 10]
      refine kh S164 <| zhy 17 ?_
      refine Z1S (Z3J Y114 a154 D156.length c155) H163 11 ?_
      intro w166 H167
      have S169 := H167.pk [4, 5, 6, 7, 8, 9, 10]
      refine kh S169 <| zhf ?_
      have H170 := H167.pk [0, 1, 2, 3, 4, 5, 6, 7, 8, 9, 10, 12, 11]
      have hcb : CoB Y114 := by
       have q1 := (Z1M (Z2d L2 (yC (Z1 (N.getD i nm0).cl 3) (1 + Z1 (N.getD i nm0).sq 4) Zz z8))).2
       rw [← hL115] at q1
       have q2 : Y114.sb = 1000 + Z1 (N.getD i nm0).cl 3 := by rw [hY114]; rfl
       have q3 : Y114.sm ≤ (L115.length : Int) := by rw [hY114]; show Zr (Zy L2 (yC (Z1 (N.getD i nm0).cl 3) (1 + Z1 (N.getD i nm0).sq 4) Zz z8)) (yC (Z1 (N.getD i nm0).cl 3) (1 + Z1 (N.getD i nm0).sq 4) Zz z8) ≤ _; rw [← hL115]; exact q1
       simp only [List.length_nil] at lnY114
       exact ⟨⟨by omega, by omega, by omega⟩, by omega, by omega⟩
      have hsn : Z3q ⟨Y114.cl, Y114.seq⟩ := by rw [clY114, sqY114]; exact ⟨⟨by show 0 ≤ Z1 (N.getD i nm0).cl 3; omega, by show Z1 (N.getD i nm0).cl 3 < 3; omega⟩, by show 1 ≤ 1 + Z1 (N.getD i nm0).sq 4; omega, by show 1 + Z1 (N.getD i nm0).sq 4 ≤ 4; omega⟩
      refine ZH ?_ ⟨b145, a154, c155, D156, Y114, a151, c152, L153, rfl, hcb, hsn, l160, k157, n158, om, ((by rw [hL115]; exact Z3V : L2 <+: L115).trans p161), H170⟩
      exact zs
     refine zda (Z1L) H106 ?_
     intro b171 w172 (H173 : Sat w [Z0 b 179 (ZR mb), Ak, Ab, Am, ZQ w (Z0h (Z0l b mb r ra rc Lb)).fp, Z0 b2 38 (ZS F b r last lg op), Z0 b6 27 (ZU na N.length nc ta TT.length tc ha HH.length hc_ ptm oa OO.length oc ba BB.length bc psk pl_ pla), (ZW pa PS pc), Z0G B2, Z0 b25 107 A0, (Z0s la L lc), Z0 b171 76 (Z1L)] w172)
     have S174 := H173.pk [4, 5, 6, 7, 8, 9, 10]
     refine kq _ _ S174 <| zhy 12 ?_
     refine zdc 104 (Z4t w172 b mb r ra2 rc2 L2 (H173.fn [0, 1, 2, 3]) (Z1 ((N.getD i nm0).cl) 3) (1 + Z1 ((N.getD i nm0).sq) 4) none 0 z8 ListAt.nil (fun h => absurd h (Nat.lt_irrefl 0)) (by decide) om om om hnd2) ?_
     rintro _ w176 ⟨a178, c179, rfl, T177⟩
     obtain ⟨L181, hL181⟩ : ∃ L181 : List Signed, L181 = Zy L2 (yC (Z1 ((N.getD i nm0).cl) 3) (1 + Z1 ((N.getD i nm0).sq) 4) Zz z8) := ⟨_, rfl⟩
     rw [← hL181] at T177
     have H182 := H173.tl [Z0 b 179 (ZR mb), (Z00 mb L181), Z0 r 165 (Z0w a178 L181.length c179), (Z04 a178 L181 c179)] [0, 1, 2, 3] [4, 5, 6, 7, 8, 9, 10, 11] T177 [0, 1, 2, 3, 4, 5, 6, 7, 8, 9, 10, 11]
     refine ⟨_, rfl, ?_⟩
     obtain ⟨Y180, hY180⟩ : ∃ Y180 : Zj, Y180 = mkC L2 (Z1 ((N.getD i nm0).cl) 3) (1 + Z1 ((N.getD i nm0).sq) 4) Zz z8 := ⟨_, rfl⟩
     rw [← hY180]
     have hgY180 : Zds L181 Y180 := by rw [hL181, hY180]; exact Z6V _ _ _ _ _
     have ndL181 : L181.Nodup := by rw [hL181]; exact Z22 hnd2 _
     have llL181 : L181.length ≤ L2.length + 1 := by rw [hL181]; exact Z2g _ _
     have clY180 : Y180.cl = Z1 ((N.getD i nm0).cl) 3 := by rw [hY180]; rfl
     have sqY180 : Y180.seq = 1 + Z1 ((N.getD i nm0).sq) 4 := by rw [hY180]; rfl
     have lnY180 : Y180.len = z8.length := by rw [hY180]; rfl
     have hokY : Zco Y180 := ⟨by omega, by omega, by simp only [List.length_nil] at lnY180; omega⟩
     have S183 := H182.pk [4, 5, 6, 7, 8, 9, 10]
     refine kh S183 <| zhy 15 ?_
     refine zdc 107 (Z4H w176 b mb r a178 c179 L181 (H182.fn [0, 1, 2, 3]) F 3 om Y180 hokY (i : Int) om ndL181 va vc xs (ListAt.nowD H182 4 rfl hxs hxo) hbd (Z5g Z2j (by decide) H182 [0, 1, 2, 3] 4 rfl rfl (by decide) hxs hxo)) ?_
     rintro _ w185 ⟨a186, c187, L188, a189, c190, D191, rfl, l195, k192, n193, l194, p196, T197⟩
     let B1 := Z0 r 165 (Z0w a186 L188.length c187)
     have H198 : Sat w [Z0 b 179 (ZR mb), (Z00 mb L188), B1, (Z04 a186 L188 c187), ZQ w (Z0h (Z0l b mb r ra rc Lb)).fp, Z0 b2 38 (ZS F b r last lg op), Z0 b6 27 (ZU na N.length nc ta TT.length tc ha HH.length hc_ ptm oa OO.length oc ba BB.length bc psk pl_ pla), (ZW pa PS pc), Z0G B2, Z0 b25 107 A0, (Z0s la L lc), Z0 b171 76 (Z1L), (Z2W a189 D191 c190)] w185 := (Sat.turnL (L' := [Z0 b 179 (ZR mb), (Z00 mb L188), B1, (Z04 a186 L188 c187), (Z2W a189 D191 c190)]) (R := [ZQ w (Z0h (Z0l b mb r ra rc Lb)).fp, Z0 b2 38 (ZS F b r last lg op), Z0 b6 27 (ZU na N.length nc ta TT.length tc ha HH.length hc_ ptm oa OO.length oc ba BB.length bc psk pl_ pla), (ZW pa PS pc), Z0G B2, Z0 b25 107 A0, (Z0s la L lc), Z0 b171 76 (Z1L)]) H182 [0, 1, 2, 3] [4, 5, 6, 7, 8, 9, 10, 11] (by decide) kr rfl T197).pk [0, 1, 2, 3, 5, 6, 7, 8, 9, 10, 11, 12, 4]
     refine ⟨_, rfl, ?_⟩
     have S199 := H198.pk [4, 5, 6, 7, 8, 9, 10]
     refine kh S199 <| zhy 17 ?_
     refine Z1S (Z3J Y180 a189 D191.length c190) H198 11 ?_
     intro w201 H202
     have S204 := H202.pk [4, 5, 6, 7, 8, 9, 10]
     refine kh S204 <| zhf ?_
     have H205 := H202.pk [0, 1, 2, 3, 4, 5, 6, 7, 8, 9, 10, 12, 11]
     have hcb : CoB Y180 := by
      have q1 := (Z1M (Z2d L2 (yC (Z1 (N.getD i nm0).cl 3) (1 + Z1 (N.getD i nm0).sq 4) Zz z8))).2
      rw [← hL181] at q1
      have q2 : Y180.sb = 1000 + Z1 (N.getD i nm0).cl 3 := by rw [hY180]; rfl
      have q3 : Y180.sm ≤ (L181.length : Int) := by rw [hY180]; show Zr (Zy L2 (yC (Z1 (N.getD i nm0).cl 3) (1 + Z1 (N.getD i nm0).sq 4) Zz z8)) (yC (Z1 (N.getD i nm0).cl 3) (1 + Z1 (N.getD i nm0).sq 4) Zz z8) ≤ _; rw [← hL181]; exact q1
      simp only [List.length_nil] at lnY180
      exact ⟨⟨by omega, by omega, by omega⟩, by omega, by omega⟩
     have hsn : Z3q ⟨Y180.cl, Y180.seq⟩ := by rw [clY180, sqY180]; exact ⟨⟨by show 0 ≤ Z1 (N.getD i nm0).cl 3; omega, by show Z1 (N.getD i nm0).cl 3 < 3; omega⟩, by show 1 ≤ 1 + Z1 (N.getD i nm0).sq 4; omega, by show 1 + Z1 (N.getD i nm0).sq 4 ≤ 4; omega⟩
     refine ZH ?_ ⟨b171, a189, c190, D191, Y180, a186, c187, L188, rfl, hcb, hsn, l195, k192, n193, om, ((by rw [hL181]; exact Z3V : L2 <+: L181).trans p196), H205⟩
     exact zs
    refine zda (Z1L) H97 ?_
    intro b206 w207 (H208 : Sat w [Z0 b 179 (ZR mb), Ak, Ab, Am, ZQ w (Z0h (Z0l b mb r ra rc Lb)).fp, Z0 b2 38 (ZS F b r last lg op), Z0 b6 27 (ZU na N.length nc ta TT.length tc ha HH.length hc_ ptm oa OO.length oc ba BB.length bc psk pl_ pla), (ZW pa PS pc), Z0G B2, Z0 b25 107 A0, (Z0s la L lc), Z0 b206 76 (Z1L)] w207)
    have S209 := H208.pk [4, 5, 6, 7, 8, 9, 10]
    refine kq _ _ S209 <| zhy 11 ?_
    refine zdq 103 (Z6r w207 ((N.getD i nm0).cl) ((N.getD i nm0).sq)) H208 ?_
    intro w211 H212
    have S214 := H212.pk [4, 5, 6, 7, 8, 9, 10]
    refine kh S214 <| zhy 12 ?_
    refine zdc 104 (Z4t w211 b mb r ra2 rc2 L2 (H212.fn [0, 1, 2, 3]) (Z1 ((N.getD i nm0).cl) 3) (1 + Z1 ((N.getD i nm0).sq) 4) none 0 z8 ListAt.nil (fun h => absurd h (Nat.lt_irrefl 0)) (by decide) om om om hnd2) ?_
    rintro _ w216 ⟨a218, c219, rfl, T217⟩
    obtain ⟨L221, hL221⟩ : ∃ L221 : List Signed, L221 = Zy L2 (yC (Z1 ((N.getD i nm0).cl) 3) (1 + Z1 ((N.getD i nm0).sq) 4) Zz z8) := ⟨_, rfl⟩
    rw [← hL221] at T217
    have H222 := H212.tl [Z0 b 179 (ZR mb), (Z00 mb L221), Z0 r 165 (Z0w a218 L221.length c219), (Z04 a218 L221 c219)] [0, 1, 2, 3] [4, 5, 6, 7, 8, 9, 10, 11] T217 [0, 1, 2, 3, 4, 5, 6, 7, 8, 9, 10, 11]
    refine ⟨_, rfl, ?_⟩
    obtain ⟨Y220, hY220⟩ : ∃ Y220 : Zj, Y220 = mkC L2 (Z1 ((N.getD i nm0).cl) 3) (1 + Z1 ((N.getD i nm0).sq) 4) Zz z8 := ⟨_, rfl⟩
    rw [← hY220]
    have hgY220 : Zds L221 Y220 := by rw [hL221, hY220]; exact Z6V _ _ _ _ _
    have ndL221 : L221.Nodup := by rw [hL221]; exact Z22 hnd2 _
    have llL221 : L221.length ≤ L2.length + 1 := by rw [hL221]; exact Z2g _ _
    have clY220 : Y220.cl = Z1 ((N.getD i nm0).cl) 3 := by rw [hY220]; rfl
    have sqY220 : Y220.seq = 1 + Z1 ((N.getD i nm0).sq) 4 := by rw [hY220]; rfl
    have lnY220 : Y220.len = z8.length := by rw [hY220]; rfl
    have hokY : Zco Y220 := ⟨by omega, by omega, by simp only [List.length_nil] at lnY220; omega⟩
    have S223 := H222.pk [4, 5, 6, 7, 8, 9, 10]
    refine kh S223 <| zhy 15 ?_
    refine zdc 107 (Z4H w216 b mb r a218 c219 L221 (H222.fn [0, 1, 2, 3]) F 3 om Y220 hokY (i : Int) om ndL221 va vc xs (ListAt.nowD H222 4 rfl hxs hxo) hbd (Z5g Z2j (by decide) H222 [0, 1, 2, 3] 4 rfl rfl (by decide) hxs hxo)) ?_
    rintro _ w225 ⟨a226, c227, L228, a229, c230, D231, rfl, l235, k232, n233, l234, p236, T237⟩
    let Ay := Z0 r 165 (Z0w a226 L228.length c227)
    have H238 : Sat w [Z0 b 179 (ZR mb), (Z00 mb L228), Ay, (Z04 a226 L228 c227), ZQ w (Z0h (Z0l b mb r ra rc Lb)).fp, Z0 b2 38 (ZS F b r last lg op), Z0 b6 27 (ZU na N.length nc ta TT.length tc ha HH.length hc_ ptm oa OO.length oc ba BB.length bc psk pl_ pla), (ZW pa PS pc), Z0G B2, Z0 b25 107 A0, (Z0s la L lc), Z0 b206 76 (Z1L), (Z2W a229 D231 c230)] w225 := (Sat.turnL (L' := [Z0 b 179 (ZR mb), (Z00 mb L228), Ay, (Z04 a226 L228 c227), (Z2W a229 D231 c230)]) (R := [ZQ w (Z0h (Z0l b mb r ra rc Lb)).fp, Z0 b2 38 (ZS F b r last lg op), Z0 b6 27 (ZU na N.length nc ta TT.length tc ha HH.length hc_ ptm oa OO.length oc ba BB.length bc psk pl_ pla), (ZW pa PS pc), Z0G B2, Z0 b25 107 A0, (Z0s la L lc), Z0 b206 76 (Z1L)]) H222 [0, 1, 2, 3] [4, 5, 6, 7, 8, 9, 10, 11] (by decide) kr rfl T237).pk [0, 1, 2, 3, 5, 6, 7, 8, 9, 10, 11, 12, 4]
    refine ⟨_, rfl, ?_⟩
    have S239 := H238.pk [4, 5, 6, 7, 8, 9, 10]
    refine kh S239 <| zhy 17 ?_
    refine Z1S (Z3J Y220 a229 D231.length c230) H238 11 ?_
    intro w241 H242
    have S244 := H242.pk [4, 5, 6, 7, 8, 9, 10]
    refine kh S244 <| zhf ?_
    have H245 := H242.pk [0, 1, 2, 3, 4, 5, 6, 7, 8, 9, 10, 12, 11]
    have hcb : CoB Y220 := by
     have q1 := (Z1M (Z2d L2 (yC (Z1 (N.getD i nm0).cl 3) (1 + Z1 (N.getD i nm0).sq 4) Zz z8))).2
     rw [← hL221] at q1
     have q2 : Y220.sb = 1000 + Z1 (N.getD i nm0).cl 3 := by rw [hY220]; rfl
     have q3 : Y220.sm ≤ (L221.length : Int) := by rw [hY220]; show Zr (Zy L2 (yC (Z1 (N.getD i nm0).cl 3) (1 + Z1 (N.getD i nm0).sq 4) Zz z8)) (yC (Z1 (N.getD i nm0).cl 3) (1 + Z1 (N.getD i nm0).sq 4) Zz z8) ≤ _; rw [← hL221]; exact q1
     simp only [List.length_nil] at lnY220
     exact ⟨⟨by omega, by omega, by omega⟩, by omega, by omega⟩
    have hsn : Z3q ⟨Y220.cl, Y220.seq⟩ := by rw [clY220, sqY220]; exact ⟨⟨by show 0 ≤ Z1 (N.getD i nm0).cl 3; omega, by show Z1 (N.getD i nm0).cl 3 < 3; omega⟩, by show 1 ≤ 1 + Z1 (N.getD i nm0).sq 4; omega, by show 1 + Z1 (N.getD i nm0).sq 4 ≤ 4; omega⟩
    refine ZH ?_ ⟨b206, a229, c230, D231, Y220, a226, c227, L228, rfl, hcb, hsn, l235, k232, n233, om, ((by rw [hL221]; exact Z3V : L2 <+: L221).trans p236), H245⟩
    exact zs
   rintro f246 w247 ⟨xb, da, dc, D, Y, ra3, rc3, L3, v249, hYb, hYs, hDl, hDs, hnd3, hl3, hpre23, H248⟩
   refine Zn 16 _ v249 ?_
   apply Z9
   let A6 := Z3J Y da D.length dc
   have H250 : Sat w [Z0G (stC (⟨Y, da, dc, D⟩ : CeR) :: B2), Z0 b 179 (ZR mb), (Z00 mb L3), Z0 r 165 (Z0w ra3 L3.length rc3), (Z04 ra3 L3 rc3), ZQ w (Z0h (Z0l b mb r ra rc Lb)).fp, Z0 b2 38 (ZS F b r last lg op), Z0 b6 27 (ZU na N.length nc ta TT.length tc ha HH.length hc_ ptm oa OO.length oc ba BB.length bc psk pl_ pla), (ZW pa PS pc), Z0 b25 107 A0, (Z0s la L lc), Z0 xb 76 A6] w247 := (H248.pk [8, 11, 0, 1, 2, 3, 4, 5, 6, 7, 9, 10, 12]).bag
   have H251 := H250.pk [1, 2, 3, 4, 5, 6, 7, 8, 0, 9, 10, 11]
   have hxT : CeT (stC (⟨Y, da, dc, D⟩ : CeR) :: B2) (⟨Y, da, dc, D⟩ : CeR) := ⟨hYb, fun i hi => hDs _ (Zcn (show i < D.length from hi)), by show D.length ≤ 12; omega, List.mem_cons_self⟩
   have htk : TabOk F L3 (stC (⟨Y, da, dc, D⟩ : CeR) :: B2) L := hti.more hpre23 Z2H
   refine ZG <| wv 109 (pt b25 0) <| wv 110 (pt b2 2) <| wv 111 (pt b2 3) <| zw1 112 (pt r 0) (H251.cell 5 rfl rfl) <| zwN 113 A6 (H251.at 11 rfl) <| zy <| zdc 114 (ZbC w247 b25 F 3 (q : Int) la lc L (stC (⟨Y, da, dc, D⟩ : CeR) :: B2) r ra3 rc3 L3 (H251.fn [9, 10, 8, 2, 3]) om (htk.ct) om hnd3 om om 0 (⟨Y, da, dc, D⟩ : CeR) hxT) ?_
   rintro _ w253 ⟨a254, r255, a256, c257, L258, a259, c260, B261, rfl, e262, y263, n264, l265, T266⟩
   let A2 := Z7O F ((q : Int)) a256 L258.length c257
   let A7 := Z0w a259 B261.length c260
   have H267 : Sat w [Z0 b 179 (ZR mb), (Z00 mb L3), Z0 r 165 A7, (Z04 a259 B261 c260), ZQ w (Z0h (Z0l b mb r ra rc Lb)).fp, Z0 b2 38 (ZS F b r last lg op), Z0 b6 27 (ZU na N.length nc ta TT.length tc ha HH.length hc_ ptm oa OO.length oc ba BB.length bc psk pl_ pla), (ZW pa PS pc), Z0G (stC (⟨Y, da, dc, D⟩ : CeR) :: B2), Z0 b25 107 A2, (Z0s a256 L258 c257), Z0 xb 76 A6] w253 := (Sat.turnL (L' := [Z0 b25 107 A2, (Z0s a256 L258 c257), Z0G (stC (⟨Y, da, dc, D⟩ : CeR) :: B2), Z0 r 165 A7, (Z04 a259 B261 c260)]) (R := [Z0 b 179 (ZR mb), (Z00 mb L3), ZQ w (Z0h (Z0l b mb r ra rc Lb)).fp, Z0 b2 38 (ZS F b r last lg op), Z0 b6 27 (ZU na N.length nc ta TT.length tc ha HH.length hc_ ptm oa OO.length oc ba BB.length bc psk pl_ pla), (ZW pa PS pc), Z0 xb 76 A6]) H251 [9, 10, 8, 2, 3] [0, 1, 4, 5, 6, 7, 11] (by decide) kr rfl T266).pk [5, 6, 3, 4, 7, 8, 9, 10, 2, 0, 1, 11]
   refine ⟨_, rfl, ?_⟩
   let As : Value := .agg ⟨(Z3c a254)⟩
   refine kk <| wv 108 (.tuple #[As, (vi r255)]) <| wv 115 As <| wv 116 (vi r255) <| zy <| zda (ZcG) H267 fun b269 w270 H271 => ?_
   refine kk <| zy <| Z1S (Z3c a254) H271 12 ?_
   intro w273 (H274 : Sat w [Z0 b 179 (ZR mb), (Z00 mb L3), Z0 r 165 A7, (Z04 a259 B261 c260), ZQ w (Z0h (Z0l b mb r ra rc Lb)).fp, Z0 b2 38 (ZS F b r last lg op), Z0 b6 27 (ZU na N.length nc ta TT.length tc ha HH.length hc_ ptm oa OO.length oc ba BB.length bc psk pl_ pla), (ZW pa PS pc), Z0G (stC (⟨Y, da, dc, D⟩ : CeR) :: B2), Z0 b25 107 A2, (Z0s a256 L258 c257), Z0 xb 76 A6, Z0 b269 113 (Z3c a254)] w273)
   refine kk <| wv 18 (vi r255) <| Z1a <| wv 117 (vi r255) <| wv 118 (.bool (decide (r255 = 0))) <| znt ?_
   let An : Value := .slice a256 L258.length c257
   let Av := ([(.slice a259 B261.length c260)] : LV)
   let Az := ([(vi F), (vi 3), (vi q), An] : LV)
   refine zid (fun b276 g277 => ?_) fun b276 g299 => ?_
   ·obtain ⟨hae, hLe⟩ := y263 (of_decide_eq_true b276)
    have hal : a254.r ≤ 9223372036854775807 ∧ a254.cl ≤ 9223372036854775807 ∧ a254.seq ≤ 9223372036854775807 ∧ 0 ≤ a254.t ∧ a254.t < 18446744073709551616 := by
     have q1 := hYb
     unfold CoB at q1
     have q2 := Zap hxT
     rw [hae]; exact ⟨by show (q : Int) ≤ _; omega, q1.1.1, q1.1.2.1, q2⟩
    refine Z0a H274 [Z0 r 165 A7, (Z04 a259 B261 c260), ZQ w (Z0h (Z0l b mb r ra rc Lb)).fp, Z0 b2 38 (ZS F b r last lg op), Z0 b6 27 (ZU na N.length nc ta TT.length tc ha HH.length hc_ ptm oa OO.length oc ba BB.length bc psk pl_ pla), (ZW pa PS pc), Z0G (stC (⟨Y, da, dc, D⟩ : CeR) :: B2), Z0 b25 107 A2, (Z0s a256 L258 c257), Z0 xb 76 A6, Z0 b269 113 (Z3c a254)] 7 rfl kr (fun Hx => (Hx.pk [2, 3, 4, 5, 6, 7, 8, 9, 10, 11, 12])) ?_
    intro w279 H280 S281
    refine hv0 0 S281 119 (pt b2 2) <| hv0 1 S281 120 (pt b2 2) <| hv0 2 S281 121 (pt b 0) ?_ (he := fun _ H' => (zl1 (H'.cell 3 rfl rfl)))
    refine hv0 3 S281 122 (vi q) <| hv0 4 S281 123 As ?_ (he := fun _ H' => (zlN (vs := (Z3c a254)) (H'.at 10 rfl)))
    refine zhy 5 ?_
    refine zdc 124 (Z4i w279 a254 hal) ?_
    rintro _ w283 ⟨u284, rfl, k285, p286, q287⟩
    have H288 := H280.addU p286 k285 q287
    obtain ⟨a289, c290, rfl⟩ := Z3 (H288.at 13 rfl)
    refine ⟨_, rfl, ?_⟩
    have hal2 := Z81 a254
    have S291 := H288.pk [2, 3, 4, 5, 6, 7, 8, 9, 10, 11, 12]
    refine kh S291 <| zhy 6 ?_
    refine zdc 125 (Z4w w283 b mb L3 (.slice a289 ((Z2L a254).length) c290) (Z2L a254) (H288.fn [0, 1, 13]) om (q : Int)) ?_
    rintro _ w293 ⟨rfl, T294⟩
    have H295 : Sat w [Z0 b 179 (ZR mb), (Z00 mb (Zy L3 (⟨(q : Int), (Z2L a254)⟩ : Signed))), Z0 r 165 A7, (Z04 a259 B261 c260), ZQ w (Z0h (Z0l b mb r ra rc Lb)).fp, Z0 b2 38 (ZS F b r last lg op), Z0 b6 27 (ZU na N.length nc ta TT.length tc ha HH.length hc_ ptm oa OO.length oc ba BB.length bc psk pl_ pla), (ZW pa PS pc), Z0G (stC (⟨Y, da, dc, D⟩ : CeR) :: B2), Z0 b25 107 A2, (Z0s a256 L258 c257), Z0 xb 76 A6, Z0 b269 113 (Z3c a254), (Z1q a289 (Z2L a254) c290)] w293 := (Sat.turnL (L' := [Z0 b 179 (ZR mb), (Z00 mb (Zy L3 (⟨(q : Int), (Z2L a254)⟩ : Signed))), (Z1q a289 (Z2L a254) c290)]) (R := [Z0 r 165 A7, (Z04 a259 B261 c260), ZQ w (Z0h (Z0l b mb r ra rc Lb)).fp, Z0 b2 38 (ZS F b r last lg op), Z0 b6 27 (ZU na N.length nc ta TT.length tc ha HH.length hc_ ptm oa OO.length oc ba BB.length bc psk pl_ pla), (ZW pa PS pc), Z0G (stC (⟨Y, da, dc, D⟩ : CeR) :: B2), Z0 b25 107 A2, (Z0s a256 L258 c257), Z0 xb 76 A6, Z0 b269 113 (Z3c a254)]) H288 [0, 1, 13] [2, 3, 4, 5, 6, 7, 8, 9, 10, 11, 12] (by decide) kr rfl T294).pk [0, 1, 3, 4, 5, 6, 7, 8, 9, 10, 11, 12, 13, 2]
    refine ⟨_, rfl, ?_⟩
    have S296 := H295.pk [2, 3, 4, 5, 6, 7, 8, 9, 10, 11, 12]
    refine kh S296 <| zhf <| Z6 <| ztn ?_
    have hbe : (Zy L3 (⟨(q : Int), (Z2L a254)⟩ : Signed)) = B261 := by rw [hLe, hae]; rfl
    have hpl3 : L3 <+: B261 := by rw [hLe]; exact Z3V
    have hnd4 : B261.Nodup := by rw [hLe]; exact Z22 hnd3 _
    have hll4 : B261.length ≤ L3.length + 1 := by rw [hLe]; exact Z2g _ _
    have H297 : Sat w [Z0 b 179 ([Ao] : LV), Z2S mb Z0c (Value.int .i64) (Z0o B261), Z0 r 165 Av, Zo 181 2 (.slice a259 B261.length c260) B261.length (B261.flatMap Z47), ZQ w (Z0h (Z0l b mb r ra rc Lb)).fp, Z0 b2 38 ([(vi F), (vi 3), (pt b 0), (pt r 0), (vi F), (vi 3), (vi 4), (vu last), (lg), (op)] : LV), Z0 b6 27 ([Ad, Ac, Aa, (vu ptm), A8, (.slice ba BB.length bc), (vi psk), (pl_), (vu pla)] : LV), Zo 71 6 (.slice pa PS.length pc) PS.length (PS.flatMap Z0T), Z0G (stC (⟨Y, da, dc, D⟩ : CeR) :: B2), Z0 b25 107 Az, Zo 76 38 An L258.length (L258.flatMap Z1o), Z0 xb 76 (([(vi Y.cl), (vi Y.seq)] : LV) ++ hc Y.h ++ ([(vi Y.len), (vi Y.sb), (vi Y.sm), (.slice da D.length dc)] : LV)), Z0 b269 113 (([(vi a254.r), (vi a254.cl), (vi a254.seq)] : LV) ++ hc a254.h ++ ([(vu a254.t), (vi a254.sb), (vi a254.sm)] : LV)), Zo 5 1 (.slice a289 ((Z2L a254).length) c290) ((Z2L a254).length) ((Z2L a254).flatMap Zx)] w293 := (by have q_ := H295; rw [hbe] at q_; exact q_)
    have htk2 : TabOk F B261 (stC (⟨Y, da, dc, D⟩ : CeR) :: B2) L258 ∧ L258.length ≤ i + 1 := by
     rcases l265 with e | ⟨h1, h2, k, h3, e⟩
     ·rw [e]; exact ⟨htk.more hpl3 Z62, by omega⟩
     rw [e]; exact ⟨(htk.put hxT hYs h1 h2 h3).more hpl3 Z62, by rw [List.length_append, List.length_take, List.length_cons, List.length_drop]; omega⟩
    obtain ⟨htk2, hLl2⟩ := htk2
    have hps3 : PsG F last tm B261 (stC (⟨Y, da, dc, D⟩ : CeR) :: B2) PS q := hps1.more (hpre23.trans hpl3) Z2H
    have hpre3 : Lb <+: B261 := (hpre1b.trans hpre23).trans hpl3
    refine ZG <| wv 60 (vi i) <| zwi 61 ((i : Int) + 1) <| wv 13 (vi ((i : Int) + 1)) <| ZL ?_
    have H298 := H297.pk [0, 1, 2, 3, 4, 5, 6, 7, 8, 9, 10]
    refine Za ?_ _ ⟨(i + 1), a259, c260, B261, (stC (⟨Y, da, dc, D⟩ : CeR) :: B2), a256, c257, L258, rfl, om, om, htk2, hps3, hnd4, om, om, hpre3, H298, rfl⟩ om
    exact zs
   refine Zp <| Z6 <| ztn ?_
   have hLe := n264 (of_decide_eq_false b276)
   have hbe : L3 = B261 := hLe.symm
   have hpl3 : L3 <+: B261 := by rw [hLe]; exact Zak
   have hnd4 : B261.Nodup := by rw [hLe]; exact hnd3
   have hll4 : B261.length ≤ L3.length + 1 := by rw [hLe]; omega
   have H301 : Sat w [Z0 b 179 ([Ao] : LV), Z2S mb Z0c (Value.int .i64) (Z0o B261), Z0 r 165 Av, Zo 181 2 (.slice a259 B261.length c260) B261.length (B261.flatMap Z47), ZQ w (Z0h (Z0l b mb r ra rc Lb)).fp, Z0 b2 38 ([(vi F), (vi 3), (pt b 0), (pt r 0), (vi F), (vi 3), (vi 4), (vu last), (lg), (op)] : LV), Z0 b6 27 ([Ad, Ac, Aa, (vu ptm), A8, (.slice ba BB.length bc), (vi psk), (pl_), (vu pla)] : LV), Zo 71 6 (.slice pa PS.length pc) PS.length (PS.flatMap Z0T), Z0G (stC (⟨Y, da, dc, D⟩ : CeR) :: B2), Z0 b25 107 Az, Zo 76 38 An L258.length (L258.flatMap Z1o), Z0 xb 76 (([(vi Y.cl), (vi Y.seq)] : LV) ++ hc Y.h ++ ([(vi Y.len), (vi Y.sb), (vi Y.sm), (.slice da D.length dc)] : LV)), Z0 b269 113 (([(vi a254.r), (vi a254.cl), (vi a254.seq)] : LV) ++ hc a254.h ++ ([(vu a254.t), (vi a254.sb), (vi a254.sm)] : LV))] w273 := (by have q_ := H274; rw [hbe] at q_; exact q_)
   have htk2 : TabOk F B261 (stC (⟨Y, da, dc, D⟩ : CeR) :: B2) L258 ∧ L258.length ≤ i + 1 := by
    rcases l265 with e | ⟨h1, h2, k, h3, e⟩
    ·rw [e]; exact ⟨htk.more hpl3 Z62, by omega⟩
    rw [e]; exact ⟨(htk.put hxT hYs h1 h2 h3).more hpl3 Z62, by rw [List.length_append, List.length_take, List.length_cons, List.length_drop]; omega⟩
   obtain ⟨htk2, hLl2⟩ := htk2
   have hps3 : PsG F last tm B261 (stC (⟨Y, da, dc, D⟩ : CeR) :: B2) PS q := hps1.more (hpre23.trans hpl3) Z2H
   have hpre3 : Lb <+: B261 := (hpre1b.trans hpre23).trans hpl3
   refine ZG <| wv 60 (vi i) <| zwi 61 ((i : Int) + 1) <| wv 13 (vi ((i : Int) + 1)) <| ZL ?_
   have H302 : Sat w [Z0 b 179 (ZR mb), (Z00 mb B261), Z0 r 165 A7, (Z04 a259 B261 c260), ZQ w (Z0h (Z0l b mb r ra rc Lb)).fp, Z0 b2 38 (ZS F b r last lg op), Z0 b6 27 (ZU na N.length nc ta TT.length tc ha HH.length hc_ ptm oa OO.length oc ba BB.length bc psk pl_ pla), (ZW pa PS pc), Z0G (stC (⟨Y, da, dc, D⟩ : CeR) :: B2), Z0 b25 107 A2, (Z0s a256 L258 c257)] w273 := H301.pk [0, 1, 2, 3, 4, 5, 6, 7, 8, 9, 10]
   refine Za ?_ _ ⟨(i + 1), a259, c260, B261, (stC (⟨Y, da, dc, D⟩ : CeR) :: B2), a256, c257, L258, rfl, om, om, htk2, hps3, hnd4, om, om, hpre3, H302, rfl⟩ om
   exact zs
  refine Z3L _ b44 ?_
  refine zxb <| ztn <| zsl <| wv 127 (pt b25 0) <| wv 128 (pt b2 2) <| wv 129 (pt b2 3) <| zw1 130 (pt r 0) (H42.cell 5 rfl rfl) <| wv 131 (pt b2 4) <| wv 132 (pt b2 6) <| zw1 133 (vi 4) (H42.cell 5 rfl rfl) ?_
  refine wv 134 (pt b2 4) <| wv 135 (pt b2 7) <| zw1 136 (vu last) (H42.cell 5 rfl rfl) <| wv 137 (vu tm) <| zy ?_
  obtain ⟨D311, d312⟩ : ∃ D_, D_ = Z2C L last tm := ⟨_, rfl⟩
  have hDt : TabOk F L2 B2 D311 := by rw [d312]; exact hti.span
  have hDl : D311.length ≤ 5 := by rw [d312]; have q := Zah (L := L) (last := last) (tm := tm); omega
  refine zdc 138 (Z8K w41 b25 F 3 (q : Int) la lc L B2 r ra2 rc2 L2 (H42.fn [9, 10, 8, 2, 3]) om (hti.ct) om hnd2 om 4 last tm (by decide) om) ?_
  rintro _ w304 ⟨a305, c306, a307, c308, rfl, T309⟩
  rw [← d312] at T309 ⊢
  let Ah := (⟨(q : Int), 4, tm, a305, c306, 0, 0, D311⟩ : PrR)
  obtain ⟨L310, hL310⟩ : ∃ L_ : List Signed, L_ = Zy L2 (⟨(q : Int), Z11 Ah⟩ : Signed) := ⟨_, rfl⟩
  rw [← hL310] at T309 ⊢
  obtain ⟨m313, hm313⟩ : ∃ m_ : Int, m_ = Zr L310 (⟨(q : Int), Z11 Ah⟩ : Signed) := ⟨_, rfl⟩
  rw [← hm313]
  let A3 := Z0 r 165 (Z0w a307 L310.length c308)
  let Ae := Z04 a307 L310 c308
  let Aj := Z0s a305 D311 c306
  have H314 := H42.tl [Z0 b25 107 A0, (Z0s la L lc), Z0G B2, A3, Ae, Aj] [9, 10, 8, 2, 3] [0, 1, 4, 5, 6, 7] T309 [6, 7, 3, 4, 8, 9, 10, 11, 2, 0, 1, 5]
  refine ⟨_, rfl, ?_⟩
  let A1 := Zbq ((q : Int)) tm a305 D311.length c306 m313
  refine kk <| wv 126 (.tuple #[(.agg ⟨A1⟩), (vi 0)]) <| wv 139 (.agg ⟨A1⟩) <| wv 140 (vi 0) <| zy <| zda (Z6P) H314 ?_
  intro b316 w317 (H318 : Sat w [Z0 b 179 (ZR mb), Ak, A3, Ae, ZQ w (Z0h (Z0l b mb r ra rc Lb)).fp, Z0 b2 38 (ZS F b r last lg op), Z0 b6 27 (ZU na N.length nc ta TT.length tc ha HH.length hc_ ptm oa OO.length oc ba BB.length bc psk pl_ pla), (ZW pa PS pc), Z0G B2, Z0 b25 107 A0, (Z0s la L lc), Aj, Z0 b316 71 (Z6P)] w317)
  refine kk <| zy <| Z1S A1 H318 12 fun w320 H321 => ?_
  refine kk <| wv 20 (vi 0) <| Z1a <| wv 141 (vi 0) <| wv 142 (.bool true) <| znt <| Z06 rfl ?_
  let Ax := Z0 b316 71 A1
  refine Z9 <| Z0a H321 [A3, Ae, ZQ w (Z0h (Z0l b mb r ra rc Lb)).fp, Z0 b2 38 (ZS F b r last lg op), Z0 b6 27 (ZU na N.length nc ta TT.length tc ha HH.length hc_ ptm oa OO.length oc ba BB.length bc psk pl_ pla), (ZW pa PS pc), Z0G B2, Z0 b25 107 A0, (Z0s la L lc), Aj, Ax] 7 rfl kr (fun Hx => (Hx.pk [2, 3, 4, 5, 6, 7, 8, 9, 10, 11, 12])) fun w323 H324 S325 => ?_
  refine hv0 0 S325 143 (pt b2 2) <| hv0 1 S325 144 (pt b2 2) <| hv0 2 S325 145 (pt b 0) ?_ (he := fun _ H' => (zl1 (H'.cell 3 rfl rfl)))
  refine hv0 3 S325 146 (vi q) <| hv0 4 S325 147 (.agg ⟨A1⟩) ?_ (he := fun _ H' => (zlN (vs := A1) (H'.at 10 rfl)))
  refine zhy 5 ?_
  refine zdc 148 (Z2Y w323 (⟨(q : Int), 4, tm, a305, c306, (q : Int), m313, D311⟩ : PrR) (ListAt.row Z13 (by decide) (H324.at 11 rfl)) (fun i hi => (hDt.ct _ (Z23 hi)).cb (H324.at 8 rfl)) (by show D311.length ≤ _; omega) ⟨by show (q : Int) ≤ _; omega, by show (4 : Int) ≤ _; omega, by show 0 ≤ tm; omega, by show tm < _; omega⟩) ?_
  rintro _ w327 ⟨u328, rfl, k329, p330, q331⟩
  have H332 : Sat w [Z0 b 179 (ZR mb), Ak, A3, Ae, ZQ w (Z0h (Z0l b mb r ra rc Lb)).fp, Z0 b2 38 (ZS F b r last lg op), Z0 b6 27 (ZU na N.length nc ta TT.length tc ha HH.length hc_ ptm oa OO.length oc ba BB.length bc psk pl_ pla), (ZW pa PS pc), Z0G B2, Z0 b25 107 A0, (Z0s la L lc), Aj, Ax, Zo 5 1 u328 ((Z11 (⟨(q : Int), 4, tm, a305, c306, (q : Int), m313, D311⟩ : PrR)).length) ((Z11 (⟨(q : Int), 4, tm, a305, c306, (q : Int), m313, D311⟩ : PrR)).flatMap Zx)] w327 := H324.addU p330 k329 q331
  obtain ⟨a333, c334, rfl⟩ := Z3 (H332.at 13 rfl)
  refine ⟨_, rfl, ?_⟩
  have hpl := Z8D (p := (⟨(q : Int), 4, tm, a305, c306, (q : Int), m313, D311⟩ : PrR)) (fun c hm => Nat.le_trans (hDt.ct _ hm).len (by decide)) (by show D311.length ≤ _; omega)
  have S335 := H332.pk [2, 3, 4, 5, 6, 7, 8, 9, 10, 11, 12]
  refine kh S335 <| zhy 6 ?_
  refine zdc 149 (Z4w w327 b mb L2 (.slice a333 ((Z11 (⟨(q : Int), 4, tm, a305, c306, (q : Int), m313, D311⟩ : PrR)).length) c334) (Z11 (⟨(q : Int), 4, tm, a305, c306, (q : Int), m313, D311⟩ : PrR)) (H332.fn [0, 1, 13]) om (q : Int)) ?_
  rintro _ w337 ⟨rfl, T338⟩
  have H339 := H332.tl [Z0 b 179 (ZR mb), (Z00 mb (Zy L2 (⟨(q : Int), (Z11 (⟨(q : Int), 4, tm, a305, c306, (q : Int), m313, D311⟩ : PrR))⟩ : Signed))), (Z1q a333 (Z11 (⟨(q : Int), 4, tm, a305, c306, (q : Int), m313, D311⟩ : PrR)) c334)] [0, 1, 13] [2, 3, 4, 5, 6, 7, 8, 9, 10, 11, 12] T338 [0, 1, 3, 4, 5, 6, 7, 8, 9, 10, 11, 12, 13, 2]
  refine ⟨_, rfl, ?_⟩
  have S340 := H339.pk [2, 3, 4, 5, 6, 7, 8, 9, 10, 11, 12]
  refine kh S340 <| zhf <| ztn <| ZG <| wv 150 (.slice pa PS.length pc) <| zwN 151 A1 (H339.at 12 rfl) <| zy <| Z2z 71 6 64 (.agg ⟨(Z6P)⟩) [(0, (.agg ⟨A1⟩))] A1 H339 ?_
  intro b342 w343 (H344 : Sat w [Z0 b 179 (ZR mb), (Z00 mb (Zy L2 (⟨(q : Int), (Z11 (⟨(q : Int), 4, tm, a305, c306, (q : Int), m313, D311⟩ : PrR))⟩ : Signed))), A3, Ae, ZQ w (Z0h (Z0l b mb r ra rc Lb)).fp, Z0 b2 38 (ZS F b r last lg op), Z0 b6 27 (ZU na N.length nc ta TT.length tc ha HH.length hc_ ptm oa OO.length oc ba BB.length bc psk pl_ pla), (ZW pa PS pc), Z0G B2, Z0 b25 107 A0, (Z0s la L lc), Aj, Ax, (Z1q a333 (Z11 (⟨(q : Int), 4, tm, a305, c306, (q : Int), m313, D311⟩ : PrR)) c334), Zo 71 6 (.slice (some ⟨b342, 0, none⟩) 1 1) 1 A1] w343)
  let B8 : Value := .slice (some ⟨b342, 0, none⟩) 1 1
  have H345 := H344.ct 14 rfl (Zo 71 6 B8 1 ([(⟨(q : Int), 4, tm, a305, c306, (q : Int), m313, D311⟩ : PrR)].flatMap Z0T)) (by rw [(show (A1 : LV) = [(⟨(q : Int), 4, tm, a305, c306, (q : Int), m313, D311⟩ : PrR)].flatMap Z0T by kernel_rfl)])
  refine kk <| zy <| Z0t (T := 41) (e := 71) (size := 6) (bytes := 64) rfl H345 kr 7 14 rfl rfl rfl rfl (Z0q Z0T Z6e [(⟨(q : Int), 4, tm, a305, c306, (q : Int), m313, D311⟩ : PrR)]) om om fun v347 w348 H349 => ?_
  have H352 := H349.ct 7 rfl (Zo 71 6 v347 ((PS ++ [(⟨(q : Int), 4, tm, a305, c306, (q : Int), m313, D311⟩ : PrR)]).length) ((PS ++ [(⟨(q : Int), 4, tm, a305, c306, (q : Int), m313, D311⟩ : PrR)]).flatMap Z0T)) ja
  obtain ⟨a350, c351, rfl⟩ := Z3 (H352.at 7 rfl)
  let A5 : Value := .slice a350 ((PS ++ [(⟨(q : Int), 4, tm, a305, c306, (q : Int), m313, D311⟩ : PrR)]).length) c351
  refine kk <| wv 10 A5 <| ZL <| Z6 <| ztn ?_
  have hbe : (Zy L2 (⟨(q : Int), (Z11 (⟨(q : Int), 4, tm, a305, c306, (q : Int), m313, D311⟩ : PrR))⟩ : Signed)) = L310 := by rw [hL310]; rfl
  have hnd5 : L310.Nodup := by rw [hL310]; exact Z22 hnd2 _
  have hll5 : L310.length ≤ L2.length + 1 := by rw [hL310]; exact Z2g _ _
  have hpp : L2 <+: L310 := by rw [hL310]; exact Z3V
  let Af := Zo 71 6 B8 1 ([(⟨(q : Int), 4, tm, a305, c306, (q : Int), m313, D311⟩ : PrR)].flatMap Z0T)
  have H353 : Sat w [Z0 b 179 ([Ao] : LV), Z2S mb Z0c (Value.int .i64) (Z0o L310), Z0 r 165 ([(.slice a307 L310.length c308)] : LV), Zo 181 2 (.slice a307 L310.length c308) L310.length (L310.flatMap Z47), ZQ w (Z0h (Z0l b mb r ra rc Lb)).fp, Z0 b2 38 ([(vi F), (vi 3), (pt b 0), (pt r 0), (vi F), (vi 3), (vi 4), (vu last), (lg), (op)] : LV), Z0 b6 27 ([Ad, Ac, Aa, (vu ptm), A8, (.slice ba BB.length bc), (vi psk), (pl_), (vu pla)] : LV), Zo 71 6 A5 ((PS ++ [(⟨(q : Int), 4, tm, a305, c306, (q : Int), m313, D311⟩ : PrR)]).length) ((PS ++ [(⟨(q : Int), 4, tm, a305, c306, (q : Int), m313, D311⟩ : PrR)]).flatMap Z0T), Z0G B2, Z0 b25 107 ([(vi F), (vi 3), (vi q), (.slice la L.length lc)] : LV), Zo 76 38 (.slice la L.length lc) L.length (L.flatMap Z1o), Zo 76 38 (.slice a305 D311.length c306) D311.length (D311.flatMap Z1o), Z0 b316 71 ([(vi q), (vi 4), (vu tm), (.slice a305 D311.length c306), (vi q), (vi m313)] : LV), Zo 5 1 (.slice a333 ((Z11 (⟨(q : Int), 4, tm, a305, c306, (q : Int), m313, D311⟩ : PrR)).length) c334) ((Z11 (⟨(q : Int), 4, tm, a305, c306, (q : Int), m313, D311⟩ : PrR)).length) ((Z11 (⟨(q : Int), 4, tm, a305, c306, (q : Int), m313, D311⟩ : PrR)).flatMap Zx), Af] w348 := (by have q_ := H352; rw [hbe] at q_; exact q_)
  let A4 := ceC (⟨(q : Int), 4, tm, a305, c306, (q : Int), m313, D311⟩ : PrR) :: B2
  let Ai := ZW a350 (PS ++ [(⟨(q : Int), 4, tm, a305, c306, (q : Int), m313, D311⟩ : PrR)]) c351
  have H354 : Sat w [Z0G A4, Z0 b 179 (ZR mb), (Z00 mb L310), A3, Ae, ZQ w (Z0h (Z0l b mb r ra rc Lb)).fp, Z0 b2 38 (ZS F b r last lg op), Z0 b6 27 (ZU na N.length nc ta TT.length tc ha HH.length hc_ ptm oa OO.length oc ba BB.length bc psk pl_ pla), Ai, Z0 b25 107 A0, (Z0s la L lc), Ax, (Z1q a333 (Z11 (⟨(q : Int), 4, tm, a305, c306, (q : Int), m313, D311⟩ : PrR)) c334), Af] w348 := (H353.pk [8, 11, 0, 1, 2, 3, 4, 5, 6, 7, 9, 10, 12, 13, 14]).bag
  have H355 := H354.pk [1, 2, 3, 4, 5, 6, 7, 8, 0, 9, 10, 11, 12, 13]
  have hpg : PrG F last tm L310 A4 (⟨(q : Int), 4, tm, a305, c306, (q : Int), m313, D311⟩ : PrR) := ⟨⟨by show 0 ≤ (q : Int); omega, by show (q : Int) < _; omega⟩, rfl, rfl, rfl, by rw [hm313, hL310]; exact Z8P (p := (q : Int)) (s := Z11 Ah) hnd2, hDl, List.mem_cons_self, hDt.more hpp Z2H, fun c hc => by rw [show ((⟨(q : Int), 4, tm, a305, c306, (q : Int), m313, D311⟩ : PrR)).C = Z2C L last tm from d312] at hc; exact Zch hc⟩
  have hps2 := (hps1.more hpp (Z2H (A := ceC (⟨(q : Int), 4, tm, a305, c306, (q : Int), m313, D311⟩ : PrR)))).add hpg rfl
  have hpre2 := hpre1b.trans hpp
  refine ZG <| wv 44 (vi q) <| zwi 45 ((q : Int) + 1) <| wv 11 (vi ((q : Int) + 1)) <| ZL ?_
  have H356 : Sat w [Z0 b 179 (ZR mb), (Z00 mb L310), A3, Ae, ZQ w (Z0h (Z0l b mb r ra rc Lb)).fp, Z0 b2 38 (ZS F b r last lg op), Z0 b6 27 (ZU na N.length nc ta TT.length tc ha HH.length hc_ ptm oa OO.length oc ba BB.length bc psk pl_ pla), Ai, Z0G A4] w348 := H355.pk [0, 1, 2, 3, 4, 5, 6, 7, 8]
  refine Za ?_ _ ⟨(q + 1), a307, c308, L310, A4, a350, c351, (PS ++ [(⟨(q : Int), 4, tm, a305, c306, (q : Int), m313, D311⟩ : PrR)]), rfl, (show (A5 : Value) = _ by first | rfl | go_num), om, hps2, hnd5, om, hpre2, H356, rfl⟩ om
  exact zs
 refine zxb <| ztn <| Z9 ?_
 have hqn : q = n := by omega
 refine ZG <| wv 21 (.slice none 0 0) <| znt <| Z9 <| zsl <| wv 22 (vi 0) <| znt <| Zh ?_
 have H359 := H17.addNil 86 34
 refine ZB ([21, 22, 23, 24] ++ List.range' 154 34) (fun F_ W_ m_ => ∃ (k : Nat) (B3 : List Ck) (osa : Option Addr) (osc : Nat) (OS : List OpR), F_ 22 = (vi k) ∧ F_ 21 = (.slice osa OS.length osc) ∧ (k ≤ 4) ∧ (k ≤ OO.length) ∧ (PsG F last tm L1 B3 PS n) ∧ (∀ o ∈ OS, OpG B3 o) ∧ (OS.length = k) ∧ Sat w [Z0 b 179 (ZR mb), (Z00 mb L1), Z0 r 165 A9, (Z04 ra1 L1 rc1), ZQ w (Z0h (Z0l b mb r ra rc Lb)).fp, Z0 b2 38 (ZS F b r last lg op), Z0 b6 27 (ZU na N.length nc ta TT.length tc ha HH.length hc_ ptm oa OO.length oc ba BB.length bc psk pl_ pla), (ZW pa PS pc), Z0G B3, (Z0I osa OS osc)] W_ ∧ m_ = 4 - k) _ ⟨0, B, none, 0, [], (show ((vi 0) : Value) = _ by first | rfl | go_num), (by first | rfl | go_num), (Nat.zero_le _), (Nat.zero_le _), (by rw [← hqn]; exact hps), (by simp), rfl, H359, rfl⟩ ?_
 rintro g360 w361 _ ⟨k, B3, osa, osc, OS, v363, v364, hk, hkO, hpsf, hos, hosl, H362, rfl⟩
 refine Zn 22 _ v363 ?_
 refine Zn 21 _ v364 ?_
 apply Z9
 refine Z1J [154, 155, 156, 157, 158, 159, 160, 161, 162] (fun G_ W_ => G_ 162 = (.bool (decide ((k : Int) < OO.length) && decide ((k : Int) < 4))) ∧ Sat w [Z0 b 179 (ZR mb), (Z00 mb L1), Z0 r 165 A9, (Z04 ra1 L1 rc1), ZQ w (Z0h (Z0l b mb r ra rc Lb)).fp, Z0 b2 38 (ZS F b r last lg op), Z0 b6 27 (ZU na N.length nc ta TT.length tc ha HH.length hc_ ptm oa OO.length oc ba BB.length bc psk pl_ pla), (ZW pa PS pc), Z0G B3, (Z0I osa OS osc)] W_) ?_ ?_
 ·let B7 : Value := .bool (decide ((k : Int) < OO.length))
  refine ZG <| wv 154 (vi k) <| wv 155 (pt b6 4) <| zw1 156 A8 (H362.cell 6 rfl rfl) <| wv 157 (vi OO.length) <| wv 158 B7 <| wv 159 B7 ?_
  refine zil 159 (fun b367 g368 => ?_) fun b367 g370 => ?_
  ·refine wy 5 159 true 160 (vi k) <| wy 5 159 true 161 (.bool (decide ((k : Int) < 4))) <| wv 162 (.bool (decide ((k : Int) < 4))) <| ZL <| ZH ?_ ⟨(congrArg Value.bool (show (decide ((k : Int) < 4)) = (decide ((k : Int) < OO.length) && decide ((k : Int) < 4)) by simp only [b367, Bool.true_and, Bool.false_and])), H362⟩
   exact zs
  iterate 2 refine wn 5 159 true ?_
  refine wv 162 (.bool false) <| ZL <| ZH ?_ ⟨(congrArg Value.bool (show false = (decide ((k : Int) < OO.length) && decide ((k : Int) < 4)) by simp only [b367, Bool.true_and, Bool.false_and])), H362⟩
  exact zs
 rintro f372 w373 ⟨v375, H374⟩
 refine Zn 162 _ v375 ?_
 refine (ZY (decide ((k : Int) < (OO.length : Int)) && decide ((k : Int) < 4))).elim (fun b376 => ?_) (fun b376 => ?_)
 ·refine Z48 _ b376 ?_
  refine Zp <| ztn <| Z9 <| Zh <| Z9 ?_
  have hb_k : (k : Int) < OO.length ∧ (k : Int) < 4 := by have q := b376; rw [Bool.and_eq_true, decide_eq_true_eq, decide_eq_true_eq] at q; exact q
  have hwk := Z1k (OO.getD k 0) 4 om
  refine ZG <| wv 165 (pt b6 4) <| zw1 166 A8 (H374.cell 6 rfl rfl) <| wv 167 (vi k) ?_
  obtain ⟨g377, o378, c379, e380, R381⟩ := SliceOf.atD hOO 0 (show k < OO.length by omega)
  let Aq : Value := .pointer (some ⟨g377, o378 + ((k : Int)).toNat * 1, none⟩)
  refine wv 168 Aq ?_ (hr := Z8 (E := 3) kr kr kn rfl e380 rfl om om)
  refine zw1 169 (vi (OO.getD k 0)) (H374.cellR 4 rfl (Z0f R381 0 kr (show o378 + ((k : Int)).toNat * 1 = o378 + k * 1 + 0 by omega)) (by have hq := oO om _ (Z2o e380); exact hq)) <| zy <| zdq 170 (Z1N w373 (OO.getD k 0) 4 om) H374 fun w383 H384 => ?_
  refine kk <| wv 23 (vi (Z1 (OO.getD k 0) 4)) <| Z1a <| wv 171 (vi (Z1 (OO.getD k 0) 4)) <| wv 172 (.int .u8 (Z1 (OO.getD k 0) 4)) ?_ (hr := Z0A (z := Z1 (OO.getD k 0) 4) kr (Z6n om))
  refine wv 24 (.int .u8 (Z1 (OO.getD k 0) 4)) <| znt ?_
  refine Z1J [24, 173, 174, 175, 176, 177, 178, 179] (fun G_ W_ => ∃ (bv : Int), G_ 24 = (.int .u8 (bv)) ∧ (0 ≤ bv ∧ bv ≤ 255) ∧ Sat w [Z0 b 179 (ZR mb), (Z00 mb L1), Z0 r 165 A9, (Z04 ra1 L1 rc1), ZQ w (Z0h (Z0l b mb r ra rc Lb)).fp, Z0 b2 38 (ZS F b r last lg op), Z0 b6 27 (ZU na N.length nc ta TT.length tc ha HH.length hc_ ptm oa OO.length oc ba BB.length bc psk pl_ pla), (ZW pa PS pc), Z0G B3, (Z0I osa OS osc)] W_) ?_ ?_
  ·refine zsl <| wv 173 (pt b6 4) <| zw1 174 A8 (H384.cell 6 rfl rfl) <| wv 175 (vi k) <| wv 176 Aq ?_ (hr := Z8 (E := 3) kr kr kn rfl e380 rfl om om)
   refine zw1 177 (vi (OO.getD k 0)) (H384.cellR 4 rfl (Z0f R381 0 kr (show o378 + ((k : Int)).toNat * 1 = o378 + k * 1 + 0 by omega)) (by have hq := oO om _ (Z2o e380); exact hq)) <| wv 178 (vi (Int.tmod (OO.getD k 0) 9)) ?_ (hr := Ze1 kr om)
   refine wv 179 (.bool (decide ((Int.tmod (OO.getD k 0) 9) = 8))) <| znt ?_
   refine zid (fun b387 g388 => ?_) fun b387 g390 => ?_
   ·refine ZG <| wv 24 (.int .u8 (99)) <| ZL <| ZH ?_ ⟨99, rfl, om, H384⟩
    exact zs
   refine Zp <| ZH ?_ ⟨Z1 (OO.getD k 0) 4, rfl, om, H384⟩
   exact zs
  rintro f392 w393 ⟨bv, v395, hbv, H394⟩
  refine Zn 24 _ v395 ?_
  refine ZG <| wv 180 (.slice osa OS.length osc) <| wv 181 (vi (Z1 (OO.getD k 0) 4)) <| zwi 182 (2 * (Z1 (OO.getD k 0) 4)) <| wv 183 (.int .u8 (bv)) <| zy <| Z2z 5 1 1 (.int .u8 (0)) [(0, (.int .u8 (bv)))] ([(.int .u8 (bv))] : LV) H394 fun b397 w398 H399 => ?_
  let B9 : Value := .slice (some ⟨b397, 0, none⟩) 1 1
  have H400 := H399.ct 10 rfl (Zo 5 1 B9 1 ([UInt8.ofNat (bv).toNat].flatMap Zx)) (by rw [Z33 om])
  refine kk <| wv 185 (.agg ⟨(Z4o (2 * (Z1 (OO.getD k 0) 4)) b397)⟩) <| zy <| Z2z 86 34 64 (.agg ⟨(([(vi 0), (.slice none 0 0)] : LV) ++ hc Zz)⟩) [(0, (.agg ⟨(Z4o (2 * (Z1 (OO.getD k 0) 4)) b397)⟩))] (Z4o (2 * (Z1 (OO.getD k 0) 4)) b397) H400 ?_
  intro b402 w403 (H404 : Sat w [Z0 b 179 (ZR mb), (Z00 mb L1), Z0 r 165 A9, (Z04 ra1 L1 rc1), ZQ w (Z0h (Z0l b mb r ra rc Lb)).fp, Z0 b2 38 (ZS F b r last lg op), Z0 b6 27 (ZU na N.length nc ta TT.length tc ha HH.length hc_ ptm oa OO.length oc ba BB.length bc psk pl_ pla), (ZW pa PS pc), Z0G B3, (Z0I osa OS osc), Zo 5 1 B9 1 ([UInt8.ofNat (bv).toNat].flatMap Zx), Zo 86 34 (.slice (some ⟨b402, 0, none⟩) 1 1) 1 (Z4o (2 * (Z1 (OO.getD k 0) 4)) b397)] w403)
  have H405 := H404.ct 11 rfl (Zo 86 34 (.slice (some ⟨b402, 0, none⟩) 1 1) 1 ([(⟨2 * (Z1 (OO.getD k 0) 4), (some ⟨b397, 0, none⟩), 1, [UInt8.ofNat (bv).toNat], Zz⟩ : OpR)].flatMap Z0J)) (by rw [(show ((Z4o (2 * (Z1 (OO.getD k 0) 4)) b397) : LV) = [(⟨2 * (Z1 (OO.getD k 0) 4), (some ⟨b397, 0, none⟩), 1, [UInt8.ofNat (bv).toNat], Zz⟩ : OpR)].flatMap Z0J by kernel_rfl)])
  refine kk <| zy <| Z0t (T := 42) (e := 86) (size := 34) (bytes := 64) rfl H405 kr 9 11 rfl rfl rfl rfl (Z0q Z0J Z4n [(⟨2 * (Z1 (OO.getD k 0) 4), (some ⟨b397, 0, none⟩), 1, [UInt8.ofNat (bv).toNat], Zz⟩ : OpR)]) om om fun v407 w408 H409 => ?_
  have H412 := H409.ct 9 rfl (Zo 86 34 v407 ((OS ++ [(⟨2 * (Z1 (OO.getD k 0) 4), (some ⟨b397, 0, none⟩), 1, [UInt8.ofNat (bv).toNat], Zz⟩ : OpR)]).length) ((OS ++ [(⟨2 * (Z1 (OO.getD k 0) 4), (some ⟨b397, 0, none⟩), 1, [UInt8.ofNat (bv).toNat], Zz⟩ : OpR)]).flatMap Z0J)) ja
  obtain ⟨a410, c411, rfl⟩ := Z3 (H412.at 9 rfl)
  refine kk <| wv 21 (.slice a410 ((OS ++ [(⟨2 * (Z1 (OO.getD k 0) 4), (some ⟨b397, 0, none⟩), 1, [UInt8.ofNat (bv).toNat], Zz⟩ : OpR)]).length) c411) <| ZL <| Z6 <| ztn ?_
  have H413 : Sat w [Z0G (opC (⟨2 * (Z1 (OO.getD k 0) 4), (some ⟨b397, 0, none⟩), 1, [UInt8.ofNat (bv).toNat], Zz⟩ : OpR) :: B3), Z0 b 179 (ZR mb), (Z00 mb L1), Z0 r 165 A9, (Z04 ra1 L1 rc1), ZQ w (Z0h (Z0l b mb r ra rc Lb)).fp, Z0 b2 38 (ZS F b r last lg op), Z0 b6 27 (ZU na N.length nc ta TT.length tc ha HH.length hc_ ptm oa OO.length oc ba BB.length bc psk pl_ pla), (ZW pa PS pc), (Z0I a410 (OS ++ [(⟨2 * (Z1 (OO.getD k 0) 4), (some ⟨b397, 0, none⟩), 1, [UInt8.ofNat (bv).toNat], Zz⟩ : OpR)]) c411), Zo 86 34 (.slice (some ⟨b402, 0, none⟩) 1 1) 1 ([(⟨2 * (Z1 (OO.getD k 0) 4), (some ⟨b397, 0, none⟩), 1, [UInt8.ofNat (bv).toNat], Zz⟩ : OpR)].flatMap Z0J)] w408 := (H412.pk [8, 10, 0, 1, 2, 3, 4, 5, 6, 7, 9, 11]).bag
  have H414 := H413.pk [1, 2, 3, 4, 5, 6, 7, 8, 0, 9, 10]
  refine ZG <| wv 163 (vi k) <| zwi 164 ((k : Int) + 1) <| wv 22 (vi ((k : Int) + 1)) <| ZL ?_
  have H415 : Sat w [Z0 b 179 (ZR mb), (Z00 mb L1), Z0 r 165 A9, (Z04 ra1 L1 rc1), ZQ w (Z0h (Z0l b mb r ra rc Lb)).fp, Z0 b2 38 (ZS F b r last lg op), Z0 b6 27 (ZU na N.length nc ta TT.length tc ha HH.length hc_ ptm oa OO.length oc ba BB.length bc psk pl_ pla), (ZW pa PS pc), Z0G (opC (⟨2 * (Z1 (OO.getD k 0) 4), (some ⟨b397, 0, none⟩), 1, [UInt8.ofNat (bv).toNat], Zz⟩ : OpR) :: B3), (Z0I a410 (OS ++ [(⟨2 * (Z1 (OO.getD k 0) 4), (some ⟨b397, 0, none⟩), 1, [UInt8.ofNat (bv).toNat], Zz⟩ : OpR)]) c411)] w408 := H414.pk [0, 1, 2, 3, 4, 5, 6, 7, 8, 9]
  refine Za ?_ _ ⟨(k + 1), (opC (⟨2 * (Z1 (OO.getD k 0) 4), (some ⟨b397, 0, none⟩), 1, [UInt8.ofNat (bv).toNat], Zz⟩ : OpR) :: B3), a410, c411, (OS ++ [(⟨2 * (Z1 (OO.getD k 0) 4), (some ⟨b397, 0, none⟩), 1, [UInt8.ofNat (bv).toNat], Zz⟩ : OpR)]), rfl, (show ((.slice a410 ((OS ++ [(⟨2 * (Z1 (OO.getD k 0) 4), (some ⟨b397, 0, none⟩), 1, [UInt8.ofNat (bv).toNat], Zz⟩ : OpR)]).length) c411) : Value) = _ by first | rfl | go_num), om, om, (hpsf.more Zak Z2H), (fun o ho => by rcases List.mem_append.1 ho with ho | ho; exact (hos o ho).more Z2H; rw [List.mem_singleton.1 ho]; exact ⟨⟨by show 0 ≤ 2 * _; omega, by show 2 * _ ≤ (6 : Int); omega⟩, rfl, List.mem_cons_self⟩), (by simp only [List.length_append, List.length_cons, List.length_nil]; omega), H415, rfl⟩ om
  exact zs
 refine Z3L _ b376 ?_
 refine zxb <| ztn <| zsl <| wv 25 (.slice none 0 0) <| znt <| Z9 <| zsl <| wv 26 (vi 0) <| znt <| Zh ?_
 have H416 := H374.addNil 89 2
 refine ZB ([25, 26, 27, 28, 29] ++ List.range' 188 55) (fun F_ W_ m_ => ∃ (j : Nat) (B4 : List Ck) (ra4 : Option Addr) (rc4 : Nat) (L4 : List Signed) (tsa : Option Addr) (tsc : Nat) (TS : List TbR), F_ 26 = (vi j) ∧ F_ 25 = (.slice tsa TS.length tsc) ∧ (j ≤ 3) ∧ (PsG F last tm L4 B4 PS n) ∧ (∀ o ∈ OS, OpG B4 o) ∧ (∀ t ∈ TS, TbG F L4 B4 t) ∧ (TS.length = j) ∧ (L4.Nodup) ∧ (L4.length ≤ 600 + 6 * j) ∧ (Lb <+: L4) ∧ Sat w [Z0 b 179 (ZR mb), (Z00 mb L4), Z0 r 165 (Z0w ra4 L4.length rc4), (Z04 ra4 L4 rc4), ZQ w (Z0h (Z0l b mb r ra rc Lb)).fp, Z0 b2 38 (ZS F b r last lg op), Z0 b6 27 (ZU na N.length nc ta TT.length tc ha HH.length hc_ ptm oa OO.length oc ba BB.length bc psk pl_ pla), (ZW pa PS pc), Z0G B4, (Z0I osa OS osc), (Z18 tsa TS tsc)] W_ ∧ m_ = 3 - j) _ ⟨0, B3, ra1, rc1, L1, none, 0, [], (show ((vi 0) : Value) = _ by first | rfl | go_num), (by first | rfl | go_num), (Nat.zero_le _), hpsf, hos, (by simp), rfl, hnd1, om, hpre1, H416, rfl⟩ ?_
 rintro g417 w418 _ ⟨j, B4, ra4, rc4, L4, tsa, tsc, TS, v420, v421, hj, hpsg, hos2, hts, htsl, hnd4, hl4, hpre4, H419, rfl⟩
 refine Zn 26 _ v420 ?_
 refine Zn 25 _ v421 ?_
 apply Z9
 refine Z1J [188, 189, 190, 191, 192, 193, 194, 195, 196] (fun G_ W_ => G_ 196 = (.bool (decide ((j : Int) < BB.length) && decide ((j : Int) < 3))) ∧ Sat w [Z0 b 179 (ZR mb), (Z00 mb L4), Z0 r 165 (Z0w ra4 L4.length rc4), (Z04 ra4 L4 rc4), ZQ w (Z0h (Z0l b mb r ra rc Lb)).fp, Z0 b2 38 (ZS F b r last lg op), Z0 b6 27 (ZU na N.length nc ta TT.length tc ha HH.length hc_ ptm oa OO.length oc ba BB.length bc psk pl_ pla), (ZW pa PS pc), Z0G B4, (Z0I osa OS osc), (Z18 tsa TS tsc)] W_) ?_ ?_
 ·refine ZG <| wv 188 (vi j) <| wv 189 (pt b6 5) <| zw1 190 (.slice ba BB.length bc) (H419.cell 6 rfl rfl) <| wv 191 (vi BB.length) <| wv 192 (.bool (decide ((j : Int) < BB.length))) <| wv 193 (.bool (decide ((j : Int) < BB.length))) ?_
  refine zil 193 (fun b424 g425 => ?_) fun b424 g427 => ?_
  ·refine wy 5 193 true 194 (vi j) <| wy 5 193 true 195 (.bool (decide ((j : Int) < 3))) <| wv 196 (.bool (decide ((j : Int) < 3))) <| ZL <| ZH ?_ ⟨(congrArg Value.bool (show (decide ((j : Int) < 3)) = (decide ((j : Int) < BB.length) && decide ((j : Int) < 3)) by simp only [b424, Bool.true_and, Bool.false_and])), H419⟩
   exact zs
  iterate 2 refine wn 5 193 true ?_
  refine wv 196 (.bool false) <| ZL <| ZH ?_ ⟨(congrArg Value.bool (show false = (decide ((j : Int) < BB.length) && decide ((j : Int) < 3)) by simp only [b424, Bool.true_and, Bool.false_and])), H419⟩
  exact zs
 rintro f429 w430 ⟨v432, H431⟩
 refine Zn 196 _ v432 ?_
 refine (ZY (decide ((j : Int) < (BB.length : Int)) && decide ((j : Int) < 3))).elim (fun b433 => ?_) (fun b433 => ?_)
 ·refine Z48 _ b433 ?_
  refine Zp <| ztn <| Z9 <| Zh <| Z9 ?_
  have hb_j : (j : Int) < BB.length ∧ (j : Int) < 3 := by have q := b433; rw [Bool.and_eq_true, decide_eq_true_eq, decide_eq_true_eq] at q; exact q
  have hwt := Z1k (BB.getD j 0) 4 om
  refine ZG <| wv 199 (pt b6 5) <| zw1 200 (.slice ba BB.length bc) (H431.cell 6 rfl rfl) <| wv 201 (vi j) ?_
  obtain ⟨g434, o435, c436, e437, R438⟩ := SliceOf.atD hBB 0 (show j < BB.length by omega)
  refine wv 202 (.pointer (some ⟨g434, o435 + ((j : Int)).toNat * 1, none⟩)) ?_ (hr := Z8 (E := 3) kr kr kn rfl e437 rfl om om)
  refine zw1 203 (vi (BB.getD j 0)) (H431.cellR 4 rfl (Z0f R438 0 kr (show o435 + ((j : Int)).toNat * 1 = o435 + j * 1 + 0 by omega)) (by have hq := oB om _ (Z2o e437); exact hq)) <| zy <| zdq 204 (Z1N w430 (BB.getD j 0) 4 om) H431 fun w440 H441 => ?_
  refine kk <| zwi 205 (2 * (Z1 (BB.getD j 0) 4)) <| wv 206 (.agg ⟨([(vi (2 * (Z1 (BB.getD j 0) 4))), (.slice none 0 0)] : LV)⟩) <| zy <| zda ([(vi 0), (.slice none 0 0)] : LV) H441 fun b444 w445 H446 => ?_
  refine kk <| zy <| Z1S ([(vi (2 * (Z1 (BB.getD j 0) 4))), (.slice none 0 0)] : LV) H446 11 ?_
  intro w448 (H449 : Sat w [Z0 b 179 (ZR mb), (Z00 mb L4), Z0 r 165 (Z0w ra4 L4.length rc4), (Z04 ra4 L4 rc4), ZQ w (Z0h (Z0l b mb r ra rc Lb)).fp, Z0 b2 38 (ZS F b r last lg op), Z0 b6 27 (ZU na N.length nc ta TT.length tc ha HH.length hc_ ptm oa OO.length oc ba BB.length bc psk pl_ pla), (ZW pa PS pc), Z0G B4, (Z0I osa OS osc), (Z18 tsa TS tsc), Z0 b444 89 ([(vi (2 * (Z1 (BB.getD j 0) 4))), (.slice none 0 0)] : LV)] w448)
  refine kk <| znt <| Z9 <| zsl <| wv 28 (vi 0) <| znt <| Zh ?_
  have H451 := H449.addNil 122 4
  refine ZB ([28, 29] ++ List.range' 207 32) (fun F_ W_ m_ => ∃ (e : Nat) (ra5 : Option Addr) (rc5 : Nat) (L5 : List Signed) (dda : Option Addr) (ddc : Nat) (DD : List Z1s), F_ 28 = (vi e) ∧ ((e : Int) ≤ 2 * F + 1) ∧ (DenG F L5 (2 * (Z1 (BB.getD j 0) 4)) DD e) ∧ (L5.Nodup) ∧ (L5.length ≤ L4.length + e) ∧ (L4 <+: L5) ∧ Sat w [Z0 b 179 (ZR mb), (Z00 mb L5), Z0 r 165 (Z0w ra5 L5.length rc5), (Z04 ra5 L5 rc5), ZQ w (Z0h (Z0l b mb r ra rc Lb)).fp, Z0 b2 38 (ZS F b r last lg op), Z0 b6 27 (ZU na N.length nc ta TT.length tc ha HH.length hc_ ptm oa OO.length oc ba BB.length bc psk pl_ pla), (ZW pa PS pc), Z0G B4, (Z0I osa OS osc), (Z18 tsa TS tsc), Z0 b444 89 (Z0W (2 * (Z1 (BB.getD j 0) 4)) dda DD.length ddc), (Z1Y dda DD ddc)] W_ ∧ m_ = 5 - e) _ ⟨0, ra4, rc4, L4, none, 0, [], (show ((vi 0) : Value) = _ by first | rfl | go_num), om, DenG.nil, hnd4, om, (List.prefix_refl _), H451, rfl⟩ ?_
  rintro g452 w453 _ ⟨e, ra5, rc5, L5, dda, ddc, DD, v455, he, hdn, hnd5, hl5, hpre5, H454, rfl⟩
  refine Zn 28 _ v455 ?_
  have hdnl := hdn.length
  refine Z9 <| zsl <| wv 207 (vi e) <| wv 208 (pt b2 0) <| zwN 209 (Z5f F) (H454.at 5 rfl) <| zy <| zdq 210 (Z5R w453 F 3 om) H454 fun w458 H459 => ?_
  refine kk <| wv 211 (.bool (decide ((e : Int) < (2 * F + 1)))) <| znt ?_
  refine zid (fun b461 g462 => ?_) fun b461 g535 => ?_
  ·refine Zp <| ztn <| Z9 <| Zh <| zsl <| wv 214 (vi e) <| wv 215 (pt b444 0) <| zw1 216 (vi (2 * (Z1 (BB.getD j 0) 4))) (H459.cell 11 rfl rfl) <| wv 217 (.agg ⟨(Z2R ((e : Int)) (2 * (Z1 (BB.getD j 0) 4)))⟩) <| zy ?_
   refine zda (Z8y) H459 ?_
   intro b465 w466 H467
   refine kk <| zy <| Z1S (Z2R ((e : Int)) (2 * (Z1 (BB.getD j 0) 4))) H467 13 ?_
   intro w469 (H470 : Sat w [Z0 b 179 (ZR mb), (Z00 mb L5), Z0 r 165 (Z0w ra5 L5.length rc5), (Z04 ra5 L5 rc5), ZQ w (Z0h (Z0l b mb r ra rc Lb)).fp, Z0 b2 38 (ZS F b r last lg op), Z0 b6 27 (ZU na N.length nc ta TT.length tc ha HH.length hc_ ptm oa OO.length oc ba BB.length bc psk pl_ pla), (ZW pa PS pc), Z0G B4, (Z0I osa OS osc), (Z18 tsa TS tsc), Z0 b444 89 (Z0W (2 * (Z1 (BB.getD j 0) 4)) dda DD.length ddc), (Z1Y dda DD ddc), Z0 b465 122 (Z2R ((e : Int)) (2 * (Z1 (BB.getD j 0) 4)))] w469)
   refine kk <| znt <| Z9 <| Z0Z H470 [Z0 b 179 (ZR mb), (Z00 mb L5), ZQ w (Z0h (Z0l b mb r ra rc Lb)).fp, Z0 b2 38 (ZS F b r last lg op), Z0 b6 27 (ZU na N.length nc ta TT.length tc ha HH.length hc_ ptm oa OO.length oc ba BB.length bc psk pl_ pla), (ZW pa PS pc), Z0G B4, (Z0I osa OS osc), (Z18 tsa TS tsc), Z0 b444 89 (Z0W (2 * (Z1 (BB.getD j 0) 4)) dda DD.length ddc), (Z1Y dda DD ddc), Z0 b465 122 (Z2R ((e : Int)) (2 * (Z1 (BB.getD j 0) 4)))] [8] 9 rfl kr (fun Hx => (Hx.pk [0, 1, 4, 5, 6, 7, 8, 9, 10, 11, 12, 13])) fun w472 H473 S474 => ?_
   refine zkp 0 S474 218 (pt b2 2) <| zkp 1 S474 219 (pt b2 3) <| zkv 2 S474 220 (pt r 0) ?_ (he := fun _ H' => (zl1 (H'.cell 3 rfl rfl)))
   refine zkp 3 S474 221 (vi e) <| zkv 4 S474 222 (.agg ⟨(Z2R ((e : Int)) (2 * (Z1 (BB.getD j 0) 4)))⟩) ?_ (he := fun _ H' => (zlN (vs := (Z2R ((e : Int)) (2 * (Z1 (BB.getD j 0) 4)))) (H'.at 11 rfl)))
   refine zky 5 ?_
   refine zdc 223 (Z3U w472 (⟨(e : Int), 2 * (Z1 (BB.getD j 0) 4), 0, 0⟩ : Z1s) ⟨by show (e : Int) ≤ _; omega, by show 2 * (Z1 (BB.getD j 0) 4) ≤ _; omega⟩) ?_
   rintro _ w476 ⟨u477, rfl, k478, p479, q480⟩
   have H481 := H473.addU p479 k478 q480
   obtain ⟨a482, c483, rfl⟩ := Z3 (H481.at 14 rfl)
   refine ⟨_, rfl, ?_⟩
   have hdl := Z5i (e : Int) (2 * (Z1 (BB.getD j 0) 4))
   have S484 := H481.pk [0, 1, 4, 5, 6, 7, 8, 9, 10, 11, 12, 13]
   refine ke S484 <| zky 6 ?_
   refine zdc 224 (Z2F w476 r ra5 rc5 L5 (.slice a482 ((Z0m (e : Int) (2 * (Z1 (BB.getD j 0) 4))).length) c483) (Z0m (e : Int) (2 * (Z1 (BB.getD j 0) 4))) (H481.fn [2, 3, 14]) om hnd5 (e : Int)) ?_
   rintro _ w486 ⟨a488, c489, rfl, T487⟩
   have H490 : Sat w [Z0 b 179 (ZR mb), (Z00 mb L5), Z0 r 165 (Z0w a488 ((Zy L5 (⟨(e : Int), (Z0m (e : Int) (2 * (Z1 (BB.getD j 0) 4)))⟩ : Signed)).length) c489), (Z04 a488 (Zy L5 (⟨(e : Int), (Z0m (e : Int) (2 * (Z1 (BB.getD j 0) 4)))⟩ : Signed)) c489), ZQ w (Z0h (Z0l b mb r ra rc Lb)).fp, Z0 b2 38 (ZS F b r last lg op), Z0 b6 27 (ZU na N.length nc ta TT.length tc ha HH.length hc_ ptm oa OO.length oc ba BB.length bc psk pl_ pla), (ZW pa PS pc), Z0G B4, (Z0I osa OS osc), (Z18 tsa TS tsc), Z0 b444 89 (Z0W (2 * (Z1 (BB.getD j 0) 4)) dda DD.length ddc), (Z1Y dda DD ddc), Z0 b465 122 (Z2R ((e : Int)) (2 * (Z1 (BB.getD j 0) 4))), (Z1q a482 (Z0m (e : Int) (2 * (Z1 (BB.getD j 0) 4))) c483)] w486 := (Sat.turnL (L' := [Z0 r 165 (Z0w a488 ((Zy L5 (⟨(e : Int), (Z0m (e : Int) (2 * (Z1 (BB.getD j 0) 4)))⟩ : Signed)).length) c489), (Z04 a488 (Zy L5 (⟨(e : Int), (Z0m (e : Int) (2 * (Z1 (BB.getD j 0) 4)))⟩ : Signed)) c489), (Z1q a482 (Z0m (e : Int) (2 * (Z1 (BB.getD j 0) 4))) c483)]) (R := [Z0 b 179 (ZR mb), (Z00 mb L5), ZQ w (Z0h (Z0l b mb r ra rc Lb)).fp, Z0 b2 38 (ZS F b r last lg op), Z0 b6 27 (ZU na N.length nc ta TT.length tc ha HH.length hc_ ptm oa OO.length oc ba BB.length bc psk pl_ pla), (ZW pa PS pc), Z0G B4, (Z0I osa OS osc), (Z18 tsa TS tsc), Z0 b444 89 (Z0W (2 * (Z1 (BB.getD j 0) 4)) dda DD.length ddc), (Z1Y dda DD ddc), Z0 b465 122 (Z2R ((e : Int)) (2 * (Z1 (BB.getD j 0) 4)))]) H481 [2, 3, 14] [0, 1, 4, 5, 6, 7, 8, 9, 10, 11, 12, 13] (by decide) kr rfl T487).pk [3, 4, 0, 1, 5, 6, 7, 8, 9, 10, 11, 12, 13, 14, 2]
   refine ⟨_, rfl, ?_⟩
   have S491 := H490.pk [0, 1, 4, 5, 6, 7, 8, 9, 10, 11, 12, 13]
   refine ke S491 <| zkp 7 S491 225 (pt b465 2) <| Z2B 8 (Sat w [Z0 b 179 (ZR mb), (Z00 mb L5), ZQ w (Z0h (Z0l b mb r ra rc Lb)).fp, Z0 b2 38 (ZS F b r last lg op), Z0 b6 27 (ZU na N.length nc ta TT.length tc ha HH.length hc_ ptm oa OO.length oc ba BB.length bc psk pl_ pla), (ZW pa PS pc), Z0G B4, (Z0I osa OS osc), (Z18 tsa TS tsc), Z0 b444 89 (Z0W (2 * (Z1 (BB.getD j 0) 4)) dda DD.length ddc), (Z1Y dda DD ddc)]) rfl kr (Zc rfl) rfl (fun Kq kq => ?_)
   refine zds ([(vi e), (vi (Zr (Zy L5 (⟨(e : Int), (Z0m (e : Int) (2 * (Z1 (BB.getD j 0) 4)))⟩ : Signed)) (⟨(e : Int), (Z0m (e : Int) (2 * (Z1 (BB.getD j 0) 4)))⟩ : Signed)))] : LV) (Z1K ((e : Int)) (2 * (Z1 (BB.getD j 0) 4)) (Zr (Zy L5 (⟨(e : Int), (Z0m (e : Int) (2 * (Z1 (BB.getD j 0) 4)))⟩ : Signed)) (⟨(e : Int), (Z0m (e : Int) (2 * (Z1 (BB.getD j 0) 4)))⟩ : Signed))) H490 13 ?_
   intro w493 H494
   have S496 := H494.pk [0, 1, 4, 5, 6, 7, 8, 9, 10, 11, 12]
   refine kq _ _ S496 <| zhf <| ztn <| Z9 ?_
   obtain ⟨L6, hL6⟩ : ∃ L_ : List Signed, L_ = (Zy L5 (⟨(e : Int), (Z0m (e : Int) (2 * (Z1 (BB.getD j 0) 4)))⟩ : Signed)) := ⟨_, rfl⟩
   have hnd6 : L6.Nodup := by rw [hL6]; exact Z22 hnd5 _
   have hll6 : L6.length ≤ L5.length + 1 := by rw [hL6]; exact Z2g _ _
   have hps5 : L5 <+: L6 := by rw [hL6]; exact Z3V
   have H497 : Sat w [Z0 b 179 ([Ao] : LV), Z2S mb Z0c (Value.int .i64) (Z0o L5), Z0 r 165 ([(.slice a488 L6.length c489)] : LV), Zo 181 2 (.slice a488 L6.length c489) L6.length (L6.flatMap Z47), ZQ w (Z0h (Z0l b mb r ra rc Lb)).fp, Z0 b2 38 ([(vi F), (vi 3), (pt b 0), (pt r 0), (vi F), (vi 3), (vi 4), (vu last), (lg), (op)] : LV), Z0 b6 27 ([Ad, Ac, Aa, (vu ptm), A8, (.slice ba BB.length bc), (vi psk), (pl_), (vu pla)] : LV), Zo 71 6 (.slice pa PS.length pc) PS.length (PS.flatMap Z0T), Z0G B4, Zo 86 34 (.slice osa OS.length osc) OS.length (OS.flatMap Z0J), Zo 89 2 (.slice tsa TS.length tsc) TS.length (TS.flatMap Z16), Z0 b444 89 ([(vi (2 * (Z1 (BB.getD j 0) 4))), (.slice dda DD.length ddc)] : LV), Zo 122 4 (.slice dda DD.length ddc) DD.length (DD.flatMap Z4v), Z0 b465 122 ([(vi e), (vi (2 * (Z1 (BB.getD j 0) 4))), (vi e), (vi (Zr (Zy L5 (⟨(e : Int), (Z0m (e : Int) (2 * (Z1 (BB.getD j 0) 4)))⟩ : Signed)) (⟨(e : Int), (Z0m (e : Int) (2 * (Z1 (BB.getD j 0) 4)))⟩ : Signed)))] : LV), Zo 5 1 (.slice a482 ((Z0m (e : Int) (2 * (Z1 (BB.getD j 0) 4))).length) c483) ((Z0m (e : Int) (2 * (Z1 (BB.getD j 0) 4))).length) ((Z0m (e : Int) (2 * (Z1 (BB.getD j 0) 4))).flatMap Zx)] w493 := (by rw [hL6]; exact H494)
   have hmk6 : Zr (Zy L5 (⟨(e : Int), (Z0m (e : Int) (2 * (Z1 (BB.getD j 0) 4)))⟩ : Signed)) (⟨(e : Int), (Z0m (e : Int) (2 * (Z1 (BB.getD j 0) 4)))⟩ : Signed) = Zr L6 ⟨(e : Int), Z0m (e : Int) (2 * (Z1 (BB.getD j 0) 4))⟩ := by rw [hL6]
   have H498 : Sat w [Z0 b 179 ([Ao] : LV), Z2S mb Z0c (Value.int .i64) (Z0o L5), Z0 r 165 ([(.slice a488 L6.length c489)] : LV), Zo 181 2 (.slice a488 L6.length c489) L6.length (L6.flatMap Z47), ZQ w (Z0h (Z0l b mb r ra rc Lb)).fp, Z0 b2 38 ([(vi F), (vi 3), (pt b 0), (pt r 0), (vi F), (vi 3), (vi 4), (vu last), (lg), (op)] : LV), Z0 b6 27 ([Ad, Ac, Aa, (vu ptm), A8, (.slice ba BB.length bc), (vi psk), (pl_), (vu pla)] : LV), Zo 71 6 (.slice pa PS.length pc) PS.length (PS.flatMap Z0T), Z0G B4, Zo 86 34 (.slice osa OS.length osc) OS.length (OS.flatMap Z0J), Zo 89 2 (.slice tsa TS.length tsc) TS.length (TS.flatMap Z16), Z0 b444 89 ([(vi (2 * (Z1 (BB.getD j 0) 4))), (.slice dda DD.length ddc)] : LV), Zo 122 4 (.slice dda DD.length ddc) DD.length (DD.flatMap Z4v), Z0 b465 122 ([(vi e), (vi (2 * (Z1 (BB.getD j 0) 4))), (vi e), (vi (Zr L6 ⟨(e : Int), Z0m (e : Int) (2 * (Z1 (BB.getD j 0) 4))⟩))] : LV), Zo 5 1 (.slice a482 ((Z0m (e : Int) (2 * (Z1 (BB.getD j 0) 4))).length) c483) ((Z0m (e : Int) (2 * (Z1 (BB.getD j 0) 4))).length) ((Z0m (e : Int) (2 * (Z1 (BB.getD j 0) 4))).flatMap Zx)] w493 := (by rw [← hmk6]; exact H497)
   refine Z0a H498 [Z0 r 165 (Z0w a488 L6.length c489), (Z04 a488 L6 c489), ZQ w (Z0h (Z0l b mb r ra rc Lb)).fp, Z0 b2 38 (ZS F b r last lg op), Z0 b6 27 (ZU na N.length nc ta TT.length tc ha HH.length hc_ ptm oa OO.length oc ba BB.length bc psk pl_ pla), (ZW pa PS pc), Z0G B4, (Z0I osa OS osc), (Z18 tsa TS tsc), Z0 b444 89 (Z0W (2 * (Z1 (BB.getD j 0) 4)) dda DD.length ddc), (Z1Y dda DD ddc), Z0 b465 122 (Z1K ((e : Int)) (2 * (Z1 (BB.getD j 0) 4)) (Zr L6 ⟨(e : Int), Z0m (e : Int) (2 * (Z1 (BB.getD j 0) 4))⟩)), (Z1q a482 (Z0m (e : Int) (2 * (Z1 (BB.getD j 0) 4))) c483)] 7 rfl kr (fun Hx => (Hx.pk [2, 3, 4, 5, 6, 7, 8, 9, 10, 11, 12, 13, 14])) ?_
   intro w499 H500 S501
   refine hv0 0 S501 226 (pt b2 2) <| hv0 1 S501 227 (pt b2 2) <| hv0 2 S501 228 (pt b 0) ?_ (he := fun _ H' => (zl1 (H'.cell 3 rfl rfl)))
   refine hv0 3 S501 229 (vi e) <| hv0 4 S501 230 (.agg ⟨(Z1K ((e : Int)) (2 * (Z1 (BB.getD j 0) 4)) (Zr L6 ⟨(e : Int), Z0m (e : Int) (2 * (Z1 (BB.getD j 0) 4))⟩))⟩) ?_ (he := fun _ H' => (zlN (vs := (Z1K ((e : Int)) (2 * (Z1 (BB.getD j 0) 4)) (Zr L6 ⟨(e : Int), Z0m (e : Int) (2 * (Z1 (BB.getD j 0) 4))⟩))) (H'.at 11 rfl)))
   refine zhy 5 ?_
   refine zdc 231 (Z3U w499 (⟨(e : Int), 2 * (Z1 (BB.getD j 0) 4), (e : Int), Zr L6 ⟨(e : Int), Z0m (e : Int) (2 * (Z1 (BB.getD j 0) 4))⟩⟩ : Z1s) ⟨by show (e : Int) ≤ _; omega, by show 2 * (Z1 (BB.getD j 0) 4) ≤ _; omega⟩) ?_
   rintro _ w503 ⟨u504, rfl, k505, p506, q507⟩
   have H508 : Sat w [Z0 b 179 (ZR mb), (Z00 mb L5), Z0 r 165 (Z0w a488 L6.length c489), (Z04 a488 L6 c489), ZQ w (Z0h (Z0l b mb r ra rc Lb)).fp, Z0 b2 38 (ZS F b r last lg op), Z0 b6 27 (ZU na N.length nc ta TT.length tc ha HH.length hc_ ptm oa OO.length oc ba BB.length bc psk pl_ pla), (ZW pa PS pc), Z0G B4, (Z0I osa OS osc), (Z18 tsa TS tsc), Z0 b444 89 (Z0W (2 * (Z1 (BB.getD j 0) 4)) dda DD.length ddc), (Z1Y dda DD ddc), Z0 b465 122 (Z1K ((e : Int)) (2 * (Z1 (BB.getD j 0) 4)) (Zr L6 ⟨(e : Int), Z0m (e : Int) (2 * (Z1 (BB.getD j 0) 4))⟩)), (Z1q a482 (Z0m (e : Int) (2 * (Z1 (BB.getD j 0) 4))) c483), Zo 5 1 u504 ((Z0m (e : Int) (2 * (Z1 (BB.getD j 0) 4))).length) ((Z0m (e : Int) (2 * (Z1 (BB.getD j 0) 4))).flatMap Zx)] w503 := H500.addU p506 k505 q507
   obtain ⟨a509, c510, rfl⟩ := Z3 (H508.at 15 rfl)
   refine ⟨_, rfl, ?_⟩
   have hdl := Z5i (e : Int) (2 * (Z1 (BB.getD j 0) 4))
   have S511 := H508.pk [2, 3, 4, 5, 6, 7, 8, 9, 10, 11, 12, 13, 14]
   refine kh S511 <| zhy 6 ?_
   refine zdc 232 (Z4w w503 b mb L5 (.slice a509 ((Z0m (e : Int) (2 * (Z1 (BB.getD j 0) 4))).length) c510) (Z0m (e : Int) (2 * (Z1 (BB.getD j 0) 4))) (H508.fn [0, 1, 15]) om (e : Int)) ?_
   rintro _ w513 ⟨rfl, T514⟩
   have H515 := H508.tl [Z0 b 179 (ZR mb), (Z00 mb (Zy L5 (⟨(e : Int), (Z0m (e : Int) (2 * (Z1 (BB.getD j 0) 4)))⟩ : Signed))), (Z1q a509 (Z0m (e : Int) (2 * (Z1 (BB.getD j 0) 4))) c510)] [0, 1, 15] [2, 3, 4, 5, 6, 7, 8, 9, 10, 11, 12, 13, 14] T514 [0, 1, 3, 4, 5, 6, 7, 8, 9, 10, 11, 12, 13, 14, 15, 2]
   refine ⟨_, rfl, ?_⟩
   have S516 := H515.pk [2, 3, 4, 5, 6, 7, 8, 9, 10, 11, 12, 13, 14]
   refine kh S516 <| zhf <| ztn ?_
   have H517 : Sat w [Z0 b 179 ([Ao] : LV), Z2S mb Z0c (Value.int .i64) (Z0o L6), Z0 r 165 ([(.slice a488 L6.length c489)] : LV), Zo 181 2 (.slice a488 L6.length c489) L6.length (L6.flatMap Z47), ZQ w (Z0h (Z0l b mb r ra rc Lb)).fp, Z0 b2 38 ([(vi F), (vi 3), (pt b 0), (pt r 0), (vi F), (vi 3), (vi 4), (vu last), (lg), (op)] : LV), Z0 b6 27 ([Ad, Ac, Aa, (vu ptm), A8, (.slice ba BB.length bc), (vi psk), (pl_), (vu pla)] : LV), Zo 71 6 (.slice pa PS.length pc) PS.length (PS.flatMap Z0T), Z0G B4, Zo 86 34 (.slice osa OS.length osc) OS.length (OS.flatMap Z0J), Zo 89 2 (.slice tsa TS.length tsc) TS.length (TS.flatMap Z16), Z0 b444 89 ([(vi (2 * (Z1 (BB.getD j 0) 4))), (.slice dda DD.length ddc)] : LV), Zo 122 4 (.slice dda DD.length ddc) DD.length (DD.flatMap Z4v), Z0 b465 122 ([(vi e), (vi (2 * (Z1 (BB.getD j 0) 4))), (vi e), (vi (Zr L6 ⟨(e : Int), Z0m (e : Int) (2 * (Z1 (BB.getD j 0) 4))⟩))] : LV), Zo 5 1 (.slice a482 ((Z0m (e : Int) (2 * (Z1 (BB.getD j 0) 4))).length) c483) ((Z0m (e : Int) (2 * (Z1 (BB.getD j 0) 4))).length) ((Z0m (e : Int) (2 * (Z1 (BB.getD j 0) 4))).flatMap Zx), Zo 5 1 (.slice a509 ((Z0m (e : Int) (2 * (Z1 (BB.getD j 0) 4))).length) c510) ((Z0m (e : Int) (2 * (Z1 (BB.getD j 0) 4))).length) ((Z0m (e : Int) (2 * (Z1 (BB.getD j 0) 4))).flatMap Zx)] w513 := (by have q_ := H515; rw [← hL6] at q_; exact q_)
   refine ZG <| wv 233 (pt b444 1) <| zw1 234 (.slice dda DD.length ddc) (H517.cell 11 rfl rfl) <| zwN 235 (Z1K ((e : Int)) (2 * (Z1 (BB.getD j 0) 4)) (Zr L6 ⟨(e : Int), Z0m (e : Int) (2 * (Z1 (BB.getD j 0) 4))⟩)) (H517.at 13 rfl) <| zy <| Z2z 122 4 32 (.agg ⟨(Z8y)⟩) [(0, (.agg ⟨(Z1K ((e : Int)) (2 * (Z1 (BB.getD j 0) 4)) (Zr L6 ⟨(e : Int), Z0m (e : Int) (2 * (Z1 (BB.getD j 0) 4))⟩))⟩))] (Z1K ((e : Int)) (2 * (Z1 (BB.getD j 0) 4)) (Zr L6 ⟨(e : Int), Z0m (e : Int) (2 * (Z1 (BB.getD j 0) 4))⟩)) H517 ?_
   intro b519 w520 (H521 : Sat w [Z0 b 179 (ZR mb), (Z00 mb L6), Z0 r 165 (Z0w a488 L6.length c489), (Z04 a488 L6 c489), ZQ w (Z0h (Z0l b mb r ra rc Lb)).fp, Z0 b2 38 (ZS F b r last lg op), Z0 b6 27 (ZU na N.length nc ta TT.length tc ha HH.length hc_ ptm oa OO.length oc ba BB.length bc psk pl_ pla), (ZW pa PS pc), Z0G B4, (Z0I osa OS osc), (Z18 tsa TS tsc), Z0 b444 89 (Z0W (2 * (Z1 (BB.getD j 0) 4)) dda DD.length ddc), (Z1Y dda DD ddc), Z0 b465 122 (Z1K ((e : Int)) (2 * (Z1 (BB.getD j 0) 4)) (Zr L6 ⟨(e : Int), Z0m (e : Int) (2 * (Z1 (BB.getD j 0) 4))⟩)), (Z1q a482 (Z0m (e : Int) (2 * (Z1 (BB.getD j 0) 4))) c483), (Z1q a509 (Z0m (e : Int) (2 * (Z1 (BB.getD j 0) 4))) c510), Zo 122 4 (.slice (some ⟨b519, 0, none⟩) 1 1) 1 (Z1K ((e : Int)) (2 * (Z1 (BB.getD j 0) 4)) (Zr L6 ⟨(e : Int), Z0m (e : Int) (2 * (Z1 (BB.getD j 0) 4))⟩))] w520)
   have H522 := H521.ct 16 rfl (Zo 122 4 (.slice (some ⟨b519, 0, none⟩) 1 1) 1 ([(⟨(e : Int), 2 * (Z1 (BB.getD j 0) 4), (e : Int), Zr L6 ⟨(e : Int), Z0m (e : Int) (2 * (Z1 (BB.getD j 0) 4))⟩⟩ : Z1s)].flatMap Z4v)) (by rw [(show ((Z1K ((e : Int)) (2 * (Z1 (BB.getD j 0) 4)) (Zr L6 ⟨(e : Int), Z0m (e : Int) (2 * (Z1 (BB.getD j 0) 4))⟩)) : LV) = [(⟨(e : Int), 2 * (Z1 (BB.getD j 0) 4), (e : Int), Zr L6 ⟨(e : Int), Z0m (e : Int) (2 * (Z1 (BB.getD j 0) 4))⟩⟩ : Z1s)].flatMap Z4v by kernel_rfl)])
   refine kk <| zy <| Z0t (T := 87) (e := 122) (size := 4) (bytes := 32) rfl H522 kr 12 16 rfl rfl rfl rfl (Z0q Z4v ZbN [(⟨(e : Int), 2 * (Z1 (BB.getD j 0) 4), (e : Int), Zr L6 ⟨(e : Int), Z0m (e : Int) (2 * (Z1 (BB.getD j 0) 4))⟩⟩ : Z1s)]) om om fun v524 w525 H526 => ?_
   have H529 := H526.ct 12 rfl (Zo 122 4 v524 ((DD ++ [(⟨(e : Int), 2 * (Z1 (BB.getD j 0) 4), (e : Int), Zr L6 ⟨(e : Int), Z0m (e : Int) (2 * (Z1 (BB.getD j 0) 4))⟩⟩ : Z1s)]).length) ((DD ++ [(⟨(e : Int), 2 * (Z1 (BB.getD j 0) 4), (e : Int), Zr L6 ⟨(e : Int), Z0m (e : Int) (2 * (Z1 (BB.getD j 0) 4))⟩⟩ : Z1s)]).flatMap Z4v)) ja
   obtain ⟨a527, c528, rfl⟩ := Z3 (H529.at 12 rfl)
   refine kk <| wv 238 (pt b444 1) <| zy <| zds (Z0w a527 ((DD ++ [(⟨(e : Int), 2 * (Z1 (BB.getD j 0) 4), (e : Int), Zr L6 ⟨(e : Int), Z0m (e : Int) (2 * (Z1 (BB.getD j 0) 4))⟩⟩ : Z1s)]).length) c528) (Z0W (2 * (Z1 (BB.getD j 0) 4)) a527 ((DD ++ [(⟨(e : Int), 2 * (Z1 (BB.getD j 0) 4), (e : Int), Zr L6 ⟨(e : Int), Z0m (e : Int) (2 * (Z1 (BB.getD j 0) 4))⟩⟩ : Z1s)]).length) c528) H529 11 ?_
   intro w531 (H532 : Sat w [Z0 b 179 (ZR mb), (Z00 mb L6), Z0 r 165 (Z0w a488 L6.length c489), (Z04 a488 L6 c489), ZQ w (Z0h (Z0l b mb r ra rc Lb)).fp, Z0 b2 38 (ZS F b r last lg op), Z0 b6 27 (ZU na N.length nc ta TT.length tc ha HH.length hc_ ptm oa OO.length oc ba BB.length bc psk pl_ pla), (ZW pa PS pc), Z0G B4, (Z0I osa OS osc), (Z18 tsa TS tsc), Z0 b444 89 (Z0W (2 * (Z1 (BB.getD j 0) 4)) a527 ((DD ++ [(⟨(e : Int), 2 * (Z1 (BB.getD j 0) 4), (e : Int), Zr L6 ⟨(e : Int), Z0m (e : Int) (2 * (Z1 (BB.getD j 0) 4))⟩⟩ : Z1s)]).length) c528), (Z1Y a527 (DD ++ [(⟨(e : Int), 2 * (Z1 (BB.getD j 0) 4), (e : Int), Zr L6 ⟨(e : Int), Z0m (e : Int) (2 * (Z1 (BB.getD j 0) 4))⟩⟩ : Z1s)]) c528), Z0 b465 122 (Z1K ((e : Int)) (2 * (Z1 (BB.getD j 0) 4)) (Zr L6 ⟨(e : Int), Z0m (e : Int) (2 * (Z1 (BB.getD j 0) 4))⟩)), (Z1q a482 (Z0m (e : Int) (2 * (Z1 (BB.getD j 0) 4))) c483), (Z1q a509 (Z0m (e : Int) (2 * (Z1 (BB.getD j 0) 4))) c510), Zo 122 4 (.slice (some ⟨b519, 0, none⟩) 1 1) 1 ([(⟨(e : Int), 2 * (Z1 (BB.getD j 0) 4), (e : Int), Zr L6 ⟨(e : Int), Z0m (e : Int) (2 * (Z1 (BB.getD j 0) 4))⟩⟩ : Z1s)].flatMap Z4v)] w531)
   refine kk <| ZL <| Z6 <| ztn ?_
   have hdn2 := (hdn.more hps5).add (d := (⟨(e : Int), 2 * (Z1 (BB.getD j 0) 4), (e : Int), Zr L6 ⟨(e : Int), Z0m (e : Int) (2 * (Z1 (BB.getD j 0) 4))⟩⟩ : Z1s)) rfl (by unfold Z0Q inB; rw [decide_eq_true (show 0 ≤ (e : Int) by omega), decide_eq_true (show (e : Int) < 3 * F + 1 by omega), decide_eq_true (show 0 ≤ (2 * (Z1 (BB.getD j 0) 4) : Int) by omega), decide_eq_true rfl, Z7r (by rw [hL6]; exact Z2d _ _) rfl]; rfl) ⟨by show (e : Int) ≤ _; omega, by show (2 * (Z1 (BB.getD j 0) 4) : Int) ≤ _; omega⟩ rfl
   refine ZG <| wv 212 (vi e) <| zwi 213 ((e : Int) + 1) <| wv 28 (vi ((e : Int) + 1)) <| ZL ?_
   have H534 := H532.pk [0, 1, 2, 3, 4, 5, 6, 7, 8, 9, 10, 11, 12]
   refine Za ?_ _ ⟨(e + 1), a488, c489, L6, a527, c528, (DD ++ [(⟨(e : Int), 2 * (Z1 (BB.getD j 0) 4), (e : Int), Zr L6 ⟨(e : Int), Z0m (e : Int) (2 * (Z1 (BB.getD j 0) 4))⟩⟩ : Z1s)]), rfl, om, hdn2, hnd6, om, (hpre5.trans hps5), H534, rfl⟩ om
   exact zs
  refine zxb <| ztn ?_
  have heF : (e : Int) = 2 * F + 1 := by omega
  refine ZG <| wv 239 (.slice tsa TS.length tsc) <| zwN 240 (Z0W (2 * (Z1 (BB.getD j 0) 4)) dda DD.length ddc) (H459.at 11 rfl) <| zy <| Z2z 89 2 32 (.agg ⟨([(vi 0), (.slice none 0 0)] : LV)⟩) [(0, (.agg ⟨(Z0W (2 * (Z1 (BB.getD j 0) 4)) dda DD.length ddc)⟩))] (Z0W (2 * (Z1 (BB.getD j 0) 4)) dda DD.length ddc) H459 ?_
  intro b538 w539 (H540 : Sat w [Z0 b 179 (ZR mb), (Z00 mb L5), Z0 r 165 (Z0w ra5 L5.length rc5), (Z04 ra5 L5 rc5), ZQ w (Z0h (Z0l b mb r ra rc Lb)).fp, Z0 b2 38 (ZS F b r last lg op), Z0 b6 27 (ZU na N.length nc ta TT.length tc ha HH.length hc_ ptm oa OO.length oc ba BB.length bc psk pl_ pla), (ZW pa PS pc), Z0G B4, (Z0I osa OS osc), (Z18 tsa TS tsc), Z0 b444 89 (Z0W (2 * (Z1 (BB.getD j 0) 4)) dda DD.length ddc), (Z1Y dda DD ddc), Zo 89 2 (.slice (some ⟨b538, 0, none⟩) 1 1) 1 (Z0W (2 * (Z1 (BB.getD j 0) 4)) dda DD.length ddc)] w539)
  have H541 := H540.ct 13 rfl (Zo 89 2 (.slice (some ⟨b538, 0, none⟩) 1 1) 1 ([(⟨2 * (Z1 (BB.getD j 0) 4), dda, ddc, DD⟩ : TbR)].flatMap Z16)) (by rw [(show ((Z0W (2 * (Z1 (BB.getD j 0) 4)) dda DD.length ddc) : LV) = [(⟨2 * (Z1 (BB.getD j 0) 4), dda, ddc, DD⟩ : TbR)].flatMap Z16 by kernel_rfl)])
  refine kk <| zy <| Z0t (T := 43) (e := 89) (size := 2) (bytes := 32) rfl H541 kr 10 13 rfl rfl rfl rfl (Z0q Z16 Z9j [(⟨2 * (Z1 (BB.getD j 0) 4), dda, ddc, DD⟩ : TbR)]) om om fun v543 w544 H545 => ?_
  have H548 := H545.ct 10 rfl (Zo 89 2 v543 ((TS ++ [(⟨2 * (Z1 (BB.getD j 0) 4), dda, ddc, DD⟩ : TbR)]).length) ((TS ++ [(⟨2 * (Z1 (BB.getD j 0) 4), dda, ddc, DD⟩ : TbR)]).flatMap Z16)) ja
  obtain ⟨a546, c547, rfl⟩ := Z3 (H548.at 10 rfl)
  refine kk <| wv 25 (.slice a546 ((TS ++ [(⟨2 * (Z1 (BB.getD j 0) 4), dda, ddc, DD⟩ : TbR)]).length) c547) <| ZL <| Z6 <| ztn ?_
  have H549 : Sat w [Z0G (tbC (⟨2 * (Z1 (BB.getD j 0) 4), dda, ddc, DD⟩ : TbR) :: B4), Z0 b 179 (ZR mb), (Z00 mb L5), Z0 r 165 (Z0w ra5 L5.length rc5), (Z04 ra5 L5 rc5), ZQ w (Z0h (Z0l b mb r ra rc Lb)).fp, Z0 b2 38 (ZS F b r last lg op), Z0 b6 27 (ZU na N.length nc ta TT.length tc ha HH.length hc_ ptm oa OO.length oc ba BB.length bc psk pl_ pla), (ZW pa PS pc), (Z0I osa OS osc), (Z18 a546 (TS ++ [(⟨2 * (Z1 (BB.getD j 0) 4), dda, ddc, DD⟩ : TbR)]) c547), Z0 b444 89 (Z0W (2 * (Z1 (BB.getD j 0) 4)) dda DD.length ddc), Zo 89 2 (.slice (some ⟨b538, 0, none⟩) 1 1) 1 ([(⟨2 * (Z1 (BB.getD j 0) 4), dda, ddc, DD⟩ : TbR)].flatMap Z16)] w544 := (H548.pk [8, 12, 0, 1, 2, 3, 4, 5, 6, 7, 9, 10, 11, 13]).bag
  have H550 := H549.pk [1, 2, 3, 4, 5, 6, 7, 8, 0, 9, 10, 11, 12]
  refine ZG <| wv 197 (vi j) <| zwi 198 ((j : Int) + 1) <| wv 26 (vi ((j : Int) + 1)) <| ZL ?_
  have H551 : Sat w [Z0 b 179 (ZR mb), (Z00 mb L5), Z0 r 165 (Z0w ra5 L5.length rc5), (Z04 ra5 L5 rc5), ZQ w (Z0h (Z0l b mb r ra rc Lb)).fp, Z0 b2 38 (ZS F b r last lg op), Z0 b6 27 (ZU na N.length nc ta TT.length tc ha HH.length hc_ ptm oa OO.length oc ba BB.length bc psk pl_ pla), (ZW pa PS pc), Z0G (tbC (⟨2 * (Z1 (BB.getD j 0) 4), dda, ddc, DD⟩ : TbR) :: B4), (Z0I osa OS osc), (Z18 a546 (TS ++ [(⟨2 * (Z1 (BB.getD j 0) 4), dda, ddc, DD⟩ : TbR)]) c547)] w544 := H550.pk [0, 1, 2, 3, 4, 5, 6, 7, 8, 9, 10]
  refine Za ?_ _ ⟨(j + 1), (tbC (⟨2 * (Z1 (BB.getD j 0) 4), dda, ddc, DD⟩ : TbR) :: B4), ra5, rc5, L5, a546, c547, (TS ++ [(⟨2 * (Z1 (BB.getD j 0) 4), dda, ddc, DD⟩ : TbR)]), rfl, (show ((.slice a546 ((TS ++ [(⟨2 * (Z1 (BB.getD j 0) 4), dda, ddc, DD⟩ : TbR)]).length) c547) : Value) = _ by first | rfl | go_num), om, (hpsg.more hpre5 Z2H), (fun o ho => (hos2 o ho).more Z2H), (fun t ht => by rcases List.mem_append.1 ht with ht | ht; exact (hts t ht).more hpre5 Z2H; rw [List.mem_singleton.1 ht]; exact ⟨⟨by show 0 ≤ 2 * _; omega, by show 2 * _ ≤ (6 : Int); omega⟩, hdn.right om, fun d hd => (hdn.all d hd).2.2, by show DD.length ≤ 12; omega, List.mem_cons_self⟩), (by simp only [List.length_append, List.length_cons, List.length_nil]; omega), hnd5, om, (hpre4.trans hpre5), H551, rfl⟩ om
  exact zs
 refine Z3L _ b433 ?_
 refine zxb <| ztn <| zsl <| wv 243 (vu tm) <| wv 244 (.slice pa PS.length pc) <| wv 245 (.slice osa OS.length osc) <| wv 246 (.slice tsa TS.length tsc) <| wv 4 (vu tm) <| wv 5 (.slice pa PS.length pc) <| wv 6 (.slice osa OS.length osc) ?_
 refine wv 7 (.slice tsa TS.length tsc) <| znt <| Zk <| end4 rfl (Z0S (v := (vu tm)) rfl) (Z0S (v := (.slice pa PS.length pc)) rfl) (Z0S (v := (.slice osa OS.length osc)) rfl) (Z0S (v := (.slice tsa TS.length tsc)) rfl) ?_
 subst htm
 exact ⟨pa, pc, PS, osa, osc, OS, tsa, tsc, TS, ra4, rc4, L4, B4, rfl, hpsg.out hn, hos2, by omega, hts, by omega, hnd4, by omega, hpre4, H431.pk [0, 1, 2, 3, 7, 9, 10, 8, 4]⟩
end Go.Proofs.YtenihpghfdcpkaaGreat
