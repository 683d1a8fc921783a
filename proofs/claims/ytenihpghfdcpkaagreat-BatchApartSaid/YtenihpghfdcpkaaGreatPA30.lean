/- WHAT IS PROVED: contracts and plain laws of Make12. Conditions: stated with each. -/
import Derived.Test.YtenihpghfdcpkaaGreatPA05
import Derived.Test.YtenihpghfdcpkaaGreatPA22
import Derived.Test.YtenihpghfdcpkaaGreatPA28
import Derived.Test.YtenihpghfdcpkaaGreatPA29
set_option maxHeartbeats 4000000
set_option maxRecDepth 100000
namespace Go.Proofs.YtenihpghfdcpkaaGreat
open Go.RowKit
abbrev ZW (p0 : Int) (p1 : Int) (p2 : Int) (p3 : Int) (p4 : Value) (p5 : Nat) : List Value := ([(.int .i64 p0), (.int .i64 p1), (.int .i64 p2), (.int .u64 p3), p4, (.map (some p5))] : List Value)
abbrev ZV (p0 : Int) : List Value := ([(.int .u64 p0)] : List Value)
abbrev ZQ : List Value := ([(.int .i64 (0)), (.int .u64 (0)), (.slice none 0 0), (.slice none 0 0), (.slice none 0 0)] : List Value)
abbrev Zm (p0 : Option Addr) (p1 : List PrR) (p2 : Nat) : Ck := Zc 71 6 (.slice p0 p1.length p2) p1.length (p1.flatMap Z0p)
abbrev Z9n (p0 : Int) (p1 : Int) : List Value := ([(.int .i64 p0), (.int .u64 p1), (.slice none 0 0), (.slice none 0 0), (.slice none 0 0)] : List Value)
abbrev Z1y (p0 : Int) (p1 : Int) (p2 : Option Addr) (p3 : Nat) (p4 : Nat) : List Value := ([(.int .i64 p0), (.int .u64 p1), (.slice p2 p3 p4), (.slice none 0 0), (.slice none 0 0)] : List Value)
abbrev Z1l (p0 : PrR) : List Value := ([(.int .i64 p0.r), (.int .i64 p0.e), (.int .u64 p0.f), (.slice p0.ca p0.C.length p0.cc), (.int .i64 p0.sb), (.int .i64 p0.sm)] : List Value)
abbrev Z6o : List Value := ([(.int .i64 (0)), (.int .i64 (0)), (.int .u64 (0)), (.slice none 0 0), (.int .i64 (0)), (.int .i64 (0))] : List Value)
abbrev Z4B (p0 : Option Addr) (p1 : List CeR) (p2 : Nat) : Ck := Zc 76 38 (.slice p0 p1.length p2) p1.length (p1.flatMap Z0V)
abbrev Z5w (p0 : PrR) (p1 : Option Addr) (p2 : Nat) (p3 : Nat) : List Value := ([(.int .i64 p0.r), (.int .i64 p0.e), (.int .u64 p0.f), (.slice p1 p2 p3), (.int .i64 p0.sb), (.int .i64 p0.sm)] : List Value)
abbrev Z0h (p0 : Nat) : List Value := ([(.map (some p0))] : List Value)
abbrev ZN (p0 : Option Addr) (p1 : List OpR) (p2 : Nat) : Ck := Zc 86 34 (.slice p0 p1.length p2) p1.length (p1.flatMap Z0L)
abbrev Z1A (p0 : Int) (p1 : Int) (p2 : Option Addr) (p3 : Nat) (p4 : Nat) (p5 : Option Addr) (p6 : Nat) (p7 : Nat) : List Value := ([(.int .i64 p0), (.int .u64 p1), (.slice p2 p3 p4), (.slice p5 p6 p7), (.slice none 0 0)] : List Value)
abbrev Z4O (p0 : OpR) : List Value := ([(.int .i64 p0.i), (.slice p0.pa p0.P.length p0.pc)] : List Value) ++ hc p0.h
abbrev Z19 (p0 : Int) (p1 : Option Addr) (p2 : Nat) (p3 : Nat) (p4 : Hash) : List Value := ([(.int .i64 p0), (.slice p1 p2 p3)] : List Value) ++ hc p4
abbrev Z4K (p0 : Option Addr) (p1 : List UInt8) (p2 : Nat) : Ck := Zc 5 1 (.slice p0 p1.length p2) p1.length (p1.flatMap Zy)
abbrev Z0w (p0 : Option Addr) (p1 : List TbR) (p2 : Nat) : Ck := Zc 89 2 (.slice p0 p1.length p2) p1.length (p1.flatMap Z0I)
abbrev Z0E (p0 : Int) (p1 : Int) (p2 : Option Addr) (p3 : Nat) (p4 : Nat) (p5 : Option Addr) (p6 : Nat) (p7 : Nat) (p8 : Option Addr) (p9 : Nat) (p10 : Nat) : List Value := ([(.int .i64 p0), (.int .u64 p1), (.slice p2 p3 p4), (.slice p5 p6 p7), (.slice p8 p9 p10)] : List Value)
abbrev Z4P (p0 : TbR) : List Value := ([(.int .i64 p0.i), (.slice p0.da p0.D.length p0.dc)] : List Value)
abbrev Z1k (p0 : Int) (p1 : Option Addr) (p2 : Nat) (p3 : Nat) : List Value := ([(.int .i64 p0), (.slice p1 p2 p3)] : List Value)
abbrev Z5X (p0 : Option Addr) (p1 : List Z1d) (p2 : Nat) : Ck := Zc 122 4 (.slice p0 p1.length p2) p1.length (p1.flatMap Z3n)
theorem PIn.more2 {L L' : List Ck} {p : PrR} (h : PIn L p) (hs : ∀ C ∈ L, C ∈ L') : PIn L' p := ⟨hs _ h.1, fun c hc => hs _ (h.2 c hc)⟩
theorem ZdT (w : World) (F c E T last : Int) (hF : 1 ≤ F ∧ F ≤ 1000000) (vm : Value) (mo : Nat) (M : List (Int × Z1H)) (hmo : MapAt w mo (Value.int .i64) Z3N M) (hM : OpenOk M) (pa : Option Addr) (pc : Nat) (P : List PrR) (hP : ListAt Z0p 6 w (.slice pa P.length pc) P) (hlP : P.length ≤ 1000) (hPk : ∀ p ∈ P, PrK w p) (h12P : (Z13 (fun x : PrR => x.r) (Z7o F E T) P).length ≤ 12) (qa : Option Addr) (qc : Nat) (O : List OpR) (hO : ListAt Z0L 34 w (.slice qa O.length qc) O) (hlO : O.length ≤ 1000) (hOk : ∀ o ∈ O, OpK w o) (h12O : (Z13 (fun x : OpR => x.i) (Z8V M) O).length ≤ 12) (ta : Option Addr) (tc : Nat) (TL : List TbR) (hTL : ListAt Z0I 2 w (.slice ta TL.length tc) TL) (hlT : TL.length ≤ 1000) (hTk : ∀ t ∈ TL, TbK w t) (h12T : ∀ X, (Z13 (fun x : TbR => x.i) (Z7m M X) TL).length ≤ 12) :
  Calls Tryz.prog 12 #[(.agg ⟨([(.int .i64 (F)), (.int .i64 (c)), (.int .i64 (E)), (.int .u64 (last)), (vm), (.map (some mo))] : List Value)⟩), (.int .u64 (T)), (.slice pa P.length pc), (.slice qa O.length qc), (.slice ta TL.length tc)] w fun e w' => ∃ DP, SortN (fun x : PrR => x.r) (Z7o F E T) P DP ∧ (((DP.length : Int) < 2 * F + 1 ∧ e = .returned (.tuple #[(.agg ⟨([(.int .i64 (0)), (.int .u64 (0)), (.slice none 0 0), (.slice none 0 0), (.slice none 0 0)] : List Value)⟩), (.int .i64 (8))]) ∧ Upd [] w w') ∨ ∃ (Q : Nat) (_ : (Q : Int) = 2 * F + 1) (DO : List OpR) (X : List (Int × Bool)) (DT : List TbR) (xa : Option Addr) (xc : Nat) (PD : List PrR) (ya : Option Addr) (yc : Nat) (OD : List OpR) (za : Option Addr) (zc : Nat) (TD : List TbR) (B3 : List Ck), SortN (fun x : OpR => x.i) (Z8V M) O DO ∧ HvOk X (fun x : OpR => x.i) DO ∧ SortN (fun x : TbR => x.i) (Z7m M X) TL DT ∧ Q ≤ DP.length ∧ e = .returned (.tuple #[.agg ⟨[.int .i64 E, .int .u64 T, .slice xa PD.length xc, .slice ya OD.length yc, .slice za TD.length zc]⟩, (.int .i64 (0))]) ∧ CoPs (DP.take Q) PD ∧ CoOs DO OD ∧ CoTs (DT.take 64) TD ∧ (∀ p ∈ PD, PIn B3 p) ∧ (∀ o ∈ OD, opC o ∈ B3) ∧ (∀ t ∈ TD, tbC t ∈ B3) ∧ (ZR [Zc 71 6 (.slice xa PD.length xc) PD.length (PD.flatMap Z0p), Zc 86 34 (.slice ya OD.length yc) OD.length (OD.flatMap Z0L), Zc 89 2 (.slice za TD.length zc) TD.length (TD.flatMap Z0I), Z0b B3]).ok w' ∧ Upd [] w w' ∧ ∀ q_, (ZR [Zc 71 6 (.slice xa PD.length xc) PD.length (PD.flatMap Z0p), Zc 86 34 (.slice ya OD.length yc) OD.length (OD.flatMap Z0L), Zc 89 2 (.slice za TD.length zc) TD.length (TD.flatMap Z0I), Z0b B3]).fp q_ → w.heap.size ≤ q_) := by
 have H := Sat.start0 w
 obtain ⟨Q, hQ⟩ : ∃ Q : Nat, (Q : Int) = 2 * F + 1 := ⟨(2 * F + 1).toNat, by omega⟩
 refine Z8 Tryz.func12 rfl 106 rfl (Nat.le_of_ble_eq_true rfl) ?_
 refine Z5 <| Zl <| Z5I (Zb rfl) (fun Kq kq => ?_)
 refine zdb (ZW F c E last vm mo) H ?_
 intro b2 w3 H4
 refine kq _ _ <| zwd fun Kq kq => zdb (ZV T) H4 ?_
 intro b6 w7 (H8 : Sat w [Z3 w (fun _ => False), Z0 b2 54 (ZW F c E last vm mo), Z0 b6 25 (ZV T)] w7)
 refine kq _ _ <| zwd fun Kq kq => zda (ZQ) H8 fun b10 w11 H12 => ?_
 refine kq _ _ <| wv 11 (.int .i64 (0)) <| Zu <| ZF <| Z5 <| Zl <| Z0c (Zb rfl) (d := 24) (v := (.func (.func 42) #[] #[(pt b2 0), (pt b6 0)])) rfl (by kernel_rfl) <| wv 12 (.func (.func 42) #[] #[(pt b2 0), (pt b6 0)]) <| Zu <| ZF <| Z5 <| Zl <| Z0c (Zb rfl) (d := 25) (v := (.slice pa P.length pc)) rfl (by kernel_rfl) <| wv 26 (.func (.func 42) #[] #[(pt b2 0), (pt b6 0)]) <| wv 27 (pt b2 0) <| wv 28 (.agg ⟨([(.int .i64 (F)), (.int .i64 (c))] : List Value)⟩) ?_ (hr := zlN (vs := ([(.int .i64 (F)), (.int .i64 (c))] : List Value)) (H12.at 1 rfl))
 refine zwd fun Kq kq => zdq 29 (((ZcH w11 F c (by omega)).mono fun e w' h => (show e = .returned (.int .i64 (Q : Int)) ∧ Upd [] w11 w' by rw [hQ]; exact h))) H12 fun w14 H15 => ?_
 refine kq _ _ <| zwd fun Kq kq => zdc 30 (ZbG w14 pa pc P (ListAt.now H15 0 rfl hP) hlP Q b2 b6 F c E last T ⟨hF.1, by omega⟩ vm (.map (some mo)) (H15.at 1 rfl) (H15.at 2 rfl) h12P) ?_
 rintro _ w18 ⟨a19, c20, D21, rfl, s22, l23, k24, u25, f26⟩
 obtain ⟨KP, hKP⟩ : ∃ K_, K_ = D21.take Q := ⟨_, rfl⟩
 rw [← hKP] at k24 f26 ⊢
 have H27 : Sat w [Z3 w (fun _ => False), Z0 b2 54 (ZW F c E last vm mo), Z0 b6 25 (ZV T), Z0 b10 47 (ZQ), (Zm a19 KP c20)] w18 := H15.addU u25 k24 f26
 refine ⟨_, rfl, ?_⟩
 refine kq _ _ <| wv 13 (.slice a19 KP.length c20) <| Zu <| ZF <| Z5 <| Z5 <| Zl <| Z0c (Zb rfl) (d := 31) (v := (.slice a19 KP.length c20)) rfl (by kernel_rfl) <| wv 32 (.int .i64 ((KP.length : Int))) <| wv 33 (pt b2 0) <| wv 34 (.agg ⟨([(.int .i64 (F)), (.int .i64 (c))] : List Value)⟩) ?_ (hr := zlN (vs := ([(.int .i64 (F)), (.int .i64 (c))] : List Value)) (H27.at 1 rfl))
 refine zwd fun Kq kq => zdq 35 (((ZcH w18 F c (by omega)).mono fun e w' h => (show e = .returned (.int .i64 (Q : Int)) ∧ Upd [] w18 w' by rw [hQ]; exact h))) H27 fun w29 H30 => ?_
 refine kq _ _ <| wv 36 (.bool (decide ((KP.length : Int) < (Q : Int)))) <| Zu <| ZF ?_
 refine (ZJ (decide ((KP.length : Int) < (Q : Int)))).elim (fun b32 => ?_) (fun b32 => ?_)
 ·have g33 := of_decide_eq_true b32
  refine Z33 _ b32 ?_
  refine Z5 <| Zl <| Z0c (Zb rfl) (d := 37) (v := (.agg ⟨(ZQ)⟩)) rfl (by kernel_rfl) <| zwd fun Kq kq => Z1z (ZQ) H30 3 fun w36 H37 => ?_
  refine kq _ _ <| wv 11 (.int .i64 (8)) <| Zu <| ZF <| Zq <| ZP <| Z9t rfl (ZL (vs := (ZQ)) rfl (by kernel_rfl) (by kernel_rfl) (Nat.le_of_ble_eq_true (by kernel_rfl)) (H37.at 3 rfl) (by kernel_rfl)) (Z10 (v := (.int .i64 (8))) rfl) ?_
  exact ⟨D21, s22, .inl ⟨(by have q2 : KP.length < Q := (by omega); have q3 := congrArg List.length hKP; rw [List.length_take] at q3; omega), rfl, H37.upd 0 rfl [] (fun _ h => h.elim)⟩⟩
 have g39 := of_decide_eq_false b32
 refine Z2X _ b32 ?_
 refine Zt <| ZF <| Z5 <| Zl <| Z0c (Zb rfl) (d := 38) (v := (pt b2 2)) rfl (by kernel_rfl) <| wv 39 (.int .i64 (E)) ?_ (hr := zl1 (H30.cell 1 rfl rfl))
 refine wv 40 (.int .u64 (T)) ?_ (hr := zl1 (H30.cell 2 rfl rfl))
 refine wv 41 (.agg ⟨(Z9n E T)⟩) <| zwd fun Kq kq => zda (ZQ) H30 ?_
 intro b42 w43 (H44 : Sat w [Z3 w (fun _ => False), Z0 b2 54 (ZW F c E last vm mo), Z0 b6 25 (ZV T), Z0 b10 47 (ZQ), (Zm a19 KP c20), Z0 b42 47 (ZQ)] w43)
 refine kq _ _ <| zwd fun Kq kq => Z1z (Z9n E T) H44 5 fun w46 H47 => ?_
 refine kq _ _ <| Zu <| ZF <| Z5 <| Z5 <| Zl <| Z0c (Zb rfl) (d := 42) (v := (.slice a19 KP.length c20)) rfl (by kernel_rfl) <| wv 43 (.int .i64 ((KP.length : Int))) <| wv 44 (.int .i64 (0)) <| Zu <| ZF <| Za ?_
 have H49 := H47.addNil 71 6
 have H50 := H49.bag0
 have hKPl : KP.length ≤ 12 := by rw [hKP, List.length_take]; have q := s22.perm.length_eq; omega
 refine Zw ([16] ++ List.range' 44 12) (fun F_ W_ m_ => ∃ (i : Nat) (xa : Option Addr) (xc : Nat) (PD : List PrR) (B : List Ck), F_ 44 = (.int .i64 ((i : Int))) ∧ (i ≤ KP.length) ∧ (PD.map ZbB = (KP.take i).map ZbB) ∧ (∀ p ∈ PD, PIn B p) ∧ Sat w [Z3 w (fun _ => False), Z0 b2 54 (ZW F c E last vm mo), Z0 b6 25 (ZV T), Z0 b10 47 (ZQ), (Zm a19 KP c20), Z0 b42 47 (Z1y E T xa PD.length xc), (Zm xa PD xc), Z0b B] W_ ∧ m_ = KP.length - i) _ ⟨0, none, 0, [], [], (show ((.int .i64 (0)) : Value) = _ by first | rfl | go_num), (Nat.zero_le _), rfl, (by simp), H50, rfl⟩ ?_
 rintro g51 w52 _ ⟨i, xa, xc, PD, B, v54, hi, hPD, hpin, H53, rfl⟩
 refine Zd 44 _ v54 ?_
 have hPDl := Z85 hPD
 rw [List.length_take] at hPDl
 refine Z5 <| Zl <| Z0c (Zb rfl) (d := 45) (v := (.bool (decide ((i : Int) < (KP.length : Int))))) rfl (by kernel_rfl) <| Zu <| ZF <| Z5 ?_
 refine (ZJ (decide ((i : Int) < (KP.length : Int)))).elim (fun b56 => ?_) (fun b56 => ?_)
 ·have g57 := of_decide_eq_true b56
  refine Z33 _ b56 ?_
  refine Zt <| ZF <| Z5 <| Za <| Z5 <| Zl ?_
  obtain ⟨g59, c60, e61⟩ := Z0z (H53.at 4 rfl) (by omega)
  obtain ⟨x62, h63⟩ := Z3E (show i < KP.length by omega)
  refine wv 46 (.pointer (some ⟨g59, 0 + ((i : Int)).toNat * 6, none⟩)) ?_ (hr := Z04 (E := 71) (by kernel_rfl) (by kernel_rfl) (Nat.le_of_ble_eq_true rfl) rfl e61 rfl (by omega) (by omega))
  refine wv 47 (.agg ⟨(Z1l x62)⟩) ?_ (hr := Z05 (vs := (Z1l x62)) rfl (by kernel_rfl) (by kernel_rfl) (Nat.le_of_ble_eq_true (by kernel_rfl)) (Z2n (H53.at 4 rfl) e61 Z26 h63 0 (show 0 + ((i : Int)).toNat * 6 = i * 6 + 0 by omega) (by kernel_rfl) (by kernel_rfl)))
  refine zwd fun Kq kq => zda (Z6o) H53 ?_
  intro b65 w66 (H67 : Sat w [Z3 w (fun _ => False), Z0 b2 54 (ZW F c E last vm mo), Z0 b6 25 (ZV T), Z0 b10 47 (ZQ), (Zm a19 KP c20), Z0 b42 47 (Z1y E T xa PD.length xc), (Zm xa PD xc), Z0b B, Z0 b65 71 (Z6o)] w66)
  refine kq _ _ <| zwd fun Kq kq => Z1z (Z1l x62) H67 8 fun w69 H70 => ?_
  refine kq _ _ <| Zu <| ZF ?_
  have hXk : PrK w x62 := hPk _ (s22.sub (List.mem_of_mem_take (by rw [← hKP]; exact List.mem_of_getElem? h63))).1
  refine Z18 H70 [Z3 w (fun _ => False), Z0 b2 54 (ZW F c E last vm mo), Z0 b6 25 (ZV T), Z0 b10 47 (ZQ), (Zm a19 KP c20), Z0 b42 47 (Z1y E T xa PD.length xc), Z0b B, Z0 b65 71 (Z1l x62)] [7] 8 rfl (by kernel_rfl) (fun Hx => (Hx.pk [0, 1, 2, 3, 4, 5, 7, 8])) ?_
  intro w72 H73 S74
  refine zkp 0 S74 48 (pt b42 2) <| zkv 1 S74 49 (.slice xa PD.length xc) ?_ (he := fun _ H' => (zl1 (H'.cell 5 rfl rfl)))
  refine zkv 2 S74 50 (.agg ⟨(Z1l x62)⟩) ?_ (he := fun _ H' => (zlN (vs := (Z1l x62)) (H'.at 7 rfl)))
  refine Z9r 3 fun Kq kq => ?_
  refine zdc 51 (Z8G w72 x62 (ListAt.now H73 0 rfl hXk.at_) hXk.len (fun i hi => H73.roCk 0 rfl (hXk.st i hi) (fun _ _ h => h)) hXk.sl) ?_
  rintro _ w76 ⟨a77, c78, D79, B80, rfl, e81, n82, k83, u84, f85⟩
  have H86 : Sat w [Z3 w (fun _ => False), Z0 b2 54 (ZW F c E last vm mo), Z0 b6 25 (ZV T), Z0 b10 47 (ZQ), (Zm a19 KP c20), Z0 b42 47 (Z1y E T xa PD.length xc), (Zm xa PD xc), Z0b B, Z0 b65 71 (Z1l x62), ZR [(Z4B a77 D79 c78), Z0b B80]] w76 := H73.addU u84 k83 f85
  have H87 := H86.open 9 rfl
  refine ⟨_, rfl, ?_⟩
  have S88 := H87.pk [0, 1, 2, 3, 4, 5, 7, 8]
  refine kq _ _ S88 <| Z9r 4 fun Kq kq => ?_
  refine Z2w 71 6 64 (.agg ⟨(Z6o)⟩) [(0, (.agg ⟨(Z5w x62 a77 D79.length c78)⟩))] (Z5w x62 a77 D79.length c78) H87 ?_
  intro b90 w91 (H92 : Sat w [Z3 w (fun _ => False), Z0 b2 54 (ZW F c E last vm mo), Z0 b6 25 (ZV T), Z0 b10 47 (ZQ), (Zm a19 KP c20), Z0 b42 47 (Z1y E T xa PD.length xc), (Zm xa PD xc), Z0b B, Z0 b65 71 (Z1l x62), (Z4B a77 D79 c78), Z0b B80, Zc 71 6 (.slice (some ⟨b90, 0, none⟩) 1 1) 1 (Z5w x62 a77 D79.length c78)] w91)
  have H93 := H92.ct 11 rfl (Zc 71 6 (.slice (some ⟨b90, 0, none⟩) 1 1) 1 ([(⟨x62.r, x62.e, x62.f, a77, c78, x62.sb, x62.sm, D79⟩ : PrR)].flatMap Z0p)) (by rw [(show ((Z5w x62 a77 D79.length c78) : List Value) = [(⟨x62.r, x62.e, x62.f, a77, c78, x62.sb, x62.sm, D79⟩ : PrR)].flatMap Z0p by kernel_rfl)])
  have S94 := H93.pk [0, 1, 2, 3, 4, 5, 7, 8]
  refine kq _ _ S94 <| Z9r 5 fun Kq kq => ?_
  refine Z00 (T := 41) (e := 71) (size := 6) (bytes := 64) rfl H93 (by kernel_rfl) 6 11 rfl rfl rfl rfl (ZX Z0p Z5s [(⟨x62.r, x62.e, x62.f, a77, c78, x62.sb, x62.sm, D79⟩ : PrR)]) (by omega) (by omega) ?_
  intro v96 w97 (H98 : Sat w [Z3 w (fun _ => False), Z0 b2 54 (ZW F c E last vm mo), Z0 b6 25 (ZV T), Z0 b10 47 (ZQ), (Zm a19 KP c20), Z0 b42 47 (Z1y E T xa PD.length xc), Zc 71 6 v96 (PD.length + 1) ((PD.flatMap Z0p) ++ ([(⟨x62.r, x62.e, x62.f, a77, c78, x62.sb, x62.sm, D79⟩ : PrR)].flatMap Z0p)), Z0b B, Z0 b65 71 (Z1l x62), (Z4B a77 D79 c78), Z0b B80, Zc 71 6 (.slice (some ⟨b90, 0, none⟩) 1 1) 1 ([(⟨x62.r, x62.e, x62.f, a77, c78, x62.sb, x62.sm, D79⟩ : PrR)].flatMap Z0p)] w97)
  have H101 := H98.ct 6 rfl (Zc 71 6 v96 ((PD ++ [(⟨x62.r, x62.e, x62.f, a77, c78, x62.sb, x62.sm, D79⟩ : PrR)]).length) ((PD ++ [(⟨x62.r, x62.e, x62.f, a77, c78, x62.sb, x62.sm, D79⟩ : PrR)]).flatMap Z0p)) ja
  obtain ⟨a99, c100, rfl⟩ := Z2 (H101.at 6 rfl)
  have S102 := H101.pk [0, 1, 2, 3, 4, 5, 7, 8]
  refine kq _ _ S102 <| zkp 6 S102 54 (pt b42 2) <| Z3v 7 (Sat w [Z3 w (fun _ => False), Z0 b2 54 (ZW F c E last vm mo), Z0 b6 25 (ZV T), Z0 b10 47 (ZQ), (Zm a19 KP c20), Z0b B, Z0 b65 71 (Z1l x62)]) rfl (by kernel_rfl) (Zb rfl) rfl (fun Kq kq => ?_)
  refine zds ([(.slice a99 ((PD ++ [(⟨x62.r, x62.e, x62.f, a77, c78, x62.sb, x62.sm, D79⟩ : PrR)]).length) c100)] : List Value) (Z1y E T a99 ((PD ++ [(⟨x62.r, x62.e, x62.f, a77, c78, x62.sb, x62.sm, D79⟩ : PrR)]).length) c100) H101 5 ?_
  intro w104 (H105 : Sat w [Z3 w (fun _ => False), Z0 b2 54 (ZW F c E last vm mo), Z0 b6 25 (ZV T), Z0 b10 47 (ZQ), (Zm a19 KP c20), Z0 b42 47 (Z1y E T a99 ((PD ++ [(⟨x62.r, x62.e, x62.f, a77, c78, x62.sb, x62.sm, D79⟩ : PrR)]).length) c100), (Zm a99 (PD ++ [(⟨x62.r, x62.e, x62.f, a77, c78, x62.sb, x62.sm, D79⟩ : PrR)]) c100), Z0b B, Z0 b65 71 (Z1l x62), (Z4B a77 D79 c78), Z0b B80, Zc 71 6 (.slice (some ⟨b90, 0, none⟩) 1 1) 1 ([(⟨x62.r, x62.e, x62.f, a77, c78, x62.sb, x62.sm, D79⟩ : PrR)].flatMap Z0p)] w104)
  have S107 := H105.pk [0, 1, 2, 3, 4, 7, 8]
  refine kq _ _ S107 <| zhf <| Z7 <| ZF ?_
  have H108 := (H105.pk [10, 7, 0, 1, 2, 3, 4, 5, 6, 8, 9, 11]).bagApp
  have H109 : Sat w [Z3 w (fun _ => False), Z0 b2 54 (ZW F c E last vm mo), Z0 b6 25 (ZV T), Z0 b10 47 (ZQ), (Zm a19 KP c20), Z0 b42 47 (Z1y E T a99 ((PD ++ [(⟨x62.r, x62.e, x62.f, a77, c78, x62.sb, x62.sm, D79⟩ : PrR)]).length) c100), (Zm a99 (PD ++ [(⟨x62.r, x62.e, x62.f, a77, c78, x62.sb, x62.sm, D79⟩ : PrR)]) c100), Z0b (B80 ++ B), Z0 b65 71 (Z1l x62), (Z4B a77 D79 c78), Zc 71 6 (.slice (some ⟨b90, 0, none⟩) 1 1) 1 ([(⟨x62.r, x62.e, x62.f, a77, c78, x62.sb, x62.sm, D79⟩ : PrR)].flatMap Z0p)] w104 := H108.pk [1, 2, 3, 4, 5, 6, 7, 0, 8, 9, 10]
  have H110 := (H109.pk [7, 9, 0, 1, 2, 3, 4, 5, 6, 8, 10]).bag
  have H111 : Sat w [Z3 w (fun _ => False), Z0 b2 54 (ZW F c E last vm mo), Z0 b6 25 (ZV T), Z0 b10 47 (ZQ), (Zm a19 KP c20), Z0 b42 47 (Z1y E T a99 ((PD ++ [(⟨x62.r, x62.e, x62.f, a77, c78, x62.sb, x62.sm, D79⟩ : PrR)]).length) c100), (Zm a99 (PD ++ [(⟨x62.r, x62.e, x62.f, a77, c78, x62.sb, x62.sm, D79⟩ : PrR)]) c100), Z0b (ceC (⟨x62.r, x62.e, x62.f, a77, c78, x62.sb, x62.sm, D79⟩ : PrR) :: (B80 ++ B)), Z0 b65 71 (Z1l x62), Zc 71 6 (.slice (some ⟨b90, 0, none⟩) 1 1) 1 ([(⟨x62.r, x62.e, x62.f, a77, c78, x62.sb, x62.sm, D79⟩ : PrR)].flatMap Z0p)] w104 := H110.pk [1, 2, 3, 4, 5, 6, 7, 0, 8, 9]
  refine Zl <| Z0c (Zb rfl) (d := 55) (v := (.int .i64 ((i : Int) + 1))) rfl (Z0g (z := (i : Int) + 1) (by kernel_rfl) (IntWalk.i64_in _ (by omega))) <| wv 44 (.int .i64 ((i : Int) + 1)) <| Zu ?_
  have H112 := H111.pk [0, 1, 2, 3, 4, 5, 6, 7]
  refine Z6 ?_ _ ⟨(i + 1), a99, c100, (PD ++ [(⟨x62.r, x62.e, x62.f, a77, c78, x62.sb, x62.sm, D79⟩ : PrR)]), (ceC (⟨x62.r, x62.e, x62.f, a77, c78, x62.sb, x62.sm, D79⟩ : PrR) :: (B80 ++ B)), rfl, (by omega), (Z8f hPD h63 (Zfe (p := x62) e81)), (fun p hp => by rcases List.mem_append.1 hp with hp | hp; exact ((hpin p hp).more2 (fun C hC => List.mem_cons_of_mem _ (List.mem_append_right _ hC))); rw [List.mem_singleton.1 hp]; exact ⟨List.mem_cons_self, fun c hc => List.mem_cons_of_mem _ (List.mem_append_left _ (n82 c hc))⟩), H112, rfl⟩ (by omega)
  exact zs
 have g113 := of_decide_eq_false b56
 refine Z2X _ b56 ?_
 refine Z4k <| Z1N <| Z5q <| Z3g <| ZF <| Z5 ?_
 have hPC : CoPs KP PD := by unfold CoPs; rw [hPD, List.take_of_length_le (by omega)]
 refine Zl <| Z5I (Zb rfl) (fun Kq kq => ?_)
 refine Z2s (Value.int .i64) Value.bool rfl H53 ?_
 intro b116 w117 (H118 : Sat w [Z3 w (fun _ => False), Z0 b2 54 (ZW F c E last vm mo), Z0 b6 25 (ZV T), Z0 b10 47 (ZQ), (Zm a19 KP c20), Z0 b42 47 (Z1y E T xa PD.length xc), (Zm xa PD xc), Z0b B, Z0B b116 (Value.int .i64) Value.bool []] w117)
 refine kq _ _ <| zwd fun Kq kq => ZcD (zs := ([((Go.Value.map none))] : List Value)) (z := ((Go.Value.map none))) rfl H118 (by kernel_rfl) (by kernel_rfl) fun b120 w121 H122 => ?_
 refine kq _ _ <| zwd fun Kq kq => Z1z (Z0h b116) H122 9 ?_
 intro w124 (H125 : Sat w [Z3 w (fun _ => False), Z0 b2 54 (ZW F c E last vm mo), Z0 b6 25 (ZV T), Z0 b10 47 (ZQ), (Zm a19 KP c20), Z0 b42 47 (Z1y E T xa PD.length xc), (Zm xa PD xc), Z0b B, Z0B b116 (Value.int .i64) Value.bool [], Z0 b120 129 (Z0h b116)] w124)
 refine kq _ _ <| Zu <| ZF <| Z5 <| Zl <| Z0c (Zb rfl) (d := 57) (v := (.func (.func 48) #[] #[(pt b2 0)])) rfl (by kernel_rfl) <| wv 18 (.func (.func 48) #[] #[(pt b2 0)]) <| Zu <| ZF <| Z5 <| Z5 <| Zl <| Z0c (Zb rfl) (d := 58) (v := (.slice qa O.length qc)) rfl (by kernel_rfl) <| wv 59 (.func (.func 48) #[] #[(pt b2 0)]) <| wv 60 (.slice qa O.length qc) <| wv 61 (.int .i64 ((O.length : Int))) <| zwd fun Kq kq => zdc 62 (Zbl w124 qa qc O (ListAt.now H125 0 rfl hO) hlO O.length F c E last vm mo M (H125.roMap 0 rfl hmo (fun h => h)) hM b2 (H125.at 1 rfl) (fun i hi => ListAt.now H125 0 rfl (hOk _ (Z90 hi)).list) (fun i hi => (hOk _ (Z90 hi)).len) h12O) ?_
 rintro _ w128 ⟨a129, c130, D131, rfl, s132, l133, k134, u135, f136⟩
 obtain ⟨KO, hKO⟩ : ∃ K_, K_ = D131.take O.length := ⟨_, rfl⟩
 rw [← hKO] at k134 f136 ⊢
 have H137 := H125.addU u135 k134 f136
 refine ⟨_, rfl, ?_⟩
 refine kq _ _ <| wv 63 (.int .i64 ((KO.length : Int))) <| wv 64 (.int .i64 (0)) <| Zu <| ZF <| Za ?_
 have H138 := H137.addNil 86 34
 have hKOl : KO.length ≤ 12 := by rw [hKO, List.length_take]; have q := s132.perm.length_eq; omega
 refine Zw ([19, 20] ++ List.range' 64 21) (fun F_ W_ m_ => ∃ (k : Nat) (ya : Option Addr) (yc : Nat) (OD : List OpR) (B2 : List Ck) (X : List (Int × Bool)), F_ 64 = (.int .i64 ((k : Int))) ∧ (k ≤ KO.length) ∧ (OD.map keyO = (KO.take k).map keyO) ∧ (∀ o ∈ OD, opC o ∈ B2) ∧ (∀ p ∈ PD, PIn B2 p) ∧ (HvOk X (fun x : OpR => x.i) (KO.take k)) ∧ Sat w [Z3 w (fun _ => False), Z0 b2 54 (ZW F c E last vm mo), Z0 b6 25 (ZV T), Z0 b10 47 (ZQ), (Zm a19 KP c20), Z0 b42 47 (Z1A E T xa PD.length xc ya OD.length yc), (Zm xa PD xc), Z0b B2, Z0B b116 (Value.int .i64) Value.bool X, Z0 b120 129 (Z0h b116), (ZN a129 KO c130), (ZN ya OD yc)] W_ ∧ m_ = KO.length - k) _ ⟨0, none, 0, [], B, [], (show ((.int .i64 (0)) : Value) = _ by first | rfl | go_num), (Nat.zero_le _), rfl, (by simp), hpin, HvOk.nil, H138, rfl⟩ ?_
 rintro g139 w140 _ ⟨k, ya, yc, OD, B2, X, v142, hk, hOD, hoin, hpin2, hX, H141, rfl⟩
 refine Zd 64 _ v142 ?_
 have hODl := Z85 hOD
 rw [List.length_take] at hODl
 refine Z5 <| Zl <| Z0c (Zb rfl) (d := 65) (v := (.bool (decide ((k : Int) < (KO.length : Int))))) rfl (by kernel_rfl) <| Zu <| ZF <| Z5 ?_
 refine (ZJ (decide ((k : Int) < (KO.length : Int)))).elim (fun b144 => ?_) (fun b144 => ?_)
 ·have g145 := of_decide_eq_true b144
  refine Z33 _ b144 ?_
  refine Zt <| ZF <| Z5 <| Za <| Z5 <| Zl <| Z0c (Zb rfl) (d := 66) (v := (.int .i64 ((k : Int)))) rfl (by kernel_rfl) ?_
  obtain ⟨g147, c148, e149⟩ := Z0z (H141.at 10 rfl) (by omega)
  obtain ⟨x150, h151⟩ := Z3E (show k < KO.length by omega)
  refine wv 67 (.pointer (some ⟨g147, 0 + ((k : Int)).toNat * 34, none⟩)) ?_ (hr := Z04 (E := 86) (by kernel_rfl) (by kernel_rfl) (Nat.le_of_ble_eq_true rfl) rfl e149 rfl (by omega) (by omega))
  refine wv 68 (.agg ⟨(Z4O x150)⟩) ?_ (hr := Z05 (vs := (Z4O x150)) rfl (by kernel_rfl) (by kernel_rfl) (Nat.le_of_ble_eq_true (by kernel_rfl)) (Z2n (H141.at 10 rfl) e149 Z2R h151 0 (show 0 + ((k : Int)).toNat * 34 = k * 34 + 0 by omega) (by kernel_rfl) (by kernel_rfl)))
  refine zwd fun Kq kq => zda (([(.int .i64 (0)), (.slice none 0 0)] : List Value) ++ hc Zn) H141 ?_
  intro b153 w154 (H155 : Sat w [Z3 w (fun _ => False), Z0 b2 54 (ZW F c E last vm mo), Z0 b6 25 (ZV T), Z0 b10 47 (ZQ), (Zm a19 KP c20), Z0 b42 47 (Z1A E T xa PD.length xc ya OD.length yc), (Zm xa PD xc), Z0b B2, Z0B b116 (Value.int .i64) Value.bool X, Z0 b120 129 (Z0h b116), (ZN a129 KO c130), (ZN ya OD yc), Z0 b153 86 (([(.int .i64 (0)), (.slice none 0 0)] : List Value) ++ hc Zn)] w154)
  refine kq _ _ <| wv 19 (.int .i64 ((k : Int))) <| zwd fun Kq kq => Z1z (Z4O x150) H155 12 fun w157 H158 => ?_
  refine kq _ _ <| Zu <| ZF <| Z5 ?_
  have hXo : OpK w x150 := hOk _ (s132.sub (List.mem_of_mem_take (by rw [← hKO]; exact List.mem_of_getElem? h151))).1
  refine Zl <| Z0c (Zb rfl) (d := 69) (v := (.map (some b116))) rfl (zl1 (H158.cell 9 rfl rfl)) <| wv 70 (pt b153 0) <| wv 71 (.int .i64 (x150.i)) ?_ (hr := zl1 (H158.cell 12 rfl (by kernel_rfl)))
  refine zwd fun Kq kq => Z0F (kt := 3) (et := 4) rfl H158 8 rfl (KeyTy.int (by kernel_rfl)) (by kernel_rfl) rfl x150.i rfl true rfl ?_
  intro w161 (H162 : Sat w [Z3 w (fun _ => False), Z0 b2 54 (ZW F c E last vm mo), Z0 b6 25 (ZV T), Z0 b10 47 (ZQ), (Zm a19 KP c20), Z0 b42 47 (Z1A E T xa PD.length xc ya OD.length yc), (Zm xa PD xc), Z0b B2, Z0B b116 (Value.int .i64) Value.bool (Z2j X x150.i true), Z0 b120 129 (Z0h b116), (ZN a129 KO c130), (ZN ya OD yc), Z0 b153 86 (Z4O x150)] w161)
  refine kq _ _ <| Zu <| ZF <| Z5 <| Zl <| Z0c (Zb rfl) (d := 72) (v := (pt b153 1)) rfl (by kernel_rfl) <| wv 73 ((.slice x150.pa x150.P.length x150.pc)) ?_ (hr := zl1 (H162.cell 12 rfl (by kernel_rfl)))
  refine zwd fun Kq kq => zdc 74 (Za4 w161 ((.slice x150.pa x150.P.length x150.pc)) x150.P (H162.roCk 0 rfl hXo.ok (fun _ _ h => h)) hXo.len) ?_
  rintro _ w164 ⟨u165, rfl, k166, p167, q168⟩
  have H169 := H162.addU p167 k166 q168
  obtain ⟨a170, c171, rfl⟩ := Z2 (H169.at 13 rfl)
  refine ⟨_, rfl, ?_⟩
  refine kq _ _ <| wv 75 (pt b153 1) <| zwd fun Kq kq => zds ([(.slice a170 x150.P.length c171)] : List Value) (Z19 x150.i a170 x150.P.length c171 x150.h) H169 12 ?_
  intro w173 (H174 : Sat w [Z3 w (fun _ => False), Z0 b2 54 (ZW F c E last vm mo), Z0 b6 25 (ZV T), Z0 b10 47 (ZQ), (Zm a19 KP c20), Z0 b42 47 (Z1A E T xa PD.length xc ya OD.length yc), (Zm xa PD xc), Z0b B2, Z0B b116 (Value.int .i64) Value.bool (Z2j X x150.i true), Z0 b120 129 (Z0h b116), (ZN a129 KO c130), (ZN ya OD yc), Z0 b153 86 (Z19 x150.i a170 x150.P.length c171 x150.h), (Z4K a170 x150.P c171)] w173)
  refine kq _ _ <| Zu <| ZF <| Z5 <| Zl <| Z0c (Zb rfl) (d := 76) (v := (.int .i64 ((k : Int)))) rfl (by kernel_rfl) <| wv 77 (.bool (decide ((k : Int) < 64))) <| Zu <| ZF ?_
  have b176 : (decide ((k : Int) < 64)) = true := by exact decide_eq_true (by omega)
  have g177 := of_decide_eq_true b176
  refine Z33 _ b176 ?_
  refine Zl <| Z0c (Zb rfl) (d := 78) (v := (pt b42 3)) rfl (by kernel_rfl) <| wv 79 (.slice ya OD.length yc) ?_ (hr := zl1 (H174.cell 5 rfl rfl))
  refine wv 80 (.agg ⟨(Z19 x150.i a170 x150.P.length c171 x150.h)⟩) ?_ (hr := zlN (vs := (Z19 x150.i a170 x150.P.length c171 x150.h)) (H174.at 12 rfl))
  refine zwd fun Kq kq => Z2w 86 34 64 (.agg ⟨(([(.int .i64 (0)), (.slice none 0 0)] : List Value) ++ hc Zn)⟩) [(0, (.agg ⟨(Z19 x150.i a170 x150.P.length c171 x150.h)⟩))] (Z19 x150.i a170 x150.P.length c171 x150.h) H174 ?_
  intro b179 w180 (H181 : Sat w [Z3 w (fun _ => False), Z0 b2 54 (ZW F c E last vm mo), Z0 b6 25 (ZV T), Z0 b10 47 (ZQ), (Zm a19 KP c20), Z0 b42 47 (Z1A E T xa PD.length xc ya OD.length yc), (Zm xa PD xc), Z0b B2, Z0B b116 (Value.int .i64) Value.bool (Z2j X x150.i true), Z0 b120 129 (Z0h b116), (ZN a129 KO c130), (ZN ya OD yc), Z0 b153 86 (Z19 x150.i a170 x150.P.length c171 x150.h), (Z4K a170 x150.P c171), Zc 86 34 (.slice (some ⟨b179, 0, none⟩) 1 1) 1 (Z19 x150.i a170 x150.P.length c171 x150.h)] w180)
  have H182 : Sat w [Z3 w (fun _ => False), Z0 b2 54 (ZW F c E last vm mo), Z0 b6 25 (ZV T), Z0 b10 47 (ZQ), (Zm a19 KP c20), Z0 b42 47 (Z1A E T xa PD.length xc ya OD.length yc), (Zm xa PD xc), Z0b B2, Z0B b116 (Value.int .i64) Value.bool (Z2j X x150.i true), Z0 b120 129 (Z0h b116), (ZN a129 KO c130), (ZN ya OD yc), Z0 b153 86 (Z19 x150.i a170 x150.P.length c171 x150.h), (Z4K a170 x150.P c171), Zc 86 34 (.slice (some ⟨b179, 0, none⟩) 1 1) 1 ([(⟨x150.i, a170, c171, x150.P, x150.h⟩ : OpR)].flatMap Z0L)] w180 := H181.cast (by rw [(show ((Z19 x150.i a170 x150.P.length c171 x150.h) : List Value) = [(⟨x150.i, a170, c171, x150.P, x150.h⟩ : OpR)].flatMap Z0L by kernel_rfl)])
  refine kq _ _ <| zwd fun Kq kq => Z00 (T := 42) (e := 86) (size := 34) (bytes := 64) rfl H182 (by kernel_rfl) 11 14 rfl rfl rfl rfl (ZX Z0L Z5v [(⟨x150.i, a170, c171, x150.P, x150.h⟩ : OpR)]) (by omega) (by omega) fun v184 w185 H186 => ?_
  have H189 : Sat w [Z3 w (fun _ => False), Z0 b2 54 (ZW F c E last vm mo), Z0 b6 25 (ZV T), Z0 b10 47 (ZQ), (Zm a19 KP c20), Z0 b42 47 (Z1A E T xa PD.length xc ya OD.length yc), (Zm xa PD xc), Z0b B2, Z0B b116 (Value.int .i64) Value.bool (Z2j X x150.i true), Z0 b120 129 (Z0h b116), (ZN a129 KO c130), Zc 86 34 v184 ((OD ++ [(⟨x150.i, a170, c171, x150.P, x150.h⟩ : OpR)]).length) ((OD ++ [(⟨x150.i, a170, c171, x150.P, x150.h⟩ : OpR)]).flatMap Z0L), Z0 b153 86 (Z19 x150.i a170 x150.P.length c171 x150.h), (Z4K a170 x150.P c171), Zc 86 34 (.slice (some ⟨b179, 0, none⟩) 1 1) 1 ([(⟨x150.i, a170, c171, x150.P, x150.h⟩ : OpR)].flatMap Z0L)] w185 := H186.cast (by simp only [List.length_append, List.flatMap_append] <;> rfl)
  obtain ⟨a187, c188, rfl⟩ := Z2 (H189.at 11 rfl)
  refine kq _ _ <| wv 83 (pt b42 3) <| zwd fun Kq kq => zds ([(.slice a187 ((OD ++ [(⟨x150.i, a170, c171, x150.P, x150.h⟩ : OpR)]).length) c188)] : List Value) (Z1A E T xa PD.length xc a187 ((OD ++ [(⟨x150.i, a170, c171, x150.P, x150.h⟩ : OpR)]).length) c188) H189 5 fun w191 H192 => ?_
  refine kq _ _ <| Zu <| Z7 <| ZF ?_
  have H194 : Sat w [Z0b (opC (⟨x150.i, a170, c171, x150.P, x150.h⟩ : OpR) :: B2), Z3 w (fun _ => False), Z0 b2 54 (ZW F c E last vm mo), Z0 b6 25 (ZV T), Z0 b10 47 (ZQ), (Zm a19 KP c20), Z0 b42 47 (Z1A E T xa PD.length xc a187 ((OD ++ [(⟨x150.i, a170, c171, x150.P, x150.h⟩ : OpR)]).length) c188), (Zm xa PD xc), Z0B b116 (Value.int .i64) Value.bool (Z2j X x150.i true), Z0 b120 129 (Z0h b116), (ZN a129 KO c130), (ZN a187 (OD ++ [(⟨x150.i, a170, c171, x150.P, x150.h⟩ : OpR)]) c188), Z0 b153 86 (Z19 x150.i a170 x150.P.length c171 x150.h), Zc 86 34 (.slice (some ⟨b179, 0, none⟩) 1 1) 1 ([(⟨x150.i, a170, c171, x150.P, x150.h⟩ : OpR)].flatMap Z0L)] w191 := (H192.pk [7, 13, 0, 1, 2, 3, 4, 5, 6, 8, 9, 10, 11, 12, 14]).bag
  have H195 := H194.pk [1, 2, 3, 4, 5, 6, 7, 0, 8, 9, 10, 11, 12, 13]
  refine Zl <| Z0c (Zb rfl) (d := 84) (v := (.int .i64 ((k : Int) + 1))) rfl (Z0g (z := (k : Int) + 1) (by kernel_rfl) (IntWalk.i64_in _ (by omega))) <| wv 64 (.int .i64 ((k : Int) + 1)) <| Zu ?_
  have H196 : Sat w [Z3 w (fun _ => False), Z0 b2 54 (ZW F c E last vm mo), Z0 b6 25 (ZV T), Z0 b10 47 (ZQ), (Zm a19 KP c20), Z0 b42 47 (Z1A E T xa PD.length xc a187 ((OD ++ [(⟨x150.i, a170, c171, x150.P, x150.h⟩ : OpR)]).length) c188), (Zm xa PD xc), Z0b (opC (⟨x150.i, a170, c171, x150.P, x150.h⟩ : OpR) :: B2), Z0B b116 (Value.int .i64) Value.bool (Z2j X x150.i true), Z0 b120 129 (Z0h b116), (ZN a129 KO c130), (ZN a187 (OD ++ [(⟨x150.i, a170, c171, x150.P, x150.h⟩ : OpR)]) c188)] w191 := H195.pk [0, 1, 2, 3, 4, 5, 6, 7, 8, 9, 10, 11]
  refine Z6 ?_ _ ⟨(k + 1), a187, c188, (OD ++ [(⟨x150.i, a170, c171, x150.P, x150.h⟩ : OpR)]), (opC (⟨x150.i, a170, c171, x150.P, x150.h⟩ : OpR) :: B2), (Z2j X x150.i true), rfl, (by omega), (Z8f hOD h151 rfl), (fun o ho => by rcases List.mem_append.1 ho with ho | ho; exact List.mem_cons_of_mem _ (hoin o ho); rw [List.mem_singleton.1 ho]; exact List.mem_cons_self), (fun p hp => (hpin2 p hp).more), (by rw [List.take_add_one, h151]; exact HvOk.put (num := fun x : OpR => x.i) (x := x150) hX), H196, rfl⟩ (by omega)
  exact zs
 have g197 := of_decide_eq_false b144
 refine Z2X _ b144 ?_
 refine Z4k <| Z1N <| Z5q <| Z3g <| ZF <| Z5 ?_
 rw [List.take_of_length_le (show KO.length ≤ k by omega)] at hX hOD
 have hKO2 : KO = D131 := by rw [hKO, List.take_of_length_le l133]
 refine Zl <| Z0c (Zb rfl) (d := 85) (v := (.func (.func 53) #[] #[(pt b2 0), (pt b120 0)])) rfl (by kernel_rfl) <| wv 21 (.func (.func 53) #[] #[(pt b2 0), (pt b120 0)]) <| Zu <| ZF <| Z5 <| Z5 <| Zl <| Z0c (Zb rfl) (d := 86) (v := (.slice ta TL.length tc)) rfl (by kernel_rfl) <| wv 87 (.func (.func 53) #[] #[(pt b2 0), (pt b120 0)]) <| zwd fun Kq kq => zdc 88 (ZbM w140 ta tc TL (ListAt.now H141 0 rfl hTL) hlT 64 F c E last vm mo M (H141.roMap 0 rfl hmo (fun h => h)) b2 (H141.at 1 rfl) b120 b116 X (H141.at 9 rfl) (H141.at 8 rfl) (h12T X)) ?_
 rintro _ w200 ⟨a201, c202, D203, rfl, s204, l205, k206, u207, f208⟩
 obtain ⟨KT, hKT⟩ : ∃ K_, K_ = D203.take 64 := ⟨_, rfl⟩
 rw [← hKT] at k206 f208 ⊢
 have H209 := H141.addU u207 k206 f208
 refine ⟨_, rfl, ?_⟩
 refine kq _ _ <| wv 89 (.int .i64 ((KT.length : Int))) <| wv 90 (.int .i64 (0)) <| Zu <| ZF <| Za ?_
 have H210 := H209.addNil 89 2
 have hKTl : KT.length ≤ 12 := by rw [hKT, List.length_take]; have q := s204.perm.length_eq; have q2 := h12T X; omega
 refine Zw ([23] ++ List.range' 90 15) (fun F_ W_ m_ => ∃ (j : Nat) (za : Option Addr) (zc : Nat) (TD : List TbR) (B3 : List Ck), F_ 90 = (.int .i64 ((j : Int))) ∧ (j ≤ KT.length) ∧ (TD.map keyT = (KT.take j).map keyT) ∧ (∀ t ∈ TD, tbC t ∈ B3) ∧ (∀ o ∈ OD, opC o ∈ B3) ∧ (∀ p ∈ PD, PIn B3 p) ∧ Sat w [Z3 w (fun _ => False), Z0 b2 54 (ZW F c E last vm mo), Z0 b6 25 (ZV T), Z0 b10 47 (ZQ), (Zm a19 KP c20), Z0 b42 47 (Z0E E T xa PD.length xc ya OD.length yc za TD.length zc), (Zm xa PD xc), Z0b B3, Z0B b116 (Value.int .i64) Value.bool X, Z0 b120 129 (Z0h b116), (ZN a129 KO c130), (ZN ya OD yc), (Z0w a201 KT c202), (Z0w za TD zc)] W_ ∧ m_ = KT.length - j) _ ⟨0, none, 0, [], B2, (show ((.int .i64 (0)) : Value) = _ by first | rfl | go_num), (Nat.zero_le _), rfl, (by simp), hoin, hpin2, H210, rfl⟩ ?_
 rintro g211 w212 _ ⟨j, za, zc, TD, B3, v214, hj, hTD, htin, hoin2, hpin3, H213, rfl⟩
 refine Zd 90 _ v214 ?_
 have hTDl := Z85 hTD
 rw [List.length_take] at hTDl
 refine Z5 <| Zl <| Z0c (Zb rfl) (d := 91) (v := (.bool (decide ((j : Int) < (KT.length : Int))))) rfl (by kernel_rfl) <| Zu <| ZF <| Z5 ?_
 refine (ZJ (decide ((j : Int) < (KT.length : Int)))).elim (fun b216 => ?_) (fun b216 => ?_)
 ·have g217 := of_decide_eq_true b216
  refine Z33 _ b216 ?_
  refine Zt <| ZF <| Z5 <| Za <| Z5 <| Zl ?_
  obtain ⟨g219, c220, e221⟩ := Z0z (H213.at 12 rfl) (by omega)
  obtain ⟨x222, h223⟩ := Z3E (show j < KT.length by omega)
  refine wv 92 (.pointer (some ⟨g219, 0 + ((j : Int)).toNat * 2, none⟩)) ?_ (hr := Z04 (E := 89) (by kernel_rfl) (by kernel_rfl) (Nat.le_of_ble_eq_true rfl) rfl e221 rfl (by omega) (by omega))
  refine wv 93 (.agg ⟨(Z4P x222)⟩) ?_ (hr := Z05 (vs := (Z4P x222)) rfl (by kernel_rfl) (by kernel_rfl) (Nat.le_of_ble_eq_true (by kernel_rfl)) (Z2n (H213.at 12 rfl) e221 Z2V h223 0 (show 0 + ((j : Int)).toNat * 2 = j * 2 + 0 by omega) (by kernel_rfl) (by kernel_rfl)))
  refine zwd fun Kq kq => zda ([(.int .i64 (0)), (.slice none 0 0)] : List Value) H213 ?_
  intro b225 w226 (H227 : Sat w [Z3 w (fun _ => False), Z0 b2 54 (ZW F c E last vm mo), Z0 b6 25 (ZV T), Z0 b10 47 (ZQ), (Zm a19 KP c20), Z0 b42 47 (Z0E E T xa PD.length xc ya OD.length yc za TD.length zc), (Zm xa PD xc), Z0b B3, Z0B b116 (Value.int .i64) Value.bool X, Z0 b120 129 (Z0h b116), (ZN a129 KO c130), (ZN ya OD yc), (Z0w a201 KT c202), (Z0w za TD zc), Z0 b225 89 ([(.int .i64 (0)), (.slice none 0 0)] : List Value)] w226)
  refine kq _ _ <| zwd fun Kq kq => Z1z (Z4P x222) H227 14 fun w229 H230 => ?_
  refine kq _ _ <| Zu <| ZF <| Z5 ?_
  have hXt : TbK w x222 := hTk _ (s204.sub (List.mem_of_mem_take (by rw [← hKT]; exact List.mem_of_getElem? h223))).1
  refine Zl <| Z0c (Zb rfl) (d := 94) (v := (pt b225 1)) rfl (by kernel_rfl) <| wv 95 ((.slice x222.da x222.D.length x222.dc)) ?_ (hr := zl1 (H230.cell 14 rfl rfl))
  refine zwd fun Kq kq => zdc 96 (ZbJ w229 ((.slice x222.da x222.D.length x222.dc)) x222.D (H230.roCk 0 rfl hXt.ok (fun _ _ h => h)) hXt.len) ?_
  rintro _ w233 ⟨u234, rfl, k235, p236, q237⟩
  have H238 : Sat w [Z3 w (fun _ => False), Z0 b2 54 (ZW F c E last vm mo), Z0 b6 25 (ZV T), Z0 b10 47 (ZQ), (Zm a19 KP c20), Z0 b42 47 (Z0E E T xa PD.length xc ya OD.length yc za TD.length zc), (Zm xa PD xc), Z0b B3, Z0B b116 (Value.int .i64) Value.bool X, Z0 b120 129 (Z0h b116), (ZN a129 KO c130), (ZN ya OD yc), (Z0w a201 KT c202), (Z0w za TD zc), Z0 b225 89 (Z4P x222), Zc 122 4 u234 x222.D.length (x222.D.flatMap Z3n)] w233 := H230.addU p236 k235 q237
  obtain ⟨a239, c240, rfl⟩ := Z2 (H238.at 15 rfl)
  refine ⟨_, rfl, ?_⟩
  refine kq _ _ <| wv 97 (pt b225 1) <| zwd fun Kq kq => zds ([(.slice a239 x222.D.length c240)] : List Value) (Z1k x222.i a239 x222.D.length c240) H238 14 fun w242 H243 => ?_
  refine kq _ _ <| Zu <| ZF <| Zl <| Z0c (Zb rfl) (d := 98) (v := (pt b42 4)) rfl (by kernel_rfl) <| wv 99 (.slice za TD.length zc) ?_ (hr := zl1 (H243.cell 5 rfl rfl))
  refine wv 100 (.agg ⟨(Z1k x222.i a239 x222.D.length c240)⟩) ?_ (hr := zlN (vs := (Z1k x222.i a239 x222.D.length c240)) (H243.at 14 rfl))
  refine zwd fun Kq kq => Z2w 89 2 32 (.agg ⟨([(.int .i64 (0)), (.slice none 0 0)] : List Value)⟩) [(0, (.agg ⟨(Z1k x222.i a239 x222.D.length c240)⟩))] (Z1k x222.i a239 x222.D.length c240) H243 ?_
  intro b246 w247 (H248 : Sat w [Z3 w (fun _ => False), Z0 b2 54 (ZW F c E last vm mo), Z0 b6 25 (ZV T), Z0 b10 47 (ZQ), (Zm a19 KP c20), Z0 b42 47 (Z0E E T xa PD.length xc ya OD.length yc za TD.length zc), (Zm xa PD xc), Z0b B3, Z0B b116 (Value.int .i64) Value.bool X, Z0 b120 129 (Z0h b116), (ZN a129 KO c130), (ZN ya OD yc), (Z0w a201 KT c202), (Z0w za TD zc), Z0 b225 89 (Z1k x222.i a239 x222.D.length c240), (Z5X a239 x222.D c240), Zc 89 2 (.slice (some ⟨b246, 0, none⟩) 1 1) 1 (Z1k x222.i a239 x222.D.length c240)] w247)
  have H249 := H248.ct 16 rfl (Zc 89 2 (.slice (some ⟨b246, 0, none⟩) 1 1) 1 ([(⟨x222.i, a239, c240, x222.D⟩ : TbR)].flatMap Z0I)) (by rw [(show ((Z1k x222.i a239 x222.D.length c240) : List Value) = [(⟨x222.i, a239, c240, x222.D⟩ : TbR)].flatMap Z0I by kernel_rfl)])
  refine kq _ _ <| zwd fun Kq kq => Z00 (T := 43) (e := 89) (size := 2) (bytes := 32) rfl H249 (by kernel_rfl) 13 16 rfl rfl rfl rfl (ZX Z0I Z5F [(⟨x222.i, a239, c240, x222.D⟩ : TbR)]) (by omega) (by omega) ?_
  intro v251 w252 (H253 : Sat w [Z3 w (fun _ => False), Z0 b2 54 (ZW F c E last vm mo), Z0 b6 25 (ZV T), Z0 b10 47 (ZQ), (Zm a19 KP c20), Z0 b42 47 (Z0E E T xa PD.length xc ya OD.length yc za TD.length zc), (Zm xa PD xc), Z0b B3, Z0B b116 (Value.int .i64) Value.bool X, Z0 b120 129 (Z0h b116), (ZN a129 KO c130), (ZN ya OD yc), (Z0w a201 KT c202), Zc 89 2 v251 (TD.length + 1) ((TD.flatMap Z0I) ++ ([(⟨x222.i, a239, c240, x222.D⟩ : TbR)].flatMap Z0I)), Z0 b225 89 (Z1k x222.i a239 x222.D.length c240), (Z5X a239 x222.D c240), Zc 89 2 (.slice (some ⟨b246, 0, none⟩) 1 1) 1 ([(⟨x222.i, a239, c240, x222.D⟩ : TbR)].flatMap Z0I)] w252)
  have H256 := H253.ct 13 rfl (Zc 89 2 v251 ((TD ++ [(⟨x222.i, a239, c240, x222.D⟩ : TbR)]).length) ((TD ++ [(⟨x222.i, a239, c240, x222.D⟩ : TbR)]).flatMap Z0I)) ja
  obtain ⟨a254, c255, rfl⟩ := Z2 (H256.at 13 rfl)
  refine kq _ _ <| wv 103 (pt b42 4) <| zwd fun Kq kq => zds ([(.slice a254 ((TD ++ [(⟨x222.i, a239, c240, x222.D⟩ : TbR)]).length) c255)] : List Value) (Z0E E T xa PD.length xc ya OD.length yc a254 ((TD ++ [(⟨x222.i, a239, c240, x222.D⟩ : TbR)]).length) c255) H256 5 ?_
  intro w258 (H259 : Sat w [Z3 w (fun _ => False), Z0 b2 54 (ZW F c E last vm mo), Z0 b6 25 (ZV T), Z0 b10 47 (ZQ), (Zm a19 KP c20), Z0 b42 47 (Z0E E T xa PD.length xc ya OD.length yc a254 ((TD ++ [(⟨x222.i, a239, c240, x222.D⟩ : TbR)]).length) c255), (Zm xa PD xc), Z0b B3, Z0B b116 (Value.int .i64) Value.bool X, Z0 b120 129 (Z0h b116), (ZN a129 KO c130), (ZN ya OD yc), (Z0w a201 KT c202), (Z0w a254 (TD ++ [(⟨x222.i, a239, c240, x222.D⟩ : TbR)]) c255), Z0 b225 89 (Z1k x222.i a239 x222.D.length c240), (Z5X a239 x222.D c240), Zc 89 2 (.slice (some ⟨b246, 0, none⟩) 1 1) 1 ([(⟨x222.i, a239, c240, x222.D⟩ : TbR)].flatMap Z0I)] w258)
  refine kq _ _ <| Zu <| Z7 <| ZF ?_
  have H261 := (H259.pk [7, 15, 0, 1, 2, 3, 4, 5, 6, 8, 9, 10, 11, 12, 13, 14, 16]).bag
  have H262 : Sat w [Z3 w (fun _ => False), Z0 b2 54 (ZW F c E last vm mo), Z0 b6 25 (ZV T), Z0 b10 47 (ZQ), (Zm a19 KP c20), Z0 b42 47 (Z0E E T xa PD.length xc ya OD.length yc a254 ((TD ++ [(⟨x222.i, a239, c240, x222.D⟩ : TbR)]).length) c255), (Zm xa PD xc), Z0b (tbC (⟨x222.i, a239, c240, x222.D⟩ : TbR) :: B3), Z0B b116 (Value.int .i64) Value.bool X, Z0 b120 129 (Z0h b116), (ZN a129 KO c130), (ZN ya OD yc), (Z0w a201 KT c202), (Z0w a254 (TD ++ [(⟨x222.i, a239, c240, x222.D⟩ : TbR)]) c255), Z0 b225 89 (Z1k x222.i a239 x222.D.length c240), Zc 89 2 (.slice (some ⟨b246, 0, none⟩) 1 1) 1 ([(⟨x222.i, a239, c240, x222.D⟩ : TbR)].flatMap Z0I)] w258 := H261.pk [1, 2, 3, 4, 5, 6, 7, 0, 8, 9, 10, 11, 12, 13, 14, 15]
  refine Zl <| Z0c (Zb rfl) (d := 104) (v := (.int .i64 ((j : Int) + 1))) rfl (Z0g (z := (j : Int) + 1) (by kernel_rfl) (IntWalk.i64_in _ (by omega))) <| wv 90 (.int .i64 ((j : Int) + 1)) <| Zu ?_
  have H263 := H262.pk [0, 1, 2, 3, 4, 5, 6, 7, 8, 9, 10, 11, 12, 13]
  refine Z6 ?_ _ ⟨(j + 1), a254, c255, (TD ++ [(⟨x222.i, a239, c240, x222.D⟩ : TbR)]), (tbC (⟨x222.i, a239, c240, x222.D⟩ : TbR) :: B3), rfl, (by omega), (Z8f hTD h223 rfl), (fun t ht => by rcases List.mem_append.1 ht with ht | ht; exact List.mem_cons_of_mem _ (htin t ht); rw [List.mem_singleton.1 ht]; exact List.mem_cons_self), (fun o ho => List.mem_cons_of_mem _ (hoin2 o ho)), (fun p hp => (hpin3 p hp).more), H263, rfl⟩ (by omega)
  exact zs
 have g264 := of_decide_eq_false b216
 refine Z2X _ b216 ?_
 refine Z4k <| Z1N <| Z5q <| Z3g <| ZF <| Z5 <| Zl <| Z0c (Zb rfl) (d := 105) (v := (.agg ⟨(Z0E E T xa PD.length xc ya OD.length yc za TD.length zc)⟩)) rfl (zlN (vs := (Z0E E T xa PD.length xc ya OD.length yc za TD.length zc)) (H213.at 5 rfl)) <| zwd fun Kq kq => Z1z (Z0E E T xa PD.length xc ya OD.length yc za TD.length zc) H213 3 ?_
 intro w267 (H268 : Sat w [Z3 w (fun _ => False), Z0 b2 54 (ZW F c E last vm mo), Z0 b6 25 (ZV T), Z0 b10 47 (Z0E E T xa PD.length xc ya OD.length yc za TD.length zc), (Zm a19 KP c20), Z0 b42 47 (Z0E E T xa PD.length xc ya OD.length yc za TD.length zc), (Zm xa PD xc), Z0b B3, Z0B b116 (Value.int .i64) Value.bool X, Z0 b120 129 (Z0h b116), (ZN a129 KO c130), (ZN ya OD yc), (Z0w a201 KT c202), (Z0w za TD zc)] w267)
 refine kq _ _ <| wv 11 (.int .i64 (0)) <| Zu <| ZF <| Zq <| Z9t rfl (ZL (vs := (Z0E E T xa PD.length xc ya OD.length yc za TD.length zc)) rfl (by kernel_rfl) (by kernel_rfl) (Nat.le_of_ble_eq_true (by kernel_rfl)) (H268.at 3 rfl) (by kernel_rfl)) (Z10 (v := (.int .i64 (0))) rfl) ?_
 rw [List.take_of_length_le (show KT.length ≤ j by omega)] at hTD
 exact ⟨D21, s22, .inr ⟨Q, hQ, D131, X, D203, xa, xc, PD, ya, yc, OD, za, zc, TD, B3, s132, by rw [← hKO2]; exact hX, s204, (by have q2 : ¬ KP.length < Q := (by omega); have q3 := congrArg List.length hKP; rw [List.length_take] at q3; omega), rfl, by rw [← hKP]; exact hPC, by rw [← hKO2]; exact hOD, by rw [← hKT]; exact hTD, hpin3, hoin2, htin, H268.fn [6, 11, 13, 7], H268.upd 0 rfl [] (fun _ h => h.elim), H268.freshS 0 rfl (fun _ h => h) [6, 11, 13, 7] rfl rfl⟩⟩
end Go.Proofs.YtenihpghfdcpkaaGreat
