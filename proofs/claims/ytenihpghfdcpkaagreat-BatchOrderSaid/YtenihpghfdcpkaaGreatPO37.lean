/- WHAT IS PROVED: contracts and plain laws of Make12. Conditions: stated with each. -/
import Derived.Test.YtenihpghfdcpkaaGreatPO02
import Derived.Test.YtenihpghfdcpkaaGreatPO05
import Derived.Test.YtenihpghfdcpkaaGreatPO33
import Derived.Test.YtenihpghfdcpkaaGreatPO35
import Derived.Test.YtenihpghfdcpkaaGreatPO36
set_option maxHeartbeats 4000000
set_option maxRecDepth 100000
namespace Go.Proofs.YtenihpghfdcpkaaGreat
open Go.RowKit
abbrev Z02 (p0 : Int) (p1 : Int) (p2 : Int) (p3 : Int) (p4 : Value) (p5 : Nat) : List Value := ([i6 p0, i6 p1, i6 p2, u6 p3, p4, (.map (some p5))] : LV)
abbrev Z03 (p0 : Int) : List Value := ([u6 p0] : LV)
abbrev ZW : List Value := ([i6 0, u6 0, (.slice none 0 0), (.slice none 0 0), (.slice none 0 0)] : LV)
abbrev Zy (p0 : Option Addr) (p1 : List PrR) (p2 : Nat) : Ck := Zh 71 6 (.slice p0 p1.length p2) p1.length (p1.flatMap Z0C)
abbrev Z9N (p0 : Int) (p1 : Int) : List Value := ([i6 p0, u6 p1, (.slice none 0 0), (.slice none 0 0), (.slice none 0 0)] : LV)
abbrev Z1J (p0 : Int) (p1 : Int) (p2 : Option Addr) (p3 : Nat) (p4 : Nat) : List Value := ([i6 p0, u6 p1, (.slice p2 p3 p4), (.slice none 0 0), (.slice none 0 0)] : LV)
abbrev Z1y (p0 : PrR) : List Value := ([i6 p0.r, i6 p0.e, u6 p0.f, (.slice p0.ca p0.C.length p0.cc), i6 p0.sb, i6 p0.sm] : LV)
abbrev Z7h : List Value := ([i6 0, i6 0, u6 0, (.slice none 0 0), i6 0, i6 0] : LV)
abbrev Z4u (p0 : Option Addr) (p1 : List CeR) (p2 : Nat) : Ck := Zh 76 38 (.slice p0 p1.length p2) p1.length (p1.flatMap Z0Z)
abbrev Z5I (p0 : PrR) (p1 : Option Addr) (p2 : Nat) (p3 : Nat) : List Value := ([i6 p0.r, i6 p0.e, u6 p0.f, (.slice p1 p2 p3), i6 p0.sb, i6 p0.sm] : LV)
abbrev Z0v (p0 : Nat) : List Value := ([(.map (some p0))] : LV)
abbrev ZR (p0 : Option Addr) (p1 : List OpR) (p2 : Nat) : Ck := Zh 86 34 (.slice p0 p1.length p2) p1.length (p1.flatMap Z0Y)
abbrev Z1L (p0 : Int) (p1 : Int) (p2 : Option Addr) (p3 : Nat) (p4 : Nat) (p5 : Option Addr) (p6 : Nat) (p7 : Nat) : List Value := ([i6 p0, u6 p1, (.slice p2 p3 p4), (.slice p5 p6 p7), (.slice none 0 0)] : LV)
abbrev Z51 (p0 : OpR) : List Value := ([i6 p0.i, (.slice p0.pa p0.P.length p0.pc)] : LV) ++ hc p0.h
abbrev Z1k (p0 : Int) (p1 : Option Addr) (p2 : Nat) (p3 : Nat) (p4 : Hash) : List Value := ([i6 p0, (.slice p1 p2 p3)] : LV) ++ hc p4
abbrev Z4Y (p0 : Option Addr) (p1 : List UInt8) (p2 : Nat) : Ck := Zh 5 1 (.slice p0 p1.length p2) p1.length (p1.flatMap Zr)
abbrev Z0Q (p0 : Option Addr) (p1 : List TbR) (p2 : Nat) : Ck := Zh 89 2 (.slice p0 p1.length p2) p1.length (p1.flatMap Z0U)
abbrev Z11 (p0 : Int) (p1 : Int) (p2 : Option Addr) (p3 : Nat) (p4 : Nat) (p5 : Option Addr) (p6 : Nat) (p7 : Nat) (p8 : Option Addr) (p9 : Nat) (p10 : Nat) : List Value := ([i6 p0, u6 p1, (.slice p2 p3 p4), (.slice p5 p6 p7), (.slice p8 p9 p10)] : LV)
abbrev Z4Q (p0 : TbR) : List Value := ([i6 p0.i, (.slice p0.da p0.D.length p0.dc)] : LV)
abbrev Z1z (p0 : Int) (p1 : Option Addr) (p2 : Nat) (p3 : Nat) : List Value := ([i6 p0, (.slice p1 p2 p3)] : LV)
abbrev Z68 (p0 : Option Addr) (p1 : List Z1r) (p2 : Nat) : Ck := Zh 122 4 (.slice p0 p1.length p2) p1.length (p1.flatMap Z3b)
theorem PIn.more2 {L L' : List Ck} {p : PrR} (h : PIn L p) (hs : ∀ C ∈ L, C ∈ L') : PIn L' p := ⟨hs _ h.1, fun c hc => hs _ (h.2 c hc)⟩
theorem Zfz (w : World) (F c E T last : Int) (hF : 1 ≤ F ∧ F ≤ 1000000) (vm : Value) (mo : Nat) (M : List (Int × Z1q)) (hmo : MapAt w mo (Value.int .i64) Z2y M) (hM : OpenOk M) (pa : Option Addr) (pc : Nat) (P : List PrR) (hP : ListAt Z0C 6 w (.slice pa P.length pc) P) (hlP : P.length ≤ 1000) (hPk : ∀ p ∈ P, PrK w p) (h12P : (Z14 (fun x : PrR => x.r) (Z6n F E T) P).length ≤ 12) (qa : Option Addr) (qc : Nat) (O : List OpR) (hO : ListAt Z0Y 34 w (.slice qa O.length qc) O) (hlO : O.length ≤ 1000) (hOk : ∀ o ∈ O, OpK w o) (h12O : (Z14 (fun x : OpR => x.i) (Z7z M) O).length ≤ 12) (ta : Option Addr) (tc : Nat) (TL : List TbR) (hTL : ListAt Z0U 2 w (.slice ta TL.length tc) TL) (hlT : TL.length ≤ 1000) (hTk : ∀ t ∈ TL, TbK w t) (h12T : ∀ X, (Z14 (fun x : TbR => x.i) (Z5Y M X) TL).length ≤ 12) :
  Calls Tryz.prog 12 #[(.agg ⟨([i6 F, i6 c, i6 E, u6 last, (vm), (.map (some mo))] : LV)⟩), u6 T, (.slice pa P.length pc), (.slice qa O.length qc), (.slice ta TL.length tc)] w fun e w' => ∃ DP, SortN (fun x : PrR => x.r) (Z6n F E T) P DP ∧ (((DP.length : Int) < 2 * F + 1 ∧ e = .returned (.tuple #[(.agg ⟨([i6 0, u6 0, (.slice none 0 0), (.slice none 0 0), (.slice none 0 0)] : LV)⟩), i6 8]) ∧ Upd [] w w') ∨ ∃ (Q : Nat) (_ : (Q : Int) = 2 * F + 1) (DO : List OpR) (X : List (Int × Bool)) (DT : List TbR) (xa : Option Addr) (xc : Nat) (PD : List PrR) (ya : Option Addr) (yc : Nat) (OD : List OpR) (za : Option Addr) (zc : Nat) (TD : List TbR) (B3 : List Ck), SortN (fun x : OpR => x.i) (Z7z M) O DO ∧ HvOk X (fun x : OpR => x.i) DO ∧ SortN (fun x : TbR => x.i) (Z5Y M X) TL DT ∧ Q ≤ DP.length ∧ e = .returned (.tuple #[.agg ⟨[i6 E, u6 T, .slice xa PD.length xc, .slice ya OD.length yc, .slice za TD.length zc]⟩, i6 0]) ∧ ZgN (DP.take Q) PD ∧ CoOs DO OD ∧ CoTs (DT.take 64) TD ∧ (∀ p ∈ PD, PIn B3 p) ∧ (∀ o ∈ OD, opC o ∈ B3) ∧ (∀ t ∈ TD, tbC t ∈ B3) ∧ (Z04 [Zh 71 6 (.slice xa PD.length xc) PD.length (PD.flatMap Z0C), Zh 86 34 (.slice ya OD.length yc) OD.length (OD.flatMap Z0Y), Zh 89 2 (.slice za TD.length zc) TD.length (TD.flatMap Z0U), Z0s B3]).ok w' ∧ Upd [] w w' ∧ ∀ q_, (Z04 [Zh 71 6 (.slice xa PD.length xc) PD.length (PD.flatMap Z0C), Zh 86 34 (.slice ya OD.length yc) OD.length (OD.flatMap Z0Y), Zh 89 2 (.slice za TD.length zc) TD.length (TD.flatMap Z0U), Z0s B3]).fp q_ → w.heap.size ≤ q_) := by
 have H := Sat.start0 w
 obtain ⟨Q, hQ⟩ : ∃ Q : Nat, (Q : Int) = 2 * F + 1 := ⟨(2 * F + 1).toNat, by omega⟩
 refine Za Tryz.func12 rfl 106 rfl kn ?_
 refine Z7 <| Zl <| Z48 (Z8 rfl) (fun Kq kq => ?_)
 refine zdb (Z02 F c E last vm mo) H ?_
 intro b2 w3 H4
 refine kq _ _ <| zy <| zdb (Z03 T) H4 ?_
 intro b6 w7 (H8 : Sat w [zR w, Z0 b2 54 (Z02 F c E last vm mo), Z0 b6 25 (Z03 T)] w7)
 refine kk <| zy <| zda (ZW) H8 fun b10 w11 H12 => ?_
 refine kk <| wv 11 (vi 0) <| Zn <| Zt <| Z7 <| Zl <| Z0d (Z8 rfl) (d := 24) (v := (.func (.func 42) #[] #[(pt b2 0), (pt b6 0)])) rfl kr <| wv 12 (.func (.func 42) #[] #[(pt b2 0), (pt b6 0)]) <| Zn <| Zt <| Z7 <| Zl <| Z0d (Z8 rfl) (d := 25) (v := (.slice pa P.length pc)) rfl kr <| wv 26 (.func (.func 42) #[] #[(pt b2 0), (pt b6 0)]) <| wv 27 (pt b2 0) <| wv 28 (.agg ⟨([(vi F), (vi c)] : LV)⟩) ?_ (hr := zlN (vs := ([(vi F), (vi c)] : LV)) (H12.at 1 rfl))
 refine zy <| zdq 29 (((Z9k w11 F c om).mono fun e w' h => (show e = .returned (vi Q) ∧ Upd [] w11 w' by rw [hQ]; exact h))) H12 fun w14 H15 => ?_
 refine kk <| zy <| zdc 30 (ZbG w14 pa pc P (ListAt.now H15 0 rfl hP) hlP Q b2 b6 F c E last T ⟨hF.1, by omega⟩ vm (.map (some mo)) (H15.at 1 rfl) (H15.at 2 rfl) h12P) ?_
 rintro _ w18 ⟨a19, c20, D21, rfl, s22, l23, k24, u25, f26⟩
 obtain ⟨KP, hKP⟩ : ∃ K_, K_ = D21.take Q := ⟨_, rfl⟩
 rw [← hKP] at k24 f26 ⊢
 have H27 : Sat w [zR w, Z0 b2 54 (Z02 F c E last vm mo), Z0 b6 25 (Z03 T), Z0 b10 47 (ZW), (Zy a19 KP c20)] w18 := H15.addU u25 k24 f26
 refine ⟨_, rfl, ?_⟩
 refine kk <| wv 13 (.slice a19 KP.length c20) <| Zn <| Zt <| Z7 <| Z7 <| Zl <| Z0d (Z8 rfl) (d := 31) (v := (.slice a19 KP.length c20)) rfl kr <| wv 32 (vi KP.length) <| wv 33 (pt b2 0) <| wv 34 (.agg ⟨([(vi F), (vi c)] : LV)⟩) ?_ (hr := zlN (vs := ([(vi F), (vi c)] : LV)) (H27.at 1 rfl))
 refine zy <| zdq 35 (((Z9k w18 F c om).mono fun e w' h => (show e = .returned (vi Q) ∧ Upd [] w18 w' by rw [hQ]; exact h))) H27 fun w29 H30 => ?_
 refine kk <| wv 36 (.bool (decide ((KP.length : Int) < Q))) <| Zn <| Zt ?_
 refine zid (fun b32 g33 => ?_) fun b32 g39 => ?_
 ·refine Z7 <| Zl <| Z0d (Z8 rfl) (d := 37) (v := (.agg ⟨(ZW)⟩)) rfl kr <| zy <| Z1p (ZW) H30 3 fun w36 H37 => ?_
  refine kk <| wv 11 (vi 8) <| Zn <| Zt <| Zk <| Zb <| Z9S rfl (ZP (vs := (ZW)) rfl kr kr kn (H37.at 3 rfl) kr) (Z0R (v := (vi 8)) rfl) ?_
  exact ⟨D21, s22, .inl ⟨(by have q2 : KP.length < Q := om; have q3 := congrArg List.length hKP; rw [List.length_take] at q3; omega), rfl, H37.upd 0 rfl [] ne⟩⟩
 refine Zm <| Zt <| Z7 <| Zl <| Z0d (Z8 rfl) (d := 38) (v := (pt b2 2)) rfl kr <| wv 39 (vi E) ?_ (hr := zl1 (H30.cell 1 rfl rfl))
 refine wv 40 (vu T) ?_ (hr := zl1 (H30.cell 2 rfl rfl))
 refine wv 41 (.agg ⟨(Z9N E T)⟩) <| zy <| zda (ZW) H30 ?_
 intro b42 w43 (H44 : Sat w [zR w, Z0 b2 54 (Z02 F c E last vm mo), Z0 b6 25 (Z03 T), Z0 b10 47 (ZW), (Zy a19 KP c20), Z0 b42 47 (ZW)] w43)
 refine kk <| zy <| Z1p (Z9N E T) H44 5 fun w46 H47 => ?_
 refine kk <| Zn <| Zt <| Z7 <| Z7 <| Zl <| Z0d (Z8 rfl) (d := 42) (v := (.slice a19 KP.length c20)) rfl kr <| wv 43 (vi KP.length) <| wv 44 (vi 0) <| Zn <| Zt <| Zc ?_
 have H49 := H47.addNil 71 6
 have H50 := H49.bag0
 have hKPl : KP.length ≤ 12 := by rw [hKP, List.length_take]; have q := s22.perm.length_eq; omega
 refine Zq ([16] ++ List.range' 44 12) (fun F_ W_ m_ => ∃ (i : Nat) (xa : Option Addr) (xc : Nat) (PD : List PrR) (B : List Ck), F_ 44 = (vi i) ∧ (i ≤ KP.length) ∧ (PD.map Zba = (KP.take i).map Zba) ∧ (∀ p ∈ PD, PIn B p) ∧ Sat w [zR w, Z0 b2 54 (Z02 F c E last vm mo), Z0 b6 25 (Z03 T), Z0 b10 47 (ZW), (Zy a19 KP c20), Z0 b42 47 (Z1J E T xa PD.length xc), (Zy xa PD xc), Z0s B] W_ ∧ m_ = KP.length - i) _ ⟨0, none, 0, [], [], (show ((vi 0) : Value) = _ by first | rfl | go_num), (Nat.zero_le _), rfl, (by simp), H50, rfl⟩ ?_
 rintro g51 w52 _ ⟨i, xa, xc, PD, B, v54, hi, hPD, hpin, H53, rfl⟩
 refine Ze 44 _ v54 ?_
 have hPDl := Z49 hPD
 rw [List.length_take] at hPDl
 refine Z7 <| Zl <| Z0d (Z8 rfl) (d := 45) (v := (.bool (decide ((i : Int) < KP.length)))) rfl kr <| Zn <| Zt <| Z7 ?_
 refine zid (fun b56 g57 => ?_) fun b56 g113 => ?_
 ·refine Zm <| Zt <| Z7 <| Zc <| Z7 <| Zl ?_
  obtain ⟨g59, c60, e61⟩ := Z0w (H53.at 4 rfl) om
  obtain ⟨x62, h63⟩ := Z2z (show i < KP.length by omega)
  refine wv 46 (.pointer (some ⟨g59, 0 + ((i : Int)).toNat * 6, none⟩)) ?_ (hr := ZA (E := 71) kr kr kn rfl e61 rfl om om)
  refine wv 47 (.agg ⟨(Z1y x62)⟩) ?_ (hr := ZE (vs := (Z1y x62)) rfl kr kr kn (Z0J (H53.at 4 rfl) e61 Z2i h63 0 (show 0 + ((i : Int)).toNat * 6 = i * 6 + 0 by omega) kr kr))
  refine zy <| zda (Z7h) H53 ?_
  intro b65 w66 (H67 : Sat w [zR w, Z0 b2 54 (Z02 F c E last vm mo), Z0 b6 25 (Z03 T), Z0 b10 47 (ZW), (Zy a19 KP c20), Z0 b42 47 (Z1J E T xa PD.length xc), (Zy xa PD xc), Z0s B, Z0 b65 71 (Z7h)] w66)
  refine kk <| zy <| Z1p (Z1y x62) H67 8 fun w69 H70 => ?_
  refine kk <| Zn <| Zt ?_
  have hXk : PrK w x62 := hPk _ (s22.sub (List.mem_of_mem_take (by rw [← hKP]; exact List.mem_of_getElem? h63))).1
  refine Z1j H70 [zR w, Z0 b2 54 (Z02 F c E last vm mo), Z0 b6 25 (Z03 T), Z0 b10 47 (ZW), (Zy a19 KP c20), Z0 b42 47 (Z1J E T xa PD.length xc), Z0s B, Z0 b65 71 (Z1y x62)] [7] 8 rfl kr (fun Hx => (Hx.pk [0, 1, 2, 3, 4, 5, 7, 8])) ?_
  intro w72 H73 S74
  refine zkp 0 S74 48 (pt b42 2) <| zkv 1 S74 49 (.slice xa PD.length xc) ?_ (he := fun _ H' => (zl1 (H'.cell 5 rfl rfl)))
  refine zkv 2 S74 50 (.agg ⟨(Z1y x62)⟩) ?_ (he := fun _ H' => (zlN (vs := (Z1y x62)) (H'.at 7 rfl)))
  refine zky 3 ?_
  refine zdc 51 (Z9c w72 x62 (ListAt.now H73 0 rfl hXk.at_) hXk.len (fun i hi => H73.roCk 0 rfl (hXk.st i hi) (fun _ _ h => h)) hXk.sl) ?_
  rintro _ w76 ⟨a77, c78, D79, B80, rfl, e81, n82, k83, u84, f85⟩
  have H86 : Sat w [zR w, Z0 b2 54 (Z02 F c E last vm mo), Z0 b6 25 (Z03 T), Z0 b10 47 (ZW), (Zy a19 KP c20), Z0 b42 47 (Z1J E T xa PD.length xc), (Zy xa PD xc), Z0s B, Z0 b65 71 (Z1y x62), Z04 [(Z4u a77 D79 c78), Z0s B80]] w76 := H73.addU u84 k83 f85
  have H87 := H86.open 9 rfl
  refine ⟨_, rfl, ?_⟩
  have S88 := H87.pk [0, 1, 2, 3, 4, 5, 7, 8]
  refine ke S88 <| zky 4 ?_
  refine Z2J 71 6 64 (.agg ⟨(Z7h)⟩) [(0, (.agg ⟨(Z5I x62 a77 D79.length c78)⟩))] (Z5I x62 a77 D79.length c78) H87 ?_
  intro b90 w91 (H92 : Sat w [zR w, Z0 b2 54 (Z02 F c E last vm mo), Z0 b6 25 (Z03 T), Z0 b10 47 (ZW), (Zy a19 KP c20), Z0 b42 47 (Z1J E T xa PD.length xc), (Zy xa PD xc), Z0s B, Z0 b65 71 (Z1y x62), (Z4u a77 D79 c78), Z0s B80, Zh 71 6 (.slice (some ⟨b90, 0, none⟩) 1 1) 1 (Z5I x62 a77 D79.length c78)] w91)
  have H93 := H92.ct 11 rfl (Zh 71 6 (.slice (some ⟨b90, 0, none⟩) 1 1) 1 ([(⟨x62.r, x62.e, x62.f, a77, c78, x62.sb, x62.sm, D79⟩ : PrR)].flatMap Z0C)) (by rw [(show ((Z5I x62 a77 D79.length c78) : LV) = [(⟨x62.r, x62.e, x62.f, a77, c78, x62.sb, x62.sm, D79⟩ : PrR)].flatMap Z0C by kernel_rfl)])
  have S94 := H93.pk [0, 1, 2, 3, 4, 5, 7, 8]
  refine ke S94 <| zky 5 ?_
  refine Z0g (T := 41) (e := 71) (size := 6) (bytes := 64) rfl H93 kr 6 11 rfl rfl rfl rfl (Z07 Z0C Z5l [(⟨x62.r, x62.e, x62.f, a77, c78, x62.sb, x62.sm, D79⟩ : PrR)]) om om ?_
  intro v96 w97 (H98 : Sat w [zR w, Z0 b2 54 (Z02 F c E last vm mo), Z0 b6 25 (Z03 T), Z0 b10 47 (ZW), (Zy a19 KP c20), Z0 b42 47 (Z1J E T xa PD.length xc), Zh 71 6 v96 (PD.length + 1) ((PD.flatMap Z0C) ++ ([(⟨x62.r, x62.e, x62.f, a77, c78, x62.sb, x62.sm, D79⟩ : PrR)].flatMap Z0C)), Z0s B, Z0 b65 71 (Z1y x62), (Z4u a77 D79 c78), Z0s B80, Zh 71 6 (.slice (some ⟨b90, 0, none⟩) 1 1) 1 ([(⟨x62.r, x62.e, x62.f, a77, c78, x62.sb, x62.sm, D79⟩ : PrR)].flatMap Z0C)] w97)
  have H101 := H98.ct 6 rfl (Zh 71 6 v96 ((PD ++ [(⟨x62.r, x62.e, x62.f, a77, c78, x62.sb, x62.sm, D79⟩ : PrR)]).length) ((PD ++ [(⟨x62.r, x62.e, x62.f, a77, c78, x62.sb, x62.sm, D79⟩ : PrR)]).flatMap Z0C)) ja
  obtain ⟨a99, c100, rfl⟩ := Z1 (H101.at 6 rfl)
  have S102 := H101.pk [0, 1, 2, 3, 4, 5, 7, 8]
  refine ke S102 <| zkp 6 S102 54 (pt b42 2) <| Z3s 7 (Sat w [zR w, Z0 b2 54 (Z02 F c E last vm mo), Z0 b6 25 (Z03 T), Z0 b10 47 (ZW), (Zy a19 KP c20), Z0s B, Z0 b65 71 (Z1y x62)]) rfl kr (Z8 rfl) rfl (fun Kq kq => ?_)
  refine zds ([(.slice a99 ((PD ++ [(⟨x62.r, x62.e, x62.f, a77, c78, x62.sb, x62.sm, D79⟩ : PrR)]).length) c100)] : LV) (Z1J E T a99 ((PD ++ [(⟨x62.r, x62.e, x62.f, a77, c78, x62.sb, x62.sm, D79⟩ : PrR)]).length) c100) H101 5 ?_
  intro w104 (H105 : Sat w [zR w, Z0 b2 54 (Z02 F c E last vm mo), Z0 b6 25 (Z03 T), Z0 b10 47 (ZW), (Zy a19 KP c20), Z0 b42 47 (Z1J E T a99 ((PD ++ [(⟨x62.r, x62.e, x62.f, a77, c78, x62.sb, x62.sm, D79⟩ : PrR)]).length) c100), (Zy a99 (PD ++ [(⟨x62.r, x62.e, x62.f, a77, c78, x62.sb, x62.sm, D79⟩ : PrR)]) c100), Z0s B, Z0 b65 71 (Z1y x62), (Z4u a77 D79 c78), Z0s B80, Zh 71 6 (.slice (some ⟨b90, 0, none⟩) 1 1) 1 ([(⟨x62.r, x62.e, x62.f, a77, c78, x62.sb, x62.sm, D79⟩ : PrR)].flatMap Z0C)] w104)
  have S107 := H105.pk [0, 1, 2, 3, 4, 7, 8]
  refine kq _ _ S107 <| zhf <| Z6 <| Zt ?_
  have H108 := (H105.pk [10, 7, 0, 1, 2, 3, 4, 5, 6, 8, 9, 11]).bagApp
  have H109 : Sat w [zR w, Z0 b2 54 (Z02 F c E last vm mo), Z0 b6 25 (Z03 T), Z0 b10 47 (ZW), (Zy a19 KP c20), Z0 b42 47 (Z1J E T a99 ((PD ++ [(⟨x62.r, x62.e, x62.f, a77, c78, x62.sb, x62.sm, D79⟩ : PrR)]).length) c100), (Zy a99 (PD ++ [(⟨x62.r, x62.e, x62.f, a77, c78, x62.sb, x62.sm, D79⟩ : PrR)]) c100), Z0s (B80 ++ B), Z0 b65 71 (Z1y x62), (Z4u a77 D79 c78), Zh 71 6 (.slice (some ⟨b90, 0, none⟩) 1 1) 1 ([(⟨x62.r, x62.e, x62.f, a77, c78, x62.sb, x62.sm, D79⟩ : PrR)].flatMap Z0C)] w104 := H108.pk [1, 2, 3, 4, 5, 6, 7, 0, 8, 9, 10]
  have H110 := (H109.pk [7, 9, 0, 1, 2, 3, 4, 5, 6, 8, 10]).bag
  have H111 : Sat w [zR w, Z0 b2 54 (Z02 F c E last vm mo), Z0 b6 25 (Z03 T), Z0 b10 47 (ZW), (Zy a19 KP c20), Z0 b42 47 (Z1J E T a99 ((PD ++ [(⟨x62.r, x62.e, x62.f, a77, c78, x62.sb, x62.sm, D79⟩ : PrR)]).length) c100), (Zy a99 (PD ++ [(⟨x62.r, x62.e, x62.f, a77, c78, x62.sb, x62.sm, D79⟩ : PrR)]) c100), Z0s (ceC (⟨x62.r, x62.e, x62.f, a77, c78, x62.sb, x62.sm, D79⟩ : PrR) :: (B80 ++ B)), Z0 b65 71 (Z1y x62), Zh 71 6 (.slice (some ⟨b90, 0, none⟩) 1 1) 1 ([(⟨x62.r, x62.e, x62.f, a77, c78, x62.sb, x62.sm, D79⟩ : PrR)].flatMap Z0C)] w104 := H110.pk [1, 2, 3, 4, 5, 6, 7, 0, 8, 9]
  refine Zl <| Z0d (Z8 rfl) (d := 55) (v := (vi ((i : Int) + 1))) rfl (Z0q (z := (i : Int) + 1) kr (IntWalk.i64_in _ om)) <| wv 44 (vi ((i : Int) + 1)) <| Zn ?_
  have H112 := H111.pk [0, 1, 2, 3, 4, 5, 6, 7]
  refine Z5 ?_ _ ⟨(i + 1), a99, c100, (PD ++ [(⟨x62.r, x62.e, x62.f, a77, c78, x62.sb, x62.sm, D79⟩ : PrR)]), (ceC (⟨x62.r, x62.e, x62.f, a77, c78, x62.sb, x62.sm, D79⟩ : PrR) :: (B80 ++ B)), rfl, om, (Z8d hPD h63 (Zgh (p := x62) e81)), (fun p hp => by rcases List.mem_append.1 hp with hp | hp; exact ((hpin p hp).more2 (fun C hC => List.mem_cons_of_mem _ (List.mem_append_right _ hC))); rw [List.mem_singleton.1 hp]; exact ⟨List.mem_cons_self, fun c hc => List.mem_cons_of_mem _ (List.mem_append_left _ (n82 c hc))⟩), H112, rfl⟩ om
  exact zs
 refine Z4H <| Z21 <| Z5N <| Z3o <| Zt <| Z7 ?_
 have hPC : ZgN KP PD := by unfold ZgN; rw [hPD, List.take_of_length_le om]
 refine Zl <| Z48 (Z8 rfl) (fun Kq kq => ?_)
 refine Z2l (Value.int .i64) Value.bool rfl H53 ?_
 intro b116 w117 (H118 : Sat w [zR w, Z0 b2 54 (Z02 F c E last vm mo), Z0 b6 25 (Z03 T), Z0 b10 47 (ZW), (Zy a19 KP c20), Z0 b42 47 (Z1J E T xa PD.length xc), (Zy xa PD xc), Z0s B, Z0u b116 (Value.int .i64) Value.bool []] w117)
 refine kq _ _ <| zy <| ZcM (zs := ([((Go.Value.map none))] : LV)) (z := ((Go.Value.map none))) rfl H118 kr kr fun b120 w121 H122 => ?_
 refine kk <| zy <| Z1p (Z0v b116) H122 9 ?_
 intro w124 (H125 : Sat w [zR w, Z0 b2 54 (Z02 F c E last vm mo), Z0 b6 25 (Z03 T), Z0 b10 47 (ZW), (Zy a19 KP c20), Z0 b42 47 (Z1J E T xa PD.length xc), (Zy xa PD xc), Z0s B, Z0u b116 (Value.int .i64) Value.bool [], Z0 b120 129 (Z0v b116)] w124)
 refine kk <| Zn <| Zt <| Z7 <| Zl <| Z0d (Z8 rfl) (d := 57) (v := (.func (.func 48) #[] #[(pt b2 0)])) rfl kr <| wv 18 (.func (.func 48) #[] #[(pt b2 0)]) <| Zn <| Zt <| Z7 <| Z7 <| Zl <| Z0d (Z8 rfl) (d := 58) (v := (.slice qa O.length qc)) rfl kr <| wv 59 (.func (.func 48) #[] #[(pt b2 0)]) <| wv 60 (.slice qa O.length qc) <| wv 61 (vi O.length) <| zy <| zdc 62 (Zca w124 qa qc O (ListAt.now H125 0 rfl hO) hlO O.length F c E last vm mo M (H125.roMap 0 rfl hmo (fun h => h)) hM b2 (H125.at 1 rfl) (fun i hi => ListAt.now H125 0 rfl (hOk _ (Z9u hi)).list) (fun i hi => (hOk _ (Z9u hi)).len) h12O) ?_
 rintro _ w128 ⟨a129, c130, D131, rfl, s132, l133, k134, u135, f136⟩
 obtain ⟨KO, hKO⟩ : ∃ K_, K_ = D131.take O.length := ⟨_, rfl⟩
 rw [← hKO] at k134 f136 ⊢
 have H137 := H125.addU u135 k134 f136
 refine ⟨_, rfl, ?_⟩
 refine kk <| wv 63 (vi KO.length) <| wv 64 (vi 0) <| Zn <| Zt <| Zc ?_
 have H138 := H137.addNil 86 34
 have hKOl : KO.length ≤ 12 := by rw [hKO, List.length_take]; have q := s132.perm.length_eq; omega
 refine Zq ([19, 20] ++ List.range' 64 21) (fun F_ W_ m_ => ∃ (k : Nat) (ya : Option Addr) (yc : Nat) (OD : List OpR) (B2 : List Ck) (X : List (Int × Bool)), F_ 64 = (vi k) ∧ (k ≤ KO.length) ∧ (OD.map Zfm = (KO.take k).map Zfm) ∧ (∀ o ∈ OD, opC o ∈ B2) ∧ (∀ p ∈ PD, PIn B2 p) ∧ (HvOk X (fun x : OpR => x.i) (KO.take k)) ∧ Sat w [zR w, Z0 b2 54 (Z02 F c E last vm mo), Z0 b6 25 (Z03 T), Z0 b10 47 (ZW), (Zy a19 KP c20), Z0 b42 47 (Z1L E T xa PD.length xc ya OD.length yc), (Zy xa PD xc), Z0s B2, Z0u b116 (Value.int .i64) Value.bool X, Z0 b120 129 (Z0v b116), (ZR a129 KO c130), (ZR ya OD yc)] W_ ∧ m_ = KO.length - k) _ ⟨0, none, 0, [], B, [], (show ((vi 0) : Value) = _ by first | rfl | go_num), (Nat.zero_le _), rfl, (by simp), hpin, HvOk.nil, H138, rfl⟩ ?_
 rintro g139 w140 _ ⟨k, ya, yc, OD, B2, X, v142, hk, hOD, hoin, hpin2, hX, H141, rfl⟩
 refine Ze 64 _ v142 ?_
 have hODl := Z49 hOD
 rw [List.length_take] at hODl
 refine Z7 <| Zl <| Z0d (Z8 rfl) (d := 65) (v := (.bool (decide ((k : Int) < KO.length)))) rfl kr <| Zn <| Zt <| Z7 ?_
 refine zid (fun b144 g145 => ?_) fun b144 g197 => ?_
 ·refine Zm <| Zt <| Z7 <| Zc <| Z7 <| Zl <| Z0d (Z8 rfl) (d := 66) (v := (vi k)) rfl kr ?_
  obtain ⟨g147, c148, e149⟩ := Z0w (H141.at 10 rfl) om
  obtain ⟨x150, h151⟩ := Z2z (show k < KO.length by omega)
  refine wv 67 (.pointer (some ⟨g147, 0 + ((k : Int)).toNat * 34, none⟩)) ?_ (hr := ZA (E := 86) kr kr kn rfl e149 rfl om om)
  refine wv 68 (.agg ⟨(Z51 x150)⟩) ?_ (hr := ZE (vs := (Z51 x150)) rfl kr kr kn (Z0J (H141.at 10 rfl) e149 Z2h h151 0 (show 0 + ((k : Int)).toNat * 34 = k * 34 + 0 by omega) kr kr))
  refine zy <| zda (([(vi 0), (.slice none 0 0)] : LV) ++ hc ZC) H141 ?_
  intro b153 w154 (H155 : Sat w [zR w, Z0 b2 54 (Z02 F c E last vm mo), Z0 b6 25 (Z03 T), Z0 b10 47 (ZW), (Zy a19 KP c20), Z0 b42 47 (Z1L E T xa PD.length xc ya OD.length yc), (Zy xa PD xc), Z0s B2, Z0u b116 (Value.int .i64) Value.bool X, Z0 b120 129 (Z0v b116), (ZR a129 KO c130), (ZR ya OD yc), Z0 b153 86 (([(vi 0), (.slice none 0 0)] : LV) ++ hc ZC)] w154)
  refine kk <| wv 19 (vi k) <| zy <| Z1p (Z51 x150) H155 12 fun w157 H158 => ?_
  refine kk <| Zn <| Zt <| Z7 ?_
  have hXo : OpK w x150 := hOk _ (s132.sub (List.mem_of_mem_take (by rw [← hKO]; exact List.mem_of_getElem? h151))).1
  refine Zl <| Z0d (Z8 rfl) (d := 69) (v := (.map (some b116))) rfl (zl1 (H158.cell 9 rfl rfl)) <| wv 70 (pt b153 0) <| wv 71 (vi x150.i) ?_ (hr := zl1 (H158.cell 12 rfl kr))
  refine zy <| Z0P (kt := 3) (et := 4) rfl H158 8 rfl (KeyTy.int kr) kr rfl x150.i rfl true rfl ?_
  intro w161 (H162 : Sat w [zR w, Z0 b2 54 (Z02 F c E last vm mo), Z0 b6 25 (Z03 T), Z0 b10 47 (ZW), (Zy a19 KP c20), Z0 b42 47 (Z1L E T xa PD.length xc ya OD.length yc), (Zy xa PD xc), Z0s B2, Z0u b116 (Value.int .i64) Value.bool (Z2p X x150.i true), Z0 b120 129 (Z0v b116), (ZR a129 KO c130), (ZR ya OD yc), Z0 b153 86 (Z51 x150)] w161)
  refine kk <| Zn <| Zt <| Z7 <| Zl <| Z0d (Z8 rfl) (d := 72) (v := (pt b153 1)) rfl kr <| wv 73 ((.slice x150.pa x150.P.length x150.pc)) ?_ (hr := zl1 (H162.cell 12 rfl kr))
  refine zy <| zdc 74 (Z9X w161 ((.slice x150.pa x150.P.length x150.pc)) x150.P (H162.roCk 0 rfl hXo.ok (fun _ _ h => h)) hXo.len) ?_
  rintro _ w164 ⟨u165, rfl, k166, p167, q168⟩
  have H169 := H162.addU p167 k166 q168
  obtain ⟨a170, c171, rfl⟩ := Z1 (H169.at 13 rfl)
  refine ⟨_, rfl, ?_⟩
  refine kk <| wv 75 (pt b153 1) <| zy <| zds ([(.slice a170 x150.P.length c171)] : LV) (Z1k x150.i a170 x150.P.length c171 x150.h) H169 12 ?_
  intro w173 (H174 : Sat w [zR w, Z0 b2 54 (Z02 F c E last vm mo), Z0 b6 25 (Z03 T), Z0 b10 47 (ZW), (Zy a19 KP c20), Z0 b42 47 (Z1L E T xa PD.length xc ya OD.length yc), (Zy xa PD xc), Z0s B2, Z0u b116 (Value.int .i64) Value.bool (Z2p X x150.i true), Z0 b120 129 (Z0v b116), (ZR a129 KO c130), (ZR ya OD yc), Z0 b153 86 (Z1k x150.i a170 x150.P.length c171 x150.h), (Z4Y a170 x150.P c171)] w173)
  refine kk <| Zn <| Zt <| Z7 <| Zl <| Z0d (Z8 rfl) (d := 76) (v := (vi k)) rfl kr <| wv 77 (.bool (decide ((k : Int) < 64))) <| Zn <| Zt ?_
  have b176 : (decide ((k : Int) < 64)) = true := by exact decide_eq_true om
  have g177 := of_decide_eq_true b176
  refine Z4z _ b176 ?_
  refine Zl <| Z0d (Z8 rfl) (d := 78) (v := (pt b42 3)) rfl kr <| wv 79 (.slice ya OD.length yc) ?_ (hr := zl1 (H174.cell 5 rfl rfl))
  refine wv 80 (.agg ⟨(Z1k x150.i a170 x150.P.length c171 x150.h)⟩) ?_ (hr := zlN (vs := (Z1k x150.i a170 x150.P.length c171 x150.h)) (H174.at 12 rfl))
  refine zy <| Z2J 86 34 64 (.agg ⟨(([(vi 0), (.slice none 0 0)] : LV) ++ hc ZC)⟩) [(0, (.agg ⟨(Z1k x150.i a170 x150.P.length c171 x150.h)⟩))] (Z1k x150.i a170 x150.P.length c171 x150.h) H174 ?_
  intro b179 w180 (H181 : Sat w [zR w, Z0 b2 54 (Z02 F c E last vm mo), Z0 b6 25 (Z03 T), Z0 b10 47 (ZW), (Zy a19 KP c20), Z0 b42 47 (Z1L E T xa PD.length xc ya OD.length yc), (Zy xa PD xc), Z0s B2, Z0u b116 (Value.int .i64) Value.bool (Z2p X x150.i true), Z0 b120 129 (Z0v b116), (ZR a129 KO c130), (ZR ya OD yc), Z0 b153 86 (Z1k x150.i a170 x150.P.length c171 x150.h), (Z4Y a170 x150.P c171), Zh 86 34 (.slice (some ⟨b179, 0, none⟩) 1 1) 1 (Z1k x150.i a170 x150.P.length c171 x150.h)] w180)
  have H182 : Sat w [zR w, Z0 b2 54 (Z02 F c E last vm mo), Z0 b6 25 (Z03 T), Z0 b10 47 (ZW), (Zy a19 KP c20), Z0 b42 47 (Z1L E T xa PD.length xc ya OD.length yc), (Zy xa PD xc), Z0s B2, Z0u b116 (Value.int .i64) Value.bool (Z2p X x150.i true), Z0 b120 129 (Z0v b116), (ZR a129 KO c130), (ZR ya OD yc), Z0 b153 86 (Z1k x150.i a170 x150.P.length c171 x150.h), (Z4Y a170 x150.P c171), Zh 86 34 (.slice (some ⟨b179, 0, none⟩) 1 1) 1 ([(⟨x150.i, a170, c171, x150.P, x150.h⟩ : OpR)].flatMap Z0Y)] w180 := H181.cast (by rw [(show ((Z1k x150.i a170 x150.P.length c171 x150.h) : LV) = [(⟨x150.i, a170, c171, x150.P, x150.h⟩ : OpR)].flatMap Z0Y by kernel_rfl)])
  refine kk <| zy <| Z0g (T := 42) (e := 86) (size := 34) (bytes := 64) rfl H182 kr 11 14 rfl rfl rfl rfl (Z07 Z0Y Z5K [(⟨x150.i, a170, c171, x150.P, x150.h⟩ : OpR)]) om om fun v184 w185 H186 => ?_
  have H189 : Sat w [zR w, Z0 b2 54 (Z02 F c E last vm mo), Z0 b6 25 (Z03 T), Z0 b10 47 (ZW), (Zy a19 KP c20), Z0 b42 47 (Z1L E T xa PD.length xc ya OD.length yc), (Zy xa PD xc), Z0s B2, Z0u b116 (Value.int .i64) Value.bool (Z2p X x150.i true), Z0 b120 129 (Z0v b116), (ZR a129 KO c130), Zh 86 34 v184 ((OD ++ [(⟨x150.i, a170, c171, x150.P, x150.h⟩ : OpR)]).length) ((OD ++ [(⟨x150.i, a170, c171, x150.P, x150.h⟩ : OpR)]).flatMap Z0Y), Z0 b153 86 (Z1k x150.i a170 x150.P.length c171 x150.h), (Z4Y a170 x150.P c171), Zh 86 34 (.slice (some ⟨b179, 0, none⟩) 1 1) 1 ([(⟨x150.i, a170, c171, x150.P, x150.h⟩ : OpR)].flatMap Z0Y)] w185 := H186.cast (by simp only [List.length_append, List.flatMap_append] <;> rfl)
  obtain ⟨a187, c188, rfl⟩ := Z1 (H189.at 11 rfl)
  refine kk <| wv 83 (pt b42 3) <| zy <| zds ([(.slice a187 ((OD ++ [(⟨x150.i, a170, c171, x150.P, x150.h⟩ : OpR)]).length) c188)] : LV) (Z1L E T xa PD.length xc a187 ((OD ++ [(⟨x150.i, a170, c171, x150.P, x150.h⟩ : OpR)]).length) c188) H189 5 fun w191 H192 => ?_
  refine kk <| Zn <| Z6 <| Zt ?_
  have H194 : Sat w [Z0s (opC (⟨x150.i, a170, c171, x150.P, x150.h⟩ : OpR) :: B2), zR w, Z0 b2 54 (Z02 F c E last vm mo), Z0 b6 25 (Z03 T), Z0 b10 47 (ZW), (Zy a19 KP c20), Z0 b42 47 (Z1L E T xa PD.length xc a187 ((OD ++ [(⟨x150.i, a170, c171, x150.P, x150.h⟩ : OpR)]).length) c188), (Zy xa PD xc), Z0u b116 (Value.int .i64) Value.bool (Z2p X x150.i true), Z0 b120 129 (Z0v b116), (ZR a129 KO c130), (ZR a187 (OD ++ [(⟨x150.i, a170, c171, x150.P, x150.h⟩ : OpR)]) c188), Z0 b153 86 (Z1k x150.i a170 x150.P.length c171 x150.h), Zh 86 34 (.slice (some ⟨b179, 0, none⟩) 1 1) 1 ([(⟨x150.i, a170, c171, x150.P, x150.h⟩ : OpR)].flatMap Z0Y)] w191 := (H192.pk [7, 13, 0, 1, 2, 3, 4, 5, 6, 8, 9, 10, 11, 12, 14]).bag
  have H195 := H194.pk [1, 2, 3, 4, 5, 6, 7, 0, 8, 9, 10, 11, 12, 13]
  refine Zl <| Z0d (Z8 rfl) (d := 84) (v := (vi ((k : Int) + 1))) rfl (Z0q (z := (k : Int) + 1) kr (IntWalk.i64_in _ om)) <| wv 64 (vi ((k : Int) + 1)) <| Zn ?_
  have H196 : Sat w [zR w, Z0 b2 54 (Z02 F c E last vm mo), Z0 b6 25 (Z03 T), Z0 b10 47 (ZW), (Zy a19 KP c20), Z0 b42 47 (Z1L E T xa PD.length xc a187 ((OD ++ [(⟨x150.i, a170, c171, x150.P, x150.h⟩ : OpR)]).length) c188), (Zy xa PD xc), Z0s (opC (⟨x150.i, a170, c171, x150.P, x150.h⟩ : OpR) :: B2), Z0u b116 (Value.int .i64) Value.bool (Z2p X x150.i true), Z0 b120 129 (Z0v b116), (ZR a129 KO c130), (ZR a187 (OD ++ [(⟨x150.i, a170, c171, x150.P, x150.h⟩ : OpR)]) c188)] w191 := H195.pk [0, 1, 2, 3, 4, 5, 6, 7, 8, 9, 10, 11]
  refine Z5 ?_ _ ⟨(k + 1), a187, c188, (OD ++ [(⟨x150.i, a170, c171, x150.P, x150.h⟩ : OpR)]), (opC (⟨x150.i, a170, c171, x150.P, x150.h⟩ : OpR) :: B2), (Z2p X x150.i true), rfl, om, (Z8d hOD h151 rfl), (fun o ho => by rcases List.mem_append.1 ho with ho | ho; exact List.mem_cons_of_mem _ (hoin o ho); rw [List.mem_singleton.1 ho]; exact List.mem_cons_self), (fun p hp => (hpin2 p hp).more), (by rw [List.take_add_one, h151]; exact HvOk.put (num := fun x : OpR => x.i) (x := x150) hX), H196, rfl⟩ om
  exact zs
 refine Z4H <| Z21 <| Z5N <| Z3o <| Zt <| Z7 ?_
 rw [List.take_of_length_le (show KO.length ≤ k by omega)] at hX hOD
 have hKO2 : KO = D131 := by rw [hKO, List.take_of_length_le l133]
 refine Zl <| Z0d (Z8 rfl) (d := 85) (v := (.func (.func 53) #[] #[(pt b2 0), (pt b120 0)])) rfl kr <| wv 21 (.func (.func 53) #[] #[(pt b2 0), (pt b120 0)]) <| Zn <| Zt <| Z7 <| Z7 <| Zl <| Z0d (Z8 rfl) (d := 86) (v := (.slice ta TL.length tc)) rfl kr <| wv 87 (.func (.func 53) #[] #[(pt b2 0), (pt b120 0)]) <| zy <| zdc 88 (Zct w140 ta tc TL (ListAt.now H141 0 rfl hTL) hlT 64 F c E last vm mo M (H141.roMap 0 rfl hmo (fun h => h)) b2 (H141.at 1 rfl) b120 b116 X (H141.at 9 rfl) (H141.at 8 rfl) (h12T X)) ?_
 rintro _ w200 ⟨a201, c202, D203, rfl, s204, l205, k206, u207, f208⟩
 obtain ⟨KT, hKT⟩ : ∃ K_, K_ = D203.take 64 := ⟨_, rfl⟩
 rw [← hKT] at k206 f208 ⊢
 have H209 := H141.addU u207 k206 f208
 refine ⟨_, rfl, ?_⟩
 refine kk <| wv 89 (vi KT.length) <| wv 90 (vi 0) <| Zn <| Zt <| Zc ?_
 have H210 := H209.addNil 89 2
 have hKTl : KT.length ≤ 12 := by rw [hKT, List.length_take]; have q := s204.perm.length_eq; have q2 := h12T X; omega
 refine Zq ([23] ++ List.range' 90 15) (fun F_ W_ m_ => ∃ (j : Nat) (za : Option Addr) (zc : Nat) (TD : List TbR) (B3 : List Ck), F_ 90 = (vi j) ∧ (j ≤ KT.length) ∧ (TD.map ZgO = (KT.take j).map ZgO) ∧ (∀ t ∈ TD, tbC t ∈ B3) ∧ (∀ o ∈ OD, opC o ∈ B3) ∧ (∀ p ∈ PD, PIn B3 p) ∧ Sat w [zR w, Z0 b2 54 (Z02 F c E last vm mo), Z0 b6 25 (Z03 T), Z0 b10 47 (ZW), (Zy a19 KP c20), Z0 b42 47 (Z11 E T xa PD.length xc ya OD.length yc za TD.length zc), (Zy xa PD xc), Z0s B3, Z0u b116 (Value.int .i64) Value.bool X, Z0 b120 129 (Z0v b116), (ZR a129 KO c130), (ZR ya OD yc), (Z0Q a201 KT c202), (Z0Q za TD zc)] W_ ∧ m_ = KT.length - j) _ ⟨0, none, 0, [], B2, (show ((vi 0) : Value) = _ by first | rfl | go_num), (Nat.zero_le _), rfl, (by simp), hoin, hpin2, H210, rfl⟩ ?_
 rintro g211 w212 _ ⟨j, za, zc, TD, B3, v214, hj, hTD, htin, hoin2, hpin3, H213, rfl⟩
 refine Ze 90 _ v214 ?_
 have hTDl := Z49 hTD
 rw [List.length_take] at hTDl
 refine Z7 <| Zl <| Z0d (Z8 rfl) (d := 91) (v := (.bool (decide ((j : Int) < KT.length)))) rfl kr <| Zn <| Zt <| Z7 ?_
 refine zid (fun b216 g217 => ?_) fun b216 g264 => ?_
 ·refine Zm <| Zt <| Z7 <| Zc <| Z7 <| Zl ?_
  obtain ⟨g219, c220, e221⟩ := Z0w (H213.at 12 rfl) om
  obtain ⟨x222, h223⟩ := Z2z (show j < KT.length by omega)
  refine wv 92 (.pointer (some ⟨g219, 0 + ((j : Int)).toNat * 2, none⟩)) ?_ (hr := ZA (E := 89) kr kr kn rfl e221 rfl om om)
  refine wv 93 (.agg ⟨(Z4Q x222)⟩) ?_ (hr := ZE (vs := (Z4Q x222)) rfl kr kr kn (Z0J (H213.at 12 rfl) e221 Z2n h223 0 (show 0 + ((j : Int)).toNat * 2 = j * 2 + 0 by omega) kr kr))
  refine zy <| zda ([(vi 0), (.slice none 0 0)] : LV) H213 ?_
  intro b225 w226 (H227 : Sat w [zR w, Z0 b2 54 (Z02 F c E last vm mo), Z0 b6 25 (Z03 T), Z0 b10 47 (ZW), (Zy a19 KP c20), Z0 b42 47 (Z11 E T xa PD.length xc ya OD.length yc za TD.length zc), (Zy xa PD xc), Z0s B3, Z0u b116 (Value.int .i64) Value.bool X, Z0 b120 129 (Z0v b116), (ZR a129 KO c130), (ZR ya OD yc), (Z0Q a201 KT c202), (Z0Q za TD zc), Z0 b225 89 ([(vi 0), (.slice none 0 0)] : LV)] w226)
  refine kk <| zy <| Z1p (Z4Q x222) H227 14 fun w229 H230 => ?_
  refine kk <| Zn <| Zt <| Z7 ?_
  have hXt : TbK w x222 := hTk _ (s204.sub (List.mem_of_mem_take (by rw [← hKT]; exact List.mem_of_getElem? h223))).1
  refine Zl <| Z0d (Z8 rfl) (d := 94) (v := (pt b225 1)) rfl kr <| wv 95 ((.slice x222.da x222.D.length x222.dc)) ?_ (hr := zl1 (H230.cell 14 rfl rfl))
  refine zy <| zdc 96 (ZbN w229 ((.slice x222.da x222.D.length x222.dc)) x222.D (H230.roCk 0 rfl hXt.ok (fun _ _ h => h)) hXt.len) ?_
  rintro _ w233 ⟨u234, rfl, k235, p236, q237⟩
  have H238 : Sat w [zR w, Z0 b2 54 (Z02 F c E last vm mo), Z0 b6 25 (Z03 T), Z0 b10 47 (ZW), (Zy a19 KP c20), Z0 b42 47 (Z11 E T xa PD.length xc ya OD.length yc za TD.length zc), (Zy xa PD xc), Z0s B3, Z0u b116 (Value.int .i64) Value.bool X, Z0 b120 129 (Z0v b116), (ZR a129 KO c130), (ZR ya OD yc), (Z0Q a201 KT c202), (Z0Q za TD zc), Z0 b225 89 (Z4Q x222), Zh 122 4 u234 x222.D.length (x222.D.flatMap Z3b)] w233 := H230.addU p236 k235 q237
  obtain ⟨a239, c240, rfl⟩ := Z1 (H238.at 15 rfl)
  refine ⟨_, rfl, ?_⟩
  refine kk <| wv 97 (pt b225 1) <| zy <| zds ([(.slice a239 x222.D.length c240)] : LV) (Z1z x222.i a239 x222.D.length c240) H238 14 fun w242 H243 => ?_
  refine kk <| Zn <| Zt <| Zl <| Z0d (Z8 rfl) (d := 98) (v := (pt b42 4)) rfl kr <| wv 99 (.slice za TD.length zc) ?_ (hr := zl1 (H243.cell 5 rfl rfl))
  refine wv 100 (.agg ⟨(Z1z x222.i a239 x222.D.length c240)⟩) ?_ (hr := zlN (vs := (Z1z x222.i a239 x222.D.length c240)) (H243.at 14 rfl))
  refine zy <| Z2J 89 2 32 (.agg ⟨([(vi 0), (.slice none 0 0)] : LV)⟩) [(0, (.agg ⟨(Z1z x222.i a239 x222.D.length c240)⟩))] (Z1z x222.i a239 x222.D.length c240) H243 ?_
  intro b246 w247 (H248 : Sat w [zR w, Z0 b2 54 (Z02 F c E last vm mo), Z0 b6 25 (Z03 T), Z0 b10 47 (ZW), (Zy a19 KP c20), Z0 b42 47 (Z11 E T xa PD.length xc ya OD.length yc za TD.length zc), (Zy xa PD xc), Z0s B3, Z0u b116 (Value.int .i64) Value.bool X, Z0 b120 129 (Z0v b116), (ZR a129 KO c130), (ZR ya OD yc), (Z0Q a201 KT c202), (Z0Q za TD zc), Z0 b225 89 (Z1z x222.i a239 x222.D.length c240), (Z68 a239 x222.D c240), Zh 89 2 (.slice (some ⟨b246, 0, none⟩) 1 1) 1 (Z1z x222.i a239 x222.D.length c240)] w247)
  have H249 := H248.ct 16 rfl (Zh 89 2 (.slice (some ⟨b246, 0, none⟩) 1 1) 1 ([(⟨x222.i, a239, c240, x222.D⟩ : TbR)].flatMap Z0U)) (by rw [(show ((Z1z x222.i a239 x222.D.length c240) : LV) = [(⟨x222.i, a239, c240, x222.D⟩ : TbR)].flatMap Z0U by kernel_rfl)])
  refine kk <| zy <| Z0g (T := 43) (e := 89) (size := 2) (bytes := 32) rfl H249 kr 13 16 rfl rfl rfl rfl (Z07 Z0U Z5o [(⟨x222.i, a239, c240, x222.D⟩ : TbR)]) om om ?_
  intro v251 w252 (H253 : Sat w [zR w, Z0 b2 54 (Z02 F c E last vm mo), Z0 b6 25 (Z03 T), Z0 b10 47 (ZW), (Zy a19 KP c20), Z0 b42 47 (Z11 E T xa PD.length xc ya OD.length yc za TD.length zc), (Zy xa PD xc), Z0s B3, Z0u b116 (Value.int .i64) Value.bool X, Z0 b120 129 (Z0v b116), (ZR a129 KO c130), (ZR ya OD yc), (Z0Q a201 KT c202), Zh 89 2 v251 (TD.length + 1) ((TD.flatMap Z0U) ++ ([(⟨x222.i, a239, c240, x222.D⟩ : TbR)].flatMap Z0U)), Z0 b225 89 (Z1z x222.i a239 x222.D.length c240), (Z68 a239 x222.D c240), Zh 89 2 (.slice (some ⟨b246, 0, none⟩) 1 1) 1 ([(⟨x222.i, a239, c240, x222.D⟩ : TbR)].flatMap Z0U)] w252)
  have H256 := H253.ct 13 rfl (Zh 89 2 v251 ((TD ++ [(⟨x222.i, a239, c240, x222.D⟩ : TbR)]).length) ((TD ++ [(⟨x222.i, a239, c240, x222.D⟩ : TbR)]).flatMap Z0U)) ja
  obtain ⟨a254, c255, rfl⟩ := Z1 (H256.at 13 rfl)
  refine kk <| wv 103 (pt b42 4) <| zy <| zds ([(.slice a254 ((TD ++ [(⟨x222.i, a239, c240, x222.D⟩ : TbR)]).length) c255)] : LV) (Z11 E T xa PD.length xc ya OD.length yc a254 ((TD ++ [(⟨x222.i, a239, c240, x222.D⟩ : TbR)]).length) c255) H256 5 ?_
  intro w258 (H259 : Sat w [zR w, Z0 b2 54 (Z02 F c E last vm mo), Z0 b6 25 (Z03 T), Z0 b10 47 (ZW), (Zy a19 KP c20), Z0 b42 47 (Z11 E T xa PD.length xc ya OD.length yc a254 ((TD ++ [(⟨x222.i, a239, c240, x222.D⟩ : TbR)]).length) c255), (Zy xa PD xc), Z0s B3, Z0u b116 (Value.int .i64) Value.bool X, Z0 b120 129 (Z0v b116), (ZR a129 KO c130), (ZR ya OD yc), (Z0Q a201 KT c202), (Z0Q a254 (TD ++ [(⟨x222.i, a239, c240, x222.D⟩ : TbR)]) c255), Z0 b225 89 (Z1z x222.i a239 x222.D.length c240), (Z68 a239 x222.D c240), Zh 89 2 (.slice (some ⟨b246, 0, none⟩) 1 1) 1 ([(⟨x222.i, a239, c240, x222.D⟩ : TbR)].flatMap Z0U)] w258)
  refine kk <| Zn <| Z6 <| Zt ?_
  have H261 := (H259.pk [7, 15, 0, 1, 2, 3, 4, 5, 6, 8, 9, 10, 11, 12, 13, 14, 16]).bag
  have H262 : Sat w [zR w, Z0 b2 54 (Z02 F c E last vm mo), Z0 b6 25 (Z03 T), Z0 b10 47 (ZW), (Zy a19 KP c20), Z0 b42 47 (Z11 E T xa PD.length xc ya OD.length yc a254 ((TD ++ [(⟨x222.i, a239, c240, x222.D⟩ : TbR)]).length) c255), (Zy xa PD xc), Z0s (tbC (⟨x222.i, a239, c240, x222.D⟩ : TbR) :: B3), Z0u b116 (Value.int .i64) Value.bool X, Z0 b120 129 (Z0v b116), (ZR a129 KO c130), (ZR ya OD yc), (Z0Q a201 KT c202), (Z0Q a254 (TD ++ [(⟨x222.i, a239, c240, x222.D⟩ : TbR)]) c255), Z0 b225 89 (Z1z x222.i a239 x222.D.length c240), Zh 89 2 (.slice (some ⟨b246, 0, none⟩) 1 1) 1 ([(⟨x222.i, a239, c240, x222.D⟩ : TbR)].flatMap Z0U)] w258 := H261.pk [1, 2, 3, 4, 5, 6, 7, 0, 8, 9, 10, 11, 12, 13, 14, 15]
  refine Zl <| Z0d (Z8 rfl) (d := 104) (v := (vi ((j : Int) + 1))) rfl (Z0q (z := (j : Int) + 1) kr (IntWalk.i64_in _ om)) <| wv 90 (vi ((j : Int) + 1)) <| Zn ?_
  have H263 := H262.pk [0, 1, 2, 3, 4, 5, 6, 7, 8, 9, 10, 11, 12, 13]
  refine Z5 ?_ _ ⟨(j + 1), a254, c255, (TD ++ [(⟨x222.i, a239, c240, x222.D⟩ : TbR)]), (tbC (⟨x222.i, a239, c240, x222.D⟩ : TbR) :: B3), rfl, om, (Z8d hTD h223 rfl), (fun t ht => by rcases List.mem_append.1 ht with ht | ht; exact List.mem_cons_of_mem _ (htin t ht); rw [List.mem_singleton.1 ht]; exact List.mem_cons_self), (fun o ho => List.mem_cons_of_mem _ (hoin2 o ho)), (fun p hp => (hpin3 p hp).more), H263, rfl⟩ om
  exact zs
 refine Z4H <| Z21 <| Z5N <| Z3o <| Zt <| Z7 <| Zl <| Z0d (Z8 rfl) (d := 105) (v := (.agg ⟨(Z11 E T xa PD.length xc ya OD.length yc za TD.length zc)⟩)) rfl (zlN (vs := (Z11 E T xa PD.length xc ya OD.length yc za TD.length zc)) (H213.at 5 rfl)) <| zy <| Z1p (Z11 E T xa PD.length xc ya OD.length yc za TD.length zc) H213 3 ?_
 intro w267 (H268 : Sat w [zR w, Z0 b2 54 (Z02 F c E last vm mo), Z0 b6 25 (Z03 T), Z0 b10 47 (Z11 E T xa PD.length xc ya OD.length yc za TD.length zc), (Zy a19 KP c20), Z0 b42 47 (Z11 E T xa PD.length xc ya OD.length yc za TD.length zc), (Zy xa PD xc), Z0s B3, Z0u b116 (Value.int .i64) Value.bool X, Z0 b120 129 (Z0v b116), (ZR a129 KO c130), (ZR ya OD yc), (Z0Q a201 KT c202), (Z0Q za TD zc)] w267)
 refine kk <| wv 11 (vi 0) <| Zn <| Zt <| Zk <| Z9S rfl (ZP (vs := (Z11 E T xa PD.length xc ya OD.length yc za TD.length zc)) rfl kr kr kn (H268.at 3 rfl) kr) (Z0R (v := (vi 0)) rfl) ?_
 rw [List.take_of_length_le (show KT.length ≤ j by omega)] at hTD
 exact ⟨D21, s22, .inr ⟨Q, hQ, D131, X, D203, xa, xc, PD, ya, yc, OD, za, zc, TD, B3, s132, by rw [← hKO2]; exact hX, s204, (by have q2 : ¬ KP.length < Q := om; have q3 := congrArg List.length hKP; rw [List.length_take] at q3; omega), rfl, by rw [← hKP]; exact hPC, by rw [← hKO2]; exact hOD, by rw [← hKT]; exact hTD, hpin3, hoin2, htin, H268.fn [6, 11, 13, 7], H268.upd 0 rfl [] ne, H268.freshS 0 rfl (fun _ h => h) [6, 11, 13, 7] rfl rfl⟩⟩
end Go.Proofs.YtenihpghfdcpkaaGreat
