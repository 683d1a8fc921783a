/- WHAT IS PROVED: contracts and plain laws of Make12. Conditions: stated with each. -/
import Derived.Test.YtenihpghfdcpkaaGreatT05
import Derived.Test.YtenihpghfdcpkaaGreatT20
import Derived.Test.YtenihpghfdcpkaaGreatT27
import Derived.Test.YtenihpghfdcpkaaGreatT28
set_option maxHeartbeats 4000000
set_option maxRecDepth 100000
namespace Go.Proofs.YtenihpghfdcpkaaGreat
open Go.RowKit
abbrev kMake12_0 (p0 : Int) (p1 : Int) (p2 : Int) (p3 : Int) (p4 : Value) (p5 : Nat) : List Value := ([(.int .i64 p0), (.int .i64 p1), (.int .i64 p2), (.int .u64 p3), p4, (.map (some p5))] : List Value)
abbrev kMake12_1 (p0 : Int) : List Value := ([(.int .u64 p0)] : List Value)
abbrev kMake12_2 : List Value := ([(.int .i64 (0)), (.int .u64 (0)), (.slice none 0 0), (.slice none 0 0), (.slice none 0 0)] : List Value)
abbrev kMake12_3 (p0 : Option Addr) (p1 : List PrR) (p2 : Nat) : Ck := rowC 71 6 (.slice p0 p1.length p2) p1.length (p1.flatMap encPr)
abbrev kMake12_4 (p0 : Int) (p1 : Int) : List Value := ([(.int .i64 p0), (.int .u64 p1), (.slice none 0 0), (.slice none 0 0), (.slice none 0 0)] : List Value)
abbrev kMake12_5 (p0 : Int) (p1 : Int) (p2 : Option Addr) (p3 : Nat) (p4 : Nat) : List Value := ([(.int .i64 p0), (.int .u64 p1), (.slice p2 p3 p4), (.slice none 0 0), (.slice none 0 0)] : List Value)
abbrev kMake12_6 (p0 : PrR) : List Value := ([(.int .i64 p0.r), (.int .i64 p0.e), (.int .u64 p0.f), (.slice p0.ca p0.C.length p0.cc), (.int .i64 p0.sb), (.int .i64 p0.sm)] : List Value)
abbrev kMake12_7 : List Value := ([(.int .i64 (0)), (.int .i64 (0)), (.int .u64 (0)), (.slice none 0 0), (.int .i64 (0)), (.int .i64 (0))] : List Value)
abbrev kMake12_8 (p0 : Option Addr) (p1 : List CeR) (p2 : Nat) : Ck := rowC 76 38 (.slice p0 p1.length p2) p1.length (p1.flatMap encCe)
abbrev kMake12_9 (p0 : PrR) (p1 : Option Addr) (p2 : Nat) (p3 : Nat) : List Value := ([(.int .i64 p0.r), (.int .i64 p0.e), (.int .u64 p0.f), (.slice p1 p2 p3), (.int .i64 p0.sb), (.int .i64 p0.sm)] : List Value)
abbrev kMake12_10 (p0 : Nat) : List Value := ([(.map (some p0))] : List Value)
abbrev kMake12_11 (p0 : Option Addr) (p1 : List OpR) (p2 : Nat) : Ck := rowC 86 34 (.slice p0 p1.length p2) p1.length (p1.flatMap encOp)
abbrev kMake12_12 (p0 : Int) (p1 : Int) (p2 : Option Addr) (p3 : Nat) (p4 : Nat) (p5 : Option Addr) (p6 : Nat) (p7 : Nat) : List Value := ([(.int .i64 p0), (.int .u64 p1), (.slice p2 p3 p4), (.slice p5 p6 p7), (.slice none 0 0)] : List Value)
abbrev kMake12_13 (p0 : OpR) : List Value := ([(.int .i64 p0.i), (.slice p0.pa p0.P.length p0.pc)] : List Value) ++ hc p0.h
abbrev kMake12_14 (p0 : Int) (p1 : Option Addr) (p2 : Nat) (p3 : Nat) (p4 : Hash) : List Value := ([(.int .i64 p0), (.slice p1 p2 p3)] : List Value) ++ hc p4
abbrev kMake12_15 (p0 : Option Addr) (p1 : List UInt8) (p2 : Nat) : Ck := rowC 5 1 (.slice p0 p1.length p2) p1.length (p1.flatMap encB)
abbrev kMake12_16 (p0 : Option Addr) (p1 : List TbR) (p2 : Nat) : Ck := rowC 89 2 (.slice p0 p1.length p2) p1.length (p1.flatMap encTb)
abbrev kMake12_17 (p0 : Int) (p1 : Int) (p2 : Option Addr) (p3 : Nat) (p4 : Nat) (p5 : Option Addr) (p6 : Nat) (p7 : Nat) (p8 : Option Addr) (p9 : Nat) (p10 : Nat) : List Value := ([(.int .i64 p0), (.int .u64 p1), (.slice p2 p3 p4), (.slice p5 p6 p7), (.slice p8 p9 p10)] : List Value)
abbrev kMake12_18 (p0 : TbR) : List Value := ([(.int .i64 p0.i), (.slice p0.da p0.D.length p0.dc)] : List Value)
abbrev kMake12_19 (p0 : Int) (p1 : Option Addr) (p2 : Nat) (p3 : Nat) : List Value := ([(.int .i64 p0), (.slice p1 p2 p3)] : List Value)
abbrev kMake12_20 (p0 : Option Addr) (p1 : List DenyD) (p2 : Nat) : Ck := rowC 122 4 (.slice p0 p1.length p2) p1.length (p1.flatMap encDn)
theorem PIn.more2 {L L' : List Ck} {p : PrR} (h : PIn L p) (hs : ∀ C ∈ L, C ∈ L') : PIn L' p := ⟨hs _ h.1, fun c hc => hs _ (h.2 c hc)⟩
theorem make_any (w : World) (F c E T last : Int) (hF : 1 ≤ F ∧ F ≤ 1000000) (vm : Value) (mo : Nat) (M : List (Int × EntD)) (hmo : MapAt w mo (Value.int .i64) entV M) (hM : OpenOk M) (pa : Option Addr) (pc : Nat) (P : List PrR) (hP : ListAt encPr 6 w (.slice pa P.length pc) P) (hlP : P.length ≤ 1000) (hPk : ∀ p ∈ P, PrK w p) (h12P : (firstN (fun x : PrR => x.r) (mayPr F E T) P).length ≤ 12) (qa : Option Addr) (qc : Nat) (O : List OpR) (hO : ListAt encOp 34 w (.slice qa O.length qc) O) (hlO : O.length ≤ 1000) (hOk : ∀ o ∈ O, OpK w o) (h12O : (firstN (fun x : OpR => x.i) (mayOp M) O).length ≤ 12) (ta : Option Addr) (tc : Nat) (TL : List TbR) (hTL : ListAt encTb 2 w (.slice ta TL.length tc) TL) (hlT : TL.length ≤ 1000) (hTk : ∀ t ∈ TL, TbK w t) (h12T : ∀ X, (firstN (fun x : TbR => x.i) (mayTb M X) TL).length ≤ 12) :
  Calls Tryz.prog 12 #[(.agg ⟨([(.int .i64 (F)), (.int .i64 (c)), (.int .i64 (E)), (.int .u64 (last)), (vm), (.map (some mo))] : List Value)⟩), (.int .u64 (T)), (.slice pa P.length pc), (.slice qa O.length qc), (.slice ta TL.length tc)] w fun e w' => ∃ DP, SortN (fun x : PrR => x.r) (mayPr F E T) P DP ∧ (((DP.length : Int) < 2 * F + 1 ∧ e = .returned (.tuple #[(.agg ⟨([(.int .i64 (0)), (.int .u64 (0)), (.slice none 0 0), (.slice none 0 0), (.slice none 0 0)] : List Value)⟩), (.int .i64 (8))]) ∧ Upd [] w w') ∨ ∃ (Q : Nat) (_ : (Q : Int) = 2 * F + 1) (DO : List OpR) (X : List (Int × Bool)) (DT : List TbR) (xa : Option Addr) (xc : Nat) (PD : List PrR) (ya : Option Addr) (yc : Nat) (OD : List OpR) (za : Option Addr) (zc : Nat) (TD : List TbR) (B3 : List Ck), SortN (fun x : OpR => x.i) (mayOp M) O DO ∧ HvOk X (fun x : OpR => x.i) DO ∧ SortN (fun x : TbR => x.i) (mayTb M X) TL DT ∧ Q ≤ DP.length ∧ e = .returned (.tuple #[.agg ⟨[.int .i64 E, .int .u64 T, .slice xa PD.length xc, .slice ya OD.length yc, .slice za TD.length zc]⟩, (.int .i64 (0))]) ∧ CoPs (DP.take Q) PD ∧ CoOs DO OD ∧ CoTs (DT.take 64) TD ∧ (∀ p ∈ PD, PIn B3 p) ∧ (∀ o ∈ OD, opC o ∈ B3) ∧ (∀ t ∈ TD, tbC t ∈ B3) ∧ (sepC [rowC 71 6 (.slice xa PD.length xc) PD.length (PD.flatMap encPr), rowC 86 34 (.slice ya OD.length yc) OD.length (OD.flatMap encOp), rowC 89 2 (.slice za TD.length zc) TD.length (TD.flatMap encTb), bagC B3]).ok w' ∧ Upd [] w w' ∧ ∀ q_, (sepC [rowC 71 6 (.slice xa PD.length xc) PD.length (PD.flatMap encPr), rowC 86 34 (.slice ya OD.length yc) OD.length (OD.flatMap encOp), rowC 89 2 (.slice za TD.length zc) TD.length (TD.flatMap encTb), bagC B3]).fp q_ → w.heap.size ≤ q_) := by
 have H := Sat.start0 w
 obtain ⟨Q, hQ⟩ : ∃ Q : Nat, (Q : Int) = 2 * F + 1 := ⟨(2 * F + 1).toNat, by omega⟩
 refine calls_fr Tryz.func12 rfl 106 rfl (Nat.le_of_ble_eq_true rfl) ?_
 refine zsl <| zwd fun Kq kq => zdb (kMake12_0 F c E last vm mo) H fun b2 w3 H4 => ?_
 refine kq _ _ <| zwd fun Kq kq => zdb (kMake12_1 T) H4 fun b6 w7 H8 => ?_
 refine kq _ _ <| zwd fun Kq kq => zda (kMake12_2) H8 fun b10 w11 H12 => ?_
 refine kq _ _ <| wv 11 (.int .i64 (0)) <| znsl <| wv 24 (.func (.func 42) #[] #[(pt b2 0), (pt b6 0)]) <| wv 12 (.func (.func 42) #[] #[(pt b2 0), (pt b6 0)]) <| znsl <| wv 25 (.slice pa P.length pc) <| wv 26 (.func (.func 42) #[] #[(pt b2 0), (pt b6 0)]) <| wv 27 (pt b2 0) <| zwN 28 ([(.int .i64 (F)), (.int .i64 (c))] : List Value) (H12.at 1 rfl) ?_
 refine zwd fun Kq kq => zdq 29 (((wQ_any w11 F c (by omega)).mono fun e w' h => (show e = .returned (.int .i64 (Q : Int)) ∧ Upd [] w11 w' by rw [hQ]; exact h))) H12 fun w14 H15 => ?_
 refine kq _ _ <| zwd fun Kq kq => zdc 30 (firstP_any w14 pa pc P (ListAt.now H15 0 rfl hP) hlP Q b2 b6 F c E last T ⟨hF.1, by omega⟩ vm (.map (some mo)) (H15.at 1 rfl) (H15.at 2 rfl) h12P) ?_
 rintro _ w18 ⟨a19, c20, D21, rfl, s22, l23, k24, u25, f26⟩
 obtain ⟨KP, hKP⟩ : ∃ K_, K_ = D21.take Q := ⟨_, rfl⟩
 rw [← hKP] at k24 f26 ⊢
 have H27 := H15.addU u25 k24 f26
 refine ⟨_, rfl, ?_⟩
 refine kq _ _ <| wv 13 (.slice a19 KP.length c20) <| znt <| w_seq <| zsl <| wv 31 (.slice a19 KP.length c20) <| wv 32 (.int .i64 ((KP.length : Int))) <| wv 33 (pt b2 0) <| zwN 34 ([(.int .i64 (F)), (.int .i64 (c))] : List Value) (H27.at 1 rfl) <| zwd fun Kq kq => ?_
 refine zdq 35 (((wQ_any w18 F c (by omega)).mono fun e w' h => (show e = .returned (.int .i64 (Q : Int)) ∧ Upd [] w18 w' by rw [hQ]; exact h))) H27 ?_
 intro w29 H30
 refine kq _ _ <| wv 36 (.bool (decide ((KP.length : Int) < (Q : Int)))) <| znt ?_
 refine (bsplit (decide ((KP.length : Int) < (Q : Int)))).elim (fun b32 => ?_) (fun b32 => ?_)
 ·have g33 := of_decide_eq_true b32
  refine zwkt _ b32 ?_
  refine zsl <| wv 37 (.agg ⟨(kMake12_2)⟩) <| zwd fun Kq kq => zds1 (kMake12_2) H30 3 fun w36 H37 => ?_
  refine kq _ _ <| wv 11 (.int .i64 (8)) <| znt <| w_ret <| then_ret <| end2 rfl (res_cellN (vs := (kMake12_2)) rfl (by kernel_rfl) (by kernel_rfl) (Nat.le_of_ble_eq_true (by kernel_rfl)) (H37.at 3 rfl) (by kernel_rfl)) (res_tmp (v := (.int .i64 (8))) rfl) ?_
  exact ⟨D21, s22, .inl ⟨(by have q2 : KP.length < Q := (by omega); have q3 := congrArg List.length hKP; rw [List.length_take] at q3; omega), rfl, H37.upd 0 rfl [] (fun _ h => h.elim)⟩⟩
 have g39 := of_decide_eq_false b32
 refine zwkf _ b32 ?_
 refine w_skip <| ztn <| zsl <| wv 38 (pt b2 2) <| zw1 39 (.int .i64 (E)) (H30.cell 1 rfl rfl) <| zw1 40 (.int .u64 (T)) (H30.cell 2 rfl rfl) <| wv 41 (.agg ⟨(kMake12_4 E T)⟩) <| zwd fun Kq kq => zda (kMake12_2) H30 fun b42 w43 H44 => ?_
 refine kq _ _ <| zwd fun Kq kq => zds1 (kMake12_4 E T) H44 5 fun w46 H47 => ?_
 refine kq _ _ <| znt <| w_seq <| zsl <| wv 42 (.slice a19 KP.length c20) <| wv 43 (.int .i64 ((KP.length : Int))) <| wv 44 (.int .i64 (0)) <| znt <| w_block ?_
 have H49 := H47.addNil 71 6
 have H50 := H49.bag0
 have hKPl : KP.length ≤ 12 := by rw [hKP, List.length_take]; have q := s22.perm.length_eq; omega
 refine wp_round ([16] ++ List.range' 44 12) (fun F_ W_ m_ => ∃ (i : Nat) (xa : Option Addr) (xc : Nat) (PD : List PrR) (B : List Ck), F_ 44 = (.int .i64 ((i : Int))) ∧ (i ≤ KP.length) ∧ (PD.map keyP = (KP.take i).map keyP) ∧ (∀ p ∈ PD, PIn B p) ∧ Sat w [restC w (fun _ => False), cellC b2 54 (kMake12_0 F c E last vm mo), cellC b6 25 (kMake12_1 T), cellC b10 47 (kMake12_2), (kMake12_3 a19 KP c20), cellC b42 47 (kMake12_5 E T xa PD.length xc), (kMake12_3 xa PD xc), bagC B] W_ ∧ m_ = KP.length - i) _ ⟨0, none, 0, [], [], (show ((.int .i64 (0)) : Value) = _ by first | rfl | go_num), (Nat.zero_le _), rfl, (by simp), H50, rfl⟩ ?_
 rintro g51 w52 _ ⟨i, xa, xc, PD, B, v54, hi, hPD, hpin, H53, rfl⟩
 refine wp_know 44 _ v54 ?_
 have hPDl := map_len hPD
 rw [List.length_take] at hPDl
 refine zsl <| wv 45 (.bool (decide ((i : Int) < (KP.length : Int)))) <| znt <| w_seq ?_
 refine (bsplit (decide ((i : Int) < (KP.length : Int)))).elim (fun b56 => ?_) (fun b56 => ?_)
 ·have g57 := of_decide_eq_true b56
  refine zwkt _ b56 ?_
  refine w_skip <| ztn <| w_seq <| w_block <| zsl ?_
  obtain ⟨g59, c60, e61⟩ := row_shape (H53.at 4 rfl) (by omega)
  obtain ⟨x62, h63⟩ := get_at (show i < KP.length by omega)
  refine wv 46 (.pointer (some ⟨g59, 0 + ((i : Int)).toNat * 6, none⟩)) ?_ (hr := e_indexAddrV (E := 71) (by kernel_rfl) (by kernel_rfl) (Nat.le_of_ble_eq_true rfl) rfl e61 rfl (by omega) (by omega))
  refine wv 47 (.agg ⟨(kMake12_6 x62)⟩) ?_ (hr := e_loadRun (vs := (kMake12_6 x62)) rfl (by kernel_rfl) (by kernel_rfl) (Nat.le_of_ble_eq_true (by kernel_rfl)) (rows_run (H53.at 4 rfl) e61 encPr_len h63 0 (show 0 + ((i : Int)).toNat * 6 = i * 6 + 0 by omega) (by kernel_rfl) (by kernel_rfl)))
  refine zwd fun Kq kq => zda (kMake12_7) H53 fun b65 w66 H67 => ?_
  refine kq _ _ <| zwd fun Kq kq => zds1 (kMake12_6 x62) H67 8 fun w69 H70 => ?_
  refine kq _ _ <| znt ?_
  have hXk : PrK w x62 := hPk _ (s22.sub (List.mem_of_mem_take (by rw [← hKP]; exact List.mem_of_getElem? h63))).1
  refine k_start H70 [restC w (fun _ => False), cellC b2 54 (kMake12_0 F c E last vm mo), cellC b6 25 (kMake12_1 T), cellC b10 47 (kMake12_2), (kMake12_3 a19 KP c20), cellC b42 47 (kMake12_5 E T xa PD.length xc), bagC B, cellC b65 71 (kMake12_6 x62)] [7] 8 rfl (by kernel_rfl) (fun Hx => (Hx.pk [0, 1, 2, 3, 4, 5, 7, 8])) ?_
  intro w72 H73 S74
  refine zkp 0 S74 48 (pt b42 2) <| zkv 1 S74 49 (.slice xa PD.length xc) ?_ (he := fun _ H' => (zl1 (H'.cell 5 rfl rfl)))
  refine zkv 2 S74 50 (.agg ⟨(kMake12_6 x62)⟩) ?_ (he := fun _ H' => (zlN (vs := (kMake12_6 x62)) (H'.at 7 rfl)))
  refine zkd0 3 fun Kq kq => ?_
  refine zdc 51 (lockCopy_any w72 x62 (ListAt.now H73 0 rfl hXk.at_) hXk.len (fun i hi => H73.roCk 0 rfl (hXk.st i hi) (fun _ _ h => h)) hXk.sl) ?_
  rintro _ w76 ⟨a77, c78, D79, B80, rfl, e81, n82, k83, u84, f85⟩
  have H86 := H73.addU u84 k83 f85
  have H87 := H86.open 9 rfl
  refine ⟨_, rfl, ?_⟩
  have S88 := H87.pk [0, 1, 2, 3, 4, 5, 7, 8]
  refine kq _ _ S88 <| zkd0 4 fun Kq kq => ?_
  refine zdbs 71 6 64 (.agg ⟨(kMake12_7)⟩) [(0, (.agg ⟨(kMake12_9 x62 a77 D79.length c78)⟩))] (kMake12_9 x62 a77 D79.length c78) H87 ?_
  intro b90 w91 (H92 : Sat w [restC w (fun _ => False), cellC b2 54 (kMake12_0 F c E last vm mo), cellC b6 25 (kMake12_1 T), cellC b10 47 (kMake12_2), (kMake12_3 a19 KP c20), cellC b42 47 (kMake12_5 E T xa PD.length xc), (kMake12_3 xa PD xc), bagC B, cellC b65 71 (kMake12_6 x62), (kMake12_8 a77 D79 c78), bagC B80, rowC 71 6 (.slice (some ⟨b90, 0, none⟩) 1 1) 1 (kMake12_9 x62 a77 D79.length c78)] w91)
  have H93 : Sat w [restC w (fun _ => False), cellC b2 54 (kMake12_0 F c E last vm mo), cellC b6 25 (kMake12_1 T), cellC b10 47 (kMake12_2), (kMake12_3 a19 KP c20), cellC b42 47 (kMake12_5 E T xa PD.length xc), (kMake12_3 xa PD xc), bagC B, cellC b65 71 (kMake12_6 x62), (kMake12_8 a77 D79 c78), bagC B80, rowC 71 6 (.slice (some ⟨b90, 0, none⟩) 1 1) 1 ([(⟨x62.r, x62.e, x62.f, a77, c78, x62.sb, x62.sm, D79⟩ : PrR)].flatMap encPr)] w91 := H92.cast (by rw [(show ((kMake12_9 x62 a77 D79.length c78) : List Value) = [(⟨x62.r, x62.e, x62.f, a77, c78, x62.sb, x62.sm, D79⟩ : PrR)].flatMap encPr by kernel_rfl)])
  have S94 := H93.pk [0, 1, 2, 3, 4, 5, 7, 8]
  refine kq _ _ S94 <| zkd0 5 fun Kq kq => ?_
  refine d_append (T := 41) (e := 71) (size := 6) (bytes := 64) rfl H93 (by kernel_rfl) 6 11 rfl rfl rfl rfl (flat_one encPr encPr_one [(⟨x62.r, x62.e, x62.f, a77, c78, x62.sb, x62.sm, D79⟩ : PrR)]) (by omega) (by omega) ?_
  intro v96 w97 H98
  have H101 : Sat w [restC w (fun _ => False), cellC b2 54 (kMake12_0 F c E last vm mo), cellC b6 25 (kMake12_1 T), cellC b10 47 (kMake12_2), (kMake12_3 a19 KP c20), cellC b42 47 (kMake12_5 E T xa PD.length xc), rowC 71 6 v96 ((PD ++ [(⟨x62.r, x62.e, x62.f, a77, c78, x62.sb, x62.sm, D79⟩ : PrR)]).length) ((PD ++ [(⟨x62.r, x62.e, x62.f, a77, c78, x62.sb, x62.sm, D79⟩ : PrR)]).flatMap encPr), bagC B, cellC b65 71 (kMake12_6 x62), (kMake12_8 a77 D79 c78), bagC B80, rowC 71 6 (.slice (some ⟨b90, 0, none⟩) 1 1) 1 ([(⟨x62.r, x62.e, x62.f, a77, c78, x62.sb, x62.sm, D79⟩ : PrR)].flatMap encPr)] w97 := H98.cast (by simp only [List.length_append, List.flatMap_append] <;> rfl)
  obtain ⟨a99, c100, rfl⟩ := ownsRow_shape (H101.at 6 rfl)
  have S102 := H101.pk [0, 1, 2, 3, 4, 5, 7, 8]
  refine kq _ _ S102 <| zkp 6 S102 54 (pt b42 2) <| k_brk 7 (Sat w [restC w (fun _ => False), cellC b2 54 (kMake12_0 F c E last vm mo), cellC b6 25 (kMake12_1 T), cellC b10 47 (kMake12_2), (kMake12_3 a19 KP c20), bagC B, cellC b65 71 (kMake12_6 x62)]) rfl (by kernel_rfl) (wants0 rfl) rfl (fun Kq kq => ?_)
  refine zds ([(.slice a99 ((PD ++ [(⟨x62.r, x62.e, x62.f, a77, c78, x62.sb, x62.sm, D79⟩ : PrR)]).length) c100)] : List Value) (kMake12_5 E T a99 ((PD ++ [(⟨x62.r, x62.e, x62.f, a77, c78, x62.sb, x62.sm, D79⟩ : PrR)]).length) c100) H101 5 ?_
  intro w104 H105
  have S107 := H105.pk [0, 1, 2, 3, 4, 7, 8]
  refine kq _ _ S107 <| zhf <| blk_normal <| ztn ?_
  have H108 := (H105.pk [10, 7, 0, 1, 2, 3, 4, 5, 6, 8, 9, 11]).bagApp
  have H109 := H108.pk [1, 2, 3, 4, 5, 6, 7, 0, 8, 9, 10]
  have H110 := (H109.pk [7, 9, 0, 1, 2, 3, 4, 5, 6, 8, 10]).bag
  have H111 := H110.pk [1, 2, 3, 4, 5, 6, 7, 0, 8, 9]
  refine w_lit <| zwi 55 ((i : Int) + 1) <| wv 44 (.int .i64 ((i : Int) + 1)) <| w_nil ?_
  have H112 := H111.pk [0, 1, 2, 3, 4, 5, 6, 7]
  refine round_back ?_ _ ⟨(i + 1), a99, c100, (PD ++ [(⟨x62.r, x62.e, x62.f, a77, c78, x62.sb, x62.sm, D79⟩ : PrR)]), (ceC (⟨x62.r, x62.e, x62.f, a77, c78, x62.sb, x62.sm, D79⟩ : PrR) :: (B80 ++ B)), rfl, (by omega), (map_step hPD h63 (keyP_co (p := x62) e81)), (fun p hp => by rcases List.mem_append.1 hp with hp | hp; exact ((hpin p hp).more2 (fun C hC => List.mem_cons_of_mem _ (List.mem_append_right _ hC))); rw [List.mem_singleton.1 hp]; exact ⟨List.mem_cons_self, fun c hc => List.mem_cons_of_mem _ (List.mem_append_left _ (n82 c hc))⟩), H112, rfl⟩ (by omega)
  exact zs
 have g113 := of_decide_eq_false b56
 refine zwkf _ b56 ?_
 refine zxb <| ztn <| w_seq ?_
 have hPC : CoPs KP PD := by unfold CoPs; rw [hPD, List.take_of_length_le (by omega)]
 refine w_lit <| zwd fun Kq kq => d_makeMap (Value.int .i64) Value.bool rfl H53 fun b116 w117 H118 => ?_
 refine kq _ _ <| zwd fun Kq kq => d_alloc (zs := ([((Go.Value.map none))] : List Value)) (z := ((Go.Value.map none))) rfl H118 (by kernel_rfl) (by kernel_rfl) fun b120 w121 H122 => ?_
 refine kq _ _ <| zwd fun Kq kq => zds1 (kMake12_10 b116) H122 9 fun w124 H125 => ?_
 refine kq _ _ <| znsl <| wv 57 (.func (.func 48) #[] #[(pt b2 0)]) <| wv 18 (.func (.func 48) #[] #[(pt b2 0)]) <| znt <| w_seq <| zsl <| wv 58 (.slice qa O.length qc) <| wv 59 (.func (.func 48) #[] #[(pt b2 0)]) <| wv 60 (.slice qa O.length qc) ?_
 refine wv 61 (.int .i64 ((O.length : Int))) <| zwd fun Kq kq => zdc 62 (firstO_any w124 qa qc O (ListAt.now H125 0 rfl hO) hlO O.length F c E last vm mo M (H125.roMap 0 rfl hmo (fun h => h)) hM b2 (H125.at 1 rfl) (fun i hi => ListAt.now H125 0 rfl (hOk _ (getD_memO hi)).list) (fun i hi => (hOk _ (getD_memO hi)).len) h12O) ?_
 rintro _ w128 ⟨a129, c130, D131, rfl, s132, l133, k134, u135, f136⟩
 obtain ⟨KO, hKO⟩ : ∃ K_, K_ = D131.take O.length := ⟨_, rfl⟩
 rw [← hKO] at k134 f136 ⊢
 have H137 := H125.addU u135 k134 f136
 refine ⟨_, rfl, ?_⟩
 refine kq _ _ <| wv 63 (.int .i64 ((KO.length : Int))) <| wv 64 (.int .i64 (0)) <| znt <| w_block ?_
 have H138 := H137.addNil 86 34
 have hKOl : KO.length ≤ 12 := by rw [hKO, List.length_take]; have q := s132.perm.length_eq; omega
 refine wp_round ([19, 20] ++ List.range' 64 21) (fun F_ W_ m_ => ∃ (k : Nat) (ya : Option Addr) (yc : Nat) (OD : List OpR) (B2 : List Ck) (X : List (Int × Bool)), F_ 64 = (.int .i64 ((k : Int))) ∧ (k ≤ KO.length) ∧ (OD.map keyO = (KO.take k).map keyO) ∧ (∀ o ∈ OD, opC o ∈ B2) ∧ (∀ p ∈ PD, PIn B2 p) ∧ (HvOk X (fun x : OpR => x.i) (KO.take k)) ∧ Sat w [restC w (fun _ => False), cellC b2 54 (kMake12_0 F c E last vm mo), cellC b6 25 (kMake12_1 T), cellC b10 47 (kMake12_2), (kMake12_3 a19 KP c20), cellC b42 47 (kMake12_12 E T xa PD.length xc ya OD.length yc), (kMake12_3 xa PD xc), bagC B2, mapC b116 (Value.int .i64) Value.bool X, cellC b120 129 (kMake12_10 b116), (kMake12_11 a129 KO c130), (kMake12_11 ya OD yc)] W_ ∧ m_ = KO.length - k) _ ⟨0, none, 0, [], B, [], (show ((.int .i64 (0)) : Value) = _ by first | rfl | go_num), (Nat.zero_le _), rfl, (by simp), hpin, HvOk.nil, H138, rfl⟩ ?_
 rintro g139 w140 _ ⟨k, ya, yc, OD, B2, X, v142, hk, hOD, hoin, hpin2, hX, H141, rfl⟩
 refine wp_know 64 _ v142 ?_
 have hODl := map_len hOD
 rw [List.length_take] at hODl
 refine zsl <| wv 65 (.bool (decide ((k : Int) < (KO.length : Int)))) <| znt <| w_seq ?_
 refine (bsplit (decide ((k : Int) < (KO.length : Int)))).elim (fun b144 => ?_) (fun b144 => ?_)
 ·have g145 := of_decide_eq_true b144
  refine zwkt _ b144 ?_
  refine w_skip <| ztn <| w_seq <| w_block <| zsl <| wv 66 (.int .i64 ((k : Int))) ?_
  obtain ⟨g147, c148, e149⟩ := row_shape (H141.at 10 rfl) (by omega)
  obtain ⟨x150, h151⟩ := get_at (show k < KO.length by omega)
  refine wv 67 (.pointer (some ⟨g147, 0 + ((k : Int)).toNat * 34, none⟩)) ?_ (hr := e_indexAddrV (E := 86) (by kernel_rfl) (by kernel_rfl) (Nat.le_of_ble_eq_true rfl) rfl e149 rfl (by omega) (by omega))
  refine wv 68 (.agg ⟨(kMake12_13 x150)⟩) ?_ (hr := e_loadRun (vs := (kMake12_13 x150)) rfl (by kernel_rfl) (by kernel_rfl) (Nat.le_of_ble_eq_true (by kernel_rfl)) (rows_run (H141.at 10 rfl) e149 encOp_len h151 0 (show 0 + ((k : Int)).toNat * 34 = k * 34 + 0 by omega) (by kernel_rfl) (by kernel_rfl)))
  refine zwd fun Kq kq => zda (([(.int .i64 (0)), (.slice none 0 0)] : List Value) ++ hc hash0) H141 fun b153 w154 H155 => ?_
  refine kq _ _ <| wv 19 (.int .i64 ((k : Int))) <| zwd fun Kq kq => zds1 (kMake12_13 x150) H155 12 fun w157 H158 => ?_
  refine kq _ _ <| znt <| w_seq ?_
  have hXo : OpK w x150 := hOk _ (s132.sub (List.mem_of_mem_take (by rw [← hKO]; exact List.mem_of_getElem? h151))).1
  refine w_lit <| zw1 69 (.map (some b116)) (H158.cell 9 rfl rfl) <| wv 70 (pt b153 0) <| zw1 71 (.int .i64 (x150.i)) (H158.cell 12 rfl (by kernel_rfl)) <| zwd fun Kq kq => d_mapUpdate (kt := 3) (et := 4) rfl H158 8 rfl (KeyTy.int (by kernel_rfl)) (by kernel_rfl) rfl x150.i rfl true rfl fun w161 H162 => ?_
  refine kq _ _ <| znsl <| wv 72 (pt b153 1) <| zw1 73 ((.slice x150.pa x150.P.length x150.pc)) (H162.cell 12 rfl (by kernel_rfl)) <| zwd fun Kq kq => zdc 74 (cloneBt_any w161 ((.slice x150.pa x150.P.length x150.pc)) x150.P (H162.roCk 0 rfl hXo.ok (fun _ _ h => h)) hXo.len) ?_
  rintro _ w164 ⟨u165, rfl, k166, p167, q168⟩
  have H169 := H162.addU p167 k166 q168
  obtain ⟨a170, c171, rfl⟩ := ownsRow_shape (H169.at 13 rfl)
  refine ⟨_, rfl, ?_⟩
  refine kq _ _ <| wv 75 (pt b153 1) <| zwd fun Kq kq => zds ([(.slice a170 x150.P.length c171)] : List Value) (kMake12_14 x150.i a170 x150.P.length c171 x150.h) H169 12 fun w173 H174 => ?_
  refine kq _ _ <| znsl <| wv 76 (.int .i64 ((k : Int))) <| wv 77 (.bool (decide ((k : Int) < 64))) <| znt ?_
  have b176 : (decide ((k : Int) < 64)) = true := by exact decide_eq_true (by omega)
  have g177 := of_decide_eq_true b176
  refine zwkt _ b176 ?_
  refine w_lit <| wv 78 (pt b42 3) <| zw1 79 (.slice ya OD.length yc) (H174.cell 5 rfl rfl) <| zwN 80 (kMake12_14 x150.i a170 x150.P.length c171 x150.h) (H174.at 12 rfl) <| zwd fun Kq kq => zdbs 86 34 64 (.agg ⟨(([(.int .i64 (0)), (.slice none 0 0)] : List Value) ++ hc hash0)⟩) [(0, (.agg ⟨(kMake12_14 x150.i a170 x150.P.length c171 x150.h)⟩))] (kMake12_14 x150.i a170 x150.P.length c171 x150.h) H174 ?_
  intro b179 w180 (H181 : Sat w [restC w (fun _ => False), cellC b2 54 (kMake12_0 F c E last vm mo), cellC b6 25 (kMake12_1 T), cellC b10 47 (kMake12_2), (kMake12_3 a19 KP c20), cellC b42 47 (kMake12_12 E T xa PD.length xc ya OD.length yc), (kMake12_3 xa PD xc), bagC B2, mapC b116 (Value.int .i64) Value.bool (putM X x150.i true), cellC b120 129 (kMake12_10 b116), (kMake12_11 a129 KO c130), (kMake12_11 ya OD yc), cellC b153 86 (kMake12_14 x150.i a170 x150.P.length c171 x150.h), (kMake12_15 a170 x150.P c171), rowC 86 34 (.slice (some ⟨b179, 0, none⟩) 1 1) 1 (kMake12_14 x150.i a170 x150.P.length c171 x150.h)] w180)
  have H182 : Sat w [restC w (fun _ => False), cellC b2 54 (kMake12_0 F c E last vm mo), cellC b6 25 (kMake12_1 T), cellC b10 47 (kMake12_2), (kMake12_3 a19 KP c20), cellC b42 47 (kMake12_12 E T xa PD.length xc ya OD.length yc), (kMake12_3 xa PD xc), bagC B2, mapC b116 (Value.int .i64) Value.bool (putM X x150.i true), cellC b120 129 (kMake12_10 b116), (kMake12_11 a129 KO c130), (kMake12_11 ya OD yc), cellC b153 86 (kMake12_14 x150.i a170 x150.P.length c171 x150.h), (kMake12_15 a170 x150.P c171), rowC 86 34 (.slice (some ⟨b179, 0, none⟩) 1 1) 1 ([(⟨x150.i, a170, c171, x150.P, x150.h⟩ : OpR)].flatMap encOp)] w180 := H181.cast (by rw [(show ((kMake12_14 x150.i a170 x150.P.length c171 x150.h) : List Value) = [(⟨x150.i, a170, c171, x150.P, x150.h⟩ : OpR)].flatMap encOp by kernel_rfl)])
  refine kq _ _ <| zwd fun Kq kq => d_append (T := 42) (e := 86) (size := 34) (bytes := 64) rfl H182 (by kernel_rfl) 11 14 rfl rfl rfl rfl (flat_one encOp encOp_one [(⟨x150.i, a170, c171, x150.P, x150.h⟩ : OpR)]) (by omega) (by omega) fun v184 w185 H186 => ?_
  have H189 : Sat w [restC w (fun _ => False), cellC b2 54 (kMake12_0 F c E last vm mo), cellC b6 25 (kMake12_1 T), cellC b10 47 (kMake12_2), (kMake12_3 a19 KP c20), cellC b42 47 (kMake12_12 E T xa PD.length xc ya OD.length yc), (kMake12_3 xa PD xc), bagC B2, mapC b116 (Value.int .i64) Value.bool (putM X x150.i true), cellC b120 129 (kMake12_10 b116), (kMake12_11 a129 KO c130), rowC 86 34 v184 ((OD ++ [(⟨x150.i, a170, c171, x150.P, x150.h⟩ : OpR)]).length) ((OD ++ [(⟨x150.i, a170, c171, x150.P, x150.h⟩ : OpR)]).flatMap encOp), cellC b153 86 (kMake12_14 x150.i a170 x150.P.length c171 x150.h), (kMake12_15 a170 x150.P c171), rowC 86 34 (.slice (some ⟨b179, 0, none⟩) 1 1) 1 ([(⟨x150.i, a170, c171, x150.P, x150.h⟩ : OpR)].flatMap encOp)] w185 := H186.cast (by simp only [List.length_append, List.flatMap_append] <;> rfl)
  obtain ⟨a187, c188, rfl⟩ := ownsRow_shape (H189.at 11 rfl)
  refine kq _ _ <| wv 83 (pt b42 3) <| zwd fun Kq kq => zds ([(.slice a187 ((OD ++ [(⟨x150.i, a170, c171, x150.P, x150.h⟩ : OpR)]).length) c188)] : List Value) (kMake12_12 E T xa PD.length xc a187 ((OD ++ [(⟨x150.i, a170, c171, x150.P, x150.h⟩ : OpR)]).length) c188) H189 5 fun w191 H192 => ?_
  refine kq _ _ <| w_nil <| blk_normal <| ztn ?_
  have H194 := (H192.pk [7, 13, 0, 1, 2, 3, 4, 5, 6, 8, 9, 10, 11, 12, 14]).bag
  have H195 := H194.pk [1, 2, 3, 4, 5, 6, 7, 0, 8, 9, 10, 11, 12, 13]
  refine w_lit <| zwi 84 ((k : Int) + 1) <| wv 64 (.int .i64 ((k : Int) + 1)) <| w_nil ?_
  have H196 := H195.pk [0, 1, 2, 3, 4, 5, 6, 7, 8, 9, 10, 11]
  refine round_back ?_ _ ⟨(k + 1), a187, c188, (OD ++ [(⟨x150.i, a170, c171, x150.P, x150.h⟩ : OpR)]), (opC (⟨x150.i, a170, c171, x150.P, x150.h⟩ : OpR) :: B2), (putM X x150.i true), rfl, (by omega), (map_step hOD h151 rfl), (fun o ho => by rcases List.mem_append.1 ho with ho | ho; exact List.mem_cons_of_mem _ (hoin o ho); rw [List.mem_singleton.1 ho]; exact List.mem_cons_self), (fun p hp => (hpin2 p hp).more), (by rw [List.take_add_one, h151]; exact HvOk.put (num := fun x : OpR => x.i) (x := x150) hX), H196, rfl⟩ (by omega)
  exact zs
 have g197 := of_decide_eq_false b144
 refine zwkf _ b144 ?_
 refine zxb <| ztn <| w_seq ?_
 rw [List.take_of_length_le (show KO.length ≤ k by omega)] at hX hOD
 have hKO2 : KO = D131 := by rw [hKO, List.take_of_length_le l133]
 refine w_lit <| wv 85 (.func (.func 53) #[] #[(pt b2 0), (pt b120 0)]) <| wv 21 (.func (.func 53) #[] #[(pt b2 0), (pt b120 0)]) <| znt <| w_seq <| zsl <| wv 86 (.slice ta TL.length tc) <| wv 87 (.func (.func 53) #[] #[(pt b2 0), (pt b120 0)]) <| zwd fun Kq kq => zdc 88 (firstT_any w140 ta tc TL (ListAt.now H141 0 rfl hTL) hlT 64 F c E last vm mo M (H141.roMap 0 rfl hmo (fun h => h)) b2 (H141.at 1 rfl) b120 b116 X (H141.at 9 rfl) (H141.at 8 rfl) (h12T X)) ?_
 rintro _ w200 ⟨a201, c202, D203, rfl, s204, l205, k206, u207, f208⟩
 obtain ⟨KT, hKT⟩ : ∃ K_, K_ = D203.take 64 := ⟨_, rfl⟩
 rw [← hKT] at k206 f208 ⊢
 have H209 := H141.addU u207 k206 f208
 refine ⟨_, rfl, ?_⟩
 refine kq _ _ <| wv 89 (.int .i64 ((KT.length : Int))) <| wv 90 (.int .i64 (0)) <| znt <| w_block ?_
 have H210 := H209.addNil 89 2
 have hKTl : KT.length ≤ 12 := by rw [hKT, List.length_take]; have q := s204.perm.length_eq; have q2 := h12T X; omega
 refine wp_round ([23] ++ List.range' 90 15) (fun F_ W_ m_ => ∃ (j : Nat) (za : Option Addr) (zc : Nat) (TD : List TbR) (B3 : List Ck), F_ 90 = (.int .i64 ((j : Int))) ∧ (j ≤ KT.length) ∧ (TD.map keyT = (KT.take j).map keyT) ∧ (∀ t ∈ TD, tbC t ∈ B3) ∧ (∀ o ∈ OD, opC o ∈ B3) ∧ (∀ p ∈ PD, PIn B3 p) ∧ Sat w [restC w (fun _ => False), cellC b2 54 (kMake12_0 F c E last vm mo), cellC b6 25 (kMake12_1 T), cellC b10 47 (kMake12_2), (kMake12_3 a19 KP c20), cellC b42 47 (kMake12_17 E T xa PD.length xc ya OD.length yc za TD.length zc), (kMake12_3 xa PD xc), bagC B3, mapC b116 (Value.int .i64) Value.bool X, cellC b120 129 (kMake12_10 b116), (kMake12_11 a129 KO c130), (kMake12_11 ya OD yc), (kMake12_16 a201 KT c202), (kMake12_16 za TD zc)] W_ ∧ m_ = KT.length - j) _ ⟨0, none, 0, [], B2, (show ((.int .i64 (0)) : Value) = _ by first | rfl | go_num), (Nat.zero_le _), rfl, (by simp), hoin, hpin2, H210, rfl⟩ ?_
 rintro g211 w212 _ ⟨j, za, zc, TD, B3, v214, hj, hTD, htin, hoin2, hpin3, H213, rfl⟩
 refine wp_know 90 _ v214 ?_
 have hTDl := map_len hTD
 rw [List.length_take] at hTDl
 refine zsl <| wv 91 (.bool (decide ((j : Int) < (KT.length : Int)))) <| znt <| w_seq ?_
 refine (bsplit (decide ((j : Int) < (KT.length : Int)))).elim (fun b216 => ?_) (fun b216 => ?_)
 ·have g217 := of_decide_eq_true b216
  refine zwkt _ b216 ?_
  refine w_skip <| ztn <| w_seq <| w_block <| zsl ?_
  obtain ⟨g219, c220, e221⟩ := row_shape (H213.at 12 rfl) (by omega)
  obtain ⟨x222, h223⟩ := get_at (show j < KT.length by omega)
  refine wv 92 (.pointer (some ⟨g219, 0 + ((j : Int)).toNat * 2, none⟩)) ?_ (hr := e_indexAddrV (E := 89) (by kernel_rfl) (by kernel_rfl) (Nat.le_of_ble_eq_true rfl) rfl e221 rfl (by omega) (by omega))
  refine wv 93 (.agg ⟨(kMake12_18 x222)⟩) ?_ (hr := e_loadRun (vs := (kMake12_18 x222)) rfl (by kernel_rfl) (by kernel_rfl) (Nat.le_of_ble_eq_true (by kernel_rfl)) (rows_run (H213.at 12 rfl) e221 encTb_len h223 0 (show 0 + ((j : Int)).toNat * 2 = j * 2 + 0 by omega) (by kernel_rfl) (by kernel_rfl)))
  refine zwd fun Kq kq => zda ([(.int .i64 (0)), (.slice none 0 0)] : List Value) H213 fun b225 w226 H227 => ?_
  refine kq _ _ <| zwd fun Kq kq => zds1 (kMake12_18 x222) H227 14 fun w229 H230 => ?_
  refine kq _ _ <| znt <| w_seq ?_
  have hXt : TbK w x222 := hTk _ (s204.sub (List.mem_of_mem_take (by rw [← hKT]; exact List.mem_of_getElem? h223))).1
  refine w_lit <| wv 94 (pt b225 1) <| zw1 95 ((.slice x222.da x222.D.length x222.dc)) (H230.cell 14 rfl rfl) <| zwd fun Kq kq => zdc 96 (cloneD_any w229 ((.slice x222.da x222.D.length x222.dc)) x222.D (H230.roCk 0 rfl hXt.ok (fun _ _ h => h)) hXt.len) ?_
  rintro _ w233 ⟨u234, rfl, k235, p236, q237⟩
  have H238 := H230.addU p236 k235 q237
  obtain ⟨a239, c240, rfl⟩ := ownsRow_shape (H238.at 15 rfl)
  refine ⟨_, rfl, ?_⟩
  refine kq _ _ <| wv 97 (pt b225 1) <| zwd fun Kq kq => zds ([(.slice a239 x222.D.length c240)] : List Value) (kMake12_19 x222.i a239 x222.D.length c240) H238 14 fun w242 H243 => ?_
  refine kq _ _ <| znt <| w_lit <| wv 98 (pt b42 4) <| zw1 99 (.slice za TD.length zc) (H243.cell 5 rfl rfl) <| zwN 100 (kMake12_19 x222.i a239 x222.D.length c240) (H243.at 14 rfl) <| zwd fun Kq kq => zdbs 89 2 32 (.agg ⟨([(.int .i64 (0)), (.slice none 0 0)] : List Value)⟩) [(0, (.agg ⟨(kMake12_19 x222.i a239 x222.D.length c240)⟩))] (kMake12_19 x222.i a239 x222.D.length c240) H243 ?_
  intro b246 w247 (H248 : Sat w [restC w (fun _ => False), cellC b2 54 (kMake12_0 F c E last vm mo), cellC b6 25 (kMake12_1 T), cellC b10 47 (kMake12_2), (kMake12_3 a19 KP c20), cellC b42 47 (kMake12_17 E T xa PD.length xc ya OD.length yc za TD.length zc), (kMake12_3 xa PD xc), bagC B3, mapC b116 (Value.int .i64) Value.bool X, cellC b120 129 (kMake12_10 b116), (kMake12_11 a129 KO c130), (kMake12_11 ya OD yc), (kMake12_16 a201 KT c202), (kMake12_16 za TD zc), cellC b225 89 (kMake12_19 x222.i a239 x222.D.length c240), (kMake12_20 a239 x222.D c240), rowC 89 2 (.slice (some ⟨b246, 0, none⟩) 1 1) 1 (kMake12_19 x222.i a239 x222.D.length c240)] w247)
  have H249 : Sat w [restC w (fun _ => False), cellC b2 54 (kMake12_0 F c E last vm mo), cellC b6 25 (kMake12_1 T), cellC b10 47 (kMake12_2), (kMake12_3 a19 KP c20), cellC b42 47 (kMake12_17 E T xa PD.length xc ya OD.length yc za TD.length zc), (kMake12_3 xa PD xc), bagC B3, mapC b116 (Value.int .i64) Value.bool X, cellC b120 129 (kMake12_10 b116), (kMake12_11 a129 KO c130), (kMake12_11 ya OD yc), (kMake12_16 a201 KT c202), (kMake12_16 za TD zc), cellC b225 89 (kMake12_19 x222.i a239 x222.D.length c240), (kMake12_20 a239 x222.D c240), rowC 89 2 (.slice (some ⟨b246, 0, none⟩) 1 1) 1 ([(⟨x222.i, a239, c240, x222.D⟩ : TbR)].flatMap encTb)] w247 := H248.cast (by rw [(show ((kMake12_19 x222.i a239 x222.D.length c240) : List Value) = [(⟨x222.i, a239, c240, x222.D⟩ : TbR)].flatMap encTb by kernel_rfl)])
  refine kq _ _ <| zwd fun Kq kq => d_append (T := 43) (e := 89) (size := 2) (bytes := 32) rfl H249 (by kernel_rfl) 13 16 rfl rfl rfl rfl (flat_one encTb encTb_one [(⟨x222.i, a239, c240, x222.D⟩ : TbR)]) (by omega) (by omega) fun v251 w252 H253 => ?_
  have H256 : Sat w [restC w (fun _ => False), cellC b2 54 (kMake12_0 F c E last vm mo), cellC b6 25 (kMake12_1 T), cellC b10 47 (kMake12_2), (kMake12_3 a19 KP c20), cellC b42 47 (kMake12_17 E T xa PD.length xc ya OD.length yc za TD.length zc), (kMake12_3 xa PD xc), bagC B3, mapC b116 (Value.int .i64) Value.bool X, cellC b120 129 (kMake12_10 b116), (kMake12_11 a129 KO c130), (kMake12_11 ya OD yc), (kMake12_16 a201 KT c202), rowC 89 2 v251 ((TD ++ [(⟨x222.i, a239, c240, x222.D⟩ : TbR)]).length) ((TD ++ [(⟨x222.i, a239, c240, x222.D⟩ : TbR)]).flatMap encTb), cellC b225 89 (kMake12_19 x222.i a239 x222.D.length c240), (kMake12_20 a239 x222.D c240), rowC 89 2 (.slice (some ⟨b246, 0, none⟩) 1 1) 1 ([(⟨x222.i, a239, c240, x222.D⟩ : TbR)].flatMap encTb)] w252 := H253.cast (by simp only [List.length_append, List.flatMap_append] <;> rfl)
  obtain ⟨a254, c255, rfl⟩ := ownsRow_shape (H256.at 13 rfl)
  refine kq _ _ <| wv 103 (pt b42 4) <| zwd fun Kq kq => zds ([(.slice a254 ((TD ++ [(⟨x222.i, a239, c240, x222.D⟩ : TbR)]).length) c255)] : List Value) (kMake12_17 E T xa PD.length xc ya OD.length yc a254 ((TD ++ [(⟨x222.i, a239, c240, x222.D⟩ : TbR)]).length) c255) H256 5 fun w258 H259 => ?_
  refine kq _ _ <| w_nil <| blk_normal <| ztn ?_
  have H261 := (H259.pk [7, 15, 0, 1, 2, 3, 4, 5, 6, 8, 9, 10, 11, 12, 13, 14, 16]).bag
  have H262 := H261.pk [1, 2, 3, 4, 5, 6, 7, 0, 8, 9, 10, 11, 12, 13, 14, 15]
  refine w_lit <| zwi 104 ((j : Int) + 1) <| wv 90 (.int .i64 ((j : Int) + 1)) <| w_nil ?_
  have H263 := H262.pk [0, 1, 2, 3, 4, 5, 6, 7, 8, 9, 10, 11, 12, 13]
  refine round_back ?_ _ ⟨(j + 1), a254, c255, (TD ++ [(⟨x222.i, a239, c240, x222.D⟩ : TbR)]), (tbC (⟨x222.i, a239, c240, x222.D⟩ : TbR) :: B3), rfl, (by omega), (map_step hTD h223 rfl), (fun t ht => by rcases List.mem_append.1 ht with ht | ht; exact List.mem_cons_of_mem _ (htin t ht); rw [List.mem_singleton.1 ht]; exact List.mem_cons_self), (fun o ho => List.mem_cons_of_mem _ (hoin2 o ho)), (fun p hp => (hpin3 p hp).more), H263, rfl⟩ (by omega)
  exact zs
 have g264 := of_decide_eq_false b216
 refine zwkf _ b216 ?_
 refine zxb <| ztn <| zsl <| zwN 105 (kMake12_17 E T xa PD.length xc ya OD.length yc za TD.length zc) (H213.at 5 rfl) <| zwd fun Kq kq => zds1 (kMake12_17 E T xa PD.length xc ya OD.length yc za TD.length zc) H213 3 fun w267 H268 => ?_
 refine kq _ _ <| wv 11 (.int .i64 (0)) <| znt <| w_ret <| end2 rfl (res_cellN (vs := (kMake12_17 E T xa PD.length xc ya OD.length yc za TD.length zc)) rfl (by kernel_rfl) (by kernel_rfl) (Nat.le_of_ble_eq_true (by kernel_rfl)) (H268.at 3 rfl) (by kernel_rfl)) (res_tmp (v := (.int .i64 (0))) rfl) ?_
 rw [List.take_of_length_le (show KT.length ≤ j by omega)] at hTD
 exact ⟨D21, s22, .inr ⟨Q, hQ, D131, X, D203, xa, xc, PD, ya, yc, OD, za, zc, TD, B3, s132, by rw [← hKO2]; exact hX, s204, (by have q2 : ¬ KP.length < Q := (by omega); have q3 := congrArg List.length hKP; rw [List.length_take] at q3; omega), rfl, by rw [← hKP]; exact hPC, by rw [← hKO2]; exact hOD, by rw [← hKT]; exact hTD, hpin3, hoin2, htin, H268.fn [6, 11, 13, 7], H268.upd 0 rfl [] (fun _ h => h.elim), H268.freshS 0 rfl (fun _ h => h) [6, 11, 13, 7] rfl rfl⟩⟩
end Go.Proofs.YtenihpghfdcpkaaGreat
