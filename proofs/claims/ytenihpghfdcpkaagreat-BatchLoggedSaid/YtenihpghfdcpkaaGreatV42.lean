/- WHAT IS PROVED: contracts and plain laws of BatW, OpenPl12. Conditions: stated with each. -/
import Derived.Test.YtenihpghfdcpkaaGreatV03
import Derived.Test.YtenihpghfdcpkaaGreatV05
import Derived.Test.YtenihpghfdcpkaaGreatV16
import Derived.Test.YtenihpghfdcpkaaGreatV18
import Derived.Test.YtenihpghfdcpkaaGreatV20
import Derived.Test.YtenihpghfdcpkaaGreatV27
set_option maxHeartbeats 4000000
set_option maxRecDepth 100000
namespace Go.Proofs.YtenihpghfdcpkaaGreat
open Go.RowKit
abbrev kBatW_0 : List Value := ([(.int .i64 (0)), (.int .u64 (5)), (.slice none 0 0), (.slice none 0 0), (.slice none 0 0)] : List Value)
abbrev kBatW_1 : List Value := ([(.pointer none), (.pointer none)] : List Value)
abbrev kBatW_2 (p0 : Nat) (p1 : Nat) : List Value := ([(pt p0 0), (pt p1 0)] : List Value)
theorem entries0_any (w : World) :
  Calls Tryz.prog 14 #[(.int .u64 (0)), (.map none), (.agg ⟨([(.int .i64 (0)), (.int .u64 (5)), (.slice none 0 0), (.slice none 0 0), (.slice none 0 0)] : List Value)⟩)] w fun e w' => e = .returned (.slice none 0 0) ∧ Upd [] w w' := by
 have H := Sat.start0 w
 refine calls_fr Tryz.func14 rfl 92 rfl (Nat.le_of_ble_eq_true rfl) ?_
 refine zsl <| zwd fun Kq kq => zdb (kBatW_0) H fun b2 w3 H4 => ?_
 refine kq _ _ <| wv 6 (.slice none 0 0) <| znsl <| zwd fun Kq kq => d_makeMap nmV entV rfl H4 fun b6 w7 H8 => ?_
 refine kq _ _ <| wv 7 (.map (some b6)) <| znt <| w_seq <| zsl <| wv 19 (pt b2 2) <| zw1 20 (.slice none 0 0) (H8.cell 1 rfl rfl) <| wv 21 (.int .i64 (0)) <| wv 22 (.int .i64 (0)) <| znt ?_
 refine w_block <| wp_round ([9, 11, 12, 13, 14] ++ List.range' 22 57) (fun F_ W_ m_ => ∃ (u_ : Unit), F_ 22 = (.int .i64 (0)) ∧ Sat w [restC w (fun _ => False), cellC b2 47 (kBatW_0), mapC b6 nmV entV []] W_ ∧ m_ = 1) _ ⟨(), (show ((.int .i64 (0)) : Value) = _ by first | rfl | go_num), H8, rfl⟩ ?_
 rintro g9 w10 _ ⟨u_, v12, H11, rfl⟩
 refine wp_know 22 _ v12 ?_
 refine zsl <| wv 23 (.bool false) <| znt <| w_seq <| wp_iff rfl ?_
 refine zxb <| ztn <| zsl <| wv 15 (.slice none 0 0) <| znt <| w_seq <| zsl <| wv 79 (.map (some b6)) <| zwd fun Kq kq => d_range (kt := 59) (et := 63) rfl H11 2 rfl (by kernel_rfl) rfl ?_
 intro r15 w16 H17
 refine kq _ _ <| znt <| w_block <| wp_round [15, 17, 81, 82, 83, 84, 85, 86, 87, 88] (fun F_ W_ m_ => ∃ (u_ : Unit), F_ 15 = (.slice none 0 0) ∧ Sat w [restC w (fun _ => False), cellC b2 47 (kBatW_0), iterC r15 b6 nmV entV [] []] W_ ∧ m_ = 1) _ ⟨(), (by first | rfl | go_num), H17, rfl⟩ ?_
 rintro g18 w19 _ ⟨u_, v21, H20, rfl⟩
 refine wp_know 15 _ v21 ?_
 refine zsl <| zwd fun Kq kq => ?_
 refine d_next rfl H20 2 rfl rfl ?_ ?_
 ·intro p24
  refine kq _ _ <| wv 82 (.bool false) <| znt <| w_seq <| wp_iff rfl ?_
  refine zxb <| ztn <| zsl <| wv 89 (.slice none 0 0) <| zwd fun Kq kq => zdc 90 (sort0_any none 0 (.func (.func 60) #[] #[]) w19) ?_
  rintro _ w26 ⟨rfl, hww26⟩
  subst hww26
  refine ⟨_, rfl, ?_⟩
  refine kq _ _ <| znsl <| wv 91 (.slice none 0 0) <| wv 6 (.slice none 0 0) <| znt <| w_ret <| ze1 (.slice none 0 0) ?_
  exact ⟨rfl, H20.upd 0 rfl [] (fun _ h => h.elim)⟩
 intro y27 t28 w29 p30 H31
 refine kq _ _ <| wv 82 (.bool true) <| znt <| w_seq <| wp_ift rfl ?_
 refine w_skip <| ztn <| w_block <| w_seq ?_
 simp at p30
theorem nilBook_any (w : World) :
  Calls Tryz.prog 64 #[] w fun e w' => ∃ b mb r, e = .returned (.agg #[.pointer (some ⟨b, 0, none⟩), .pointer (some ⟨r, 0, none⟩)]) ∧ (sepC [cellC b 179 [.map (some mb)], mapC mb signedV (Value.int .i64) (marks []), cellC r 165 [.slice none 0 0]]).ok w' ∧ Upd [] w w' ∧ ∀ q_, (sepC [cellC b 179 [.map (some mb)], mapC mb signedV (Value.int .i64) (marks []), cellC r 165 [.slice none 0 0]]).fp q_ → w.heap.size ≤ q_ := by
 have H := Sat.start0 w
 refine calls_fr Tryz.func64 rfl 8 rfl (Nat.le_of_ble_eq_true rfl) ?_
 refine zsl <| zwd fun Kq kq => zda (kBatW_1) H fun b2 w3 H4 => ?_
 refine kq _ _ <| znsl <| zwd fun Kq kq => zdc 4 (new10_any w3) ?_
 rintro _ w6 ⟨b7, m8, r9, rfl, k10, p11, q12⟩
 have H13 := H4.addU p11 k10 q12
 have H14 := H13.open 2 rfl
 refine ⟨_, rfl, ?_⟩
 refine kq _ _ ?_
 clear kq Kq
 refine wv 3 (.tuple #[(.agg ⟨(kBatW_2 b7 r9)⟩), (.bool true)]) ?_
 refine wv 5 (.agg ⟨(kBatW_2 b7 r9)⟩) ?_
 refine wv 6 (.bool true) ?_
 refine zwd fun Kq kq => ?_
 refine zda (kBatW_1) H14 ?_
 intro b16 w17 H18
 refine kq _ _ ?_
 clear kq Kq
 refine zwd fun Kq kq => ?_
 refine zds1 (kBatW_2 b7 r9) H18 5 ?_
 intro w20 H21
 refine kq _ _ <| wv 2 (.bool true) <| znsl <| zwN 7 (kBatW_2 b7 r9) (H21.at 5 rfl) <| zwd fun Kq kq => zds1 (kBatW_2 b7 r9) H21 1 fun w24 H25 => ?_
 refine kq _ _ <| znt <| w_ret <| end1 rfl (res_cellN (vs := (kBatW_2 b7 r9)) rfl (by kernel_rfl) (by kernel_rfl) (Nat.le_of_ble_eq_true (by kernel_rfl)) (H25.at 1 rfl) (by kernel_rfl)) ?_
 exact ⟨b7, m8, r9, rfl, H25.fn [2, 3, 4], H25.upd 0 rfl [] (fun _ h => h.elim), H25.freshS 0 rfl (fun _ h => h) [2, 3, 4] rfl rfl⟩
theorem wakes_any (w : World) :
  Calls Tryz.prog 16 #[] w fun e w' => e = .returned (.bool true) ∧ Upd [] w w' := by
 have H := Sat.start0 w
 refine calls_fr Tryz.func16 rfl 13 rfl (Nat.le_of_ble_eq_true rfl) ?_
 refine zsl <| wv 0 (.bool false) <| znsl <| wv 1 (.agg ⟨(kBatW_0)⟩) <| zwd fun Kq kq => zdq 2 (entries0_any w) H fun w2 H3 => ?_
 refine kq _ _ <| wv 3 (.int .i64 (0)) <| wv 4 (.bool true) <| wv 5 (.bool true) <| wy 4 5 true 6 (.agg ⟨([(.int .i64 (1)), (.int .i64 (1))] : List Value)⟩) <| wl_do (wantsY 4 5 true rfl (by kernel_rfl) rfl (by kernel_rfl)) (fun Kq kq => ?_)
 refine zdc 7 (nilBook_any w2) ?_
 rintro _ w6 ⟨b7, m8, r9, rfl, k10, p11, q12⟩
 have H13 := H3.addU p11 k10 q12
 have H14 := H13.open 1 rfl
 refine ⟨_, rfl, ?_⟩
 refine kq _ _ <| wy 4 5 true 8 (pt b7 0) <| wy 4 5 true 9 (.agg ⟨([(.int .i64 (0)), (.slice none 0 0)] : List Value)⟩) <| wl_do (wantsY 4 5 true rfl (by kernel_rfl) rfl (by kernel_rfl)) (fun Kq kq => ?_)
 refine zdq 10 (wRightTomb_any w6 (1 : Int) (1 : Int) (by omega) b7 m8 ([] : List Signed) (H14.at 1 rfl) (H14.at 2 rfl) (0 : Int) none 0 ([] : List DenyD) ListAt.nil (by simp) (by simp)) H14 ?_
 intro w16 H17
 refine kq _ _ <| wy 4 5 true 11 (.bool (!(rightTb (1 : Int) ([] : List Signed) (0 : Int) ([] : List DenyD)))) <| wv 12 (.bool (!(rightTb (1 : Int) ([] : List Signed) (0 : Int) ([] : List DenyD)))) <| wv 0 (.bool (!(rightTb (1 : Int) ([] : List Signed) (0 : Int) ([] : List DenyD)))) <| znt <| w_ret <| ze1 (.bool (!(rightTb (1 : Int) ([] : List Signed) (0 : Int) ([] : List DenyD)))) ?_
 exact ⟨rfl, H17.upd 0 rfl [] (fun _ h => h.elim)⟩
end Go.Proofs.YtenihpghfdcpkaaGreat
namespace Go.Proofs.YtenihpghfdcpkaaGreat
open Go.ChangeShapes Go.WideShapes Go.ChangeAt Go.RowKit Go.Deep
section
variable {H : Type} {enc : TypeId × Value → H} {W : World}
theorem cell_enc {a : Addr} {x : Value} (h : W.cell? a = some x) : RunAt W a [x] := fun j u hj => by
 match j, hj with
 | 0, hj =>
  simp only [List.getElem?_cons_zero, Option.some.injEq] at hj
  subst hj
  obtain ⟨b, o, s⟩ := a
  have e : (⟨b, o, s⟩ : Addr).add 0 = ⟨b, o, s⟩ := by cases s <;> simp [Addr.add]
  rw [e]; exact h
 | _ + 1, hj => simp at hj
theorem open_js {v : Value} {d : DataW H} {ps : List MemPlace} (hv : ∃ a len cap, v = .slice a len cap) (h : DataW.Trod enc Tryz.prog W 0 (fun _ => true) true 24 v d ps) : ∃ xs, (∀ x ∈ xs, -9223372036854775808 ≤ x ∧ x ≤ 9223372036854775807) ∧ ListAt encJ 1 W v xs := by
 obtain ⟨xs, hx⟩ := open_sliceOf (sz := 1) (R := fun w a (x : Int) => w.cell? a = some (.int .i64 x) ∧ -9223372036854775808 ≤ x ∧ x ≤ 9223372036854775807) Tryz.underlying24 (by kernel_rfl) (by omega) hv h (fun cs n y b off hl hcs hy => by
  obtain ⟨z, rfl, hz⟩ := trod_int_cell (k := .i64) Tryz.underlying3 hy
  exact ⟨z, hcs 0 (by simp), wf_i64 hz⟩)
 refine ⟨xs, fun n hn => ?_, SliceOf.imp hx fun a x h => cell_enc h.1⟩
 obtain ⟨i, hi, rfl⟩ := List.mem_iff_getElem.1 hn
 obtain ⟨b, off, cap, _, _, hall⟩ := hx.some (by omega)
 exact (hall i hi).2
theorem open_tms {v : Value} {d : DataW H} {ps : List MemPlace} (hv : ∃ a len cap, v = .slice a len cap) (h : DataW.Trod enc Tryz.prog W 0 (fun _ => true) true 23 v d ps) : ∃ xs, (∀ x ∈ xs, TmOk W x) ∧ ListAt encTm 1 W v xs := by
 obtain ⟨xs, hx⟩ := open_sliceOf (sz := 1) (R := fun w a (x : TmR) => w.cell? a = some (.slice x.ta x.xs.length x.tc) ∧ TmOk W x) Tryz.underlying23 (by kernel_rfl) (by omega) hv h (fun cs n y b off hl hcs hy => by
  obtain ⟨a, len, cap, rfl⟩ := trod_slice_shape Tryz.underlying109 hy
  obtain ⟨xs, hb, hL⟩ := open_u64s (v := .slice a len cap) (d := y.1) (ps := y.2) Tryz.underlying109 Tryz.underlying25 (by kernel_rfl) ⟨a, len, cap, rfl⟩ ⟨n, hy⟩
  obtain ⟨a', c', hv⟩ := SliceOf.len hL
  simp only [Value.slice.injEq] at hv
  obtain ⟨rfl, rfl, rfl⟩ := hv
  exact ⟨⟨_, _, xs⟩, hcs 0 (by simp), hL, hb⟩)
 refine ⟨xs, fun n hn => ?_, SliceOf.imp hx fun a x h => cell_enc h.1⟩
 obtain ⟨i, hi, rfl⟩ := List.mem_iff_getElem.1 hn
 obtain ⟨b, off, cap, _, _, hall⟩ := hx.some (by omega)
 exact (hall i hi).2
theorem nm_thing {n : Nat} {cs : List Value} {y : DataW H × List MemPlace} (h : DataW.trod enc Tryz.prog W 0 (fun _ => true) true n 59 cs = some y) : ∃ x : NmD, cs = encNm x := by
 obtain ⟨a, b, e, _⟩ := name_cells h
 exact ⟨⟨a, b⟩, e⟩
theorem open_nmL {v : Value} {d : DataW H} {ps : List MemPlace} (hv : ∃ a len cap, v = .slice a len cap) (h : DataW.Trod enc Tryz.prog W 0 (fun _ => true) true 22 v d ps) : ∃ xs, ListAt encNm 2 W v xs := by
 obtain ⟨xs, hx⟩ := open_sliceOf (sz := 2) (R := fun w a (x : NmD) => RunAt w a (encNm x)) Tryz.underlying22 (by kernel_rfl) (by omega) hv h (fun cs n y b off hl hcs hy => by
  obtain ⟨x, rfl⟩ := nm_thing hy
  refine ⟨x, fun j v hj => ?_⟩
  obtain ⟨hj', rfl⟩ := List.getElem?_eq_some_iff.1 hj
  rw [Addr.add_lit]; exact hcs j hj')
 exact ⟨xs, hx⟩
structure PlanAt (W : World) (v : Value) (na ta ha oa ba la : Option Addr) (nc tc hc_ oc bc lc : Nat) (N LL : List NmD) (TT : List TmR) (HH OO BB : List Int) (ptm psk pl : Int) : Prop where
 v : v = .agg ⟨[.slice na N.length nc, .slice ta TT.length tc, .slice ha HH.length hc_, .int .u64 ptm, .slice oa OO.length oc, .slice ba BB.length bc, .int .i64 psk, .slice la LL.length lc, .int .u64 pl]⟩
 n : ListAt encNm 2 W (.slice na N.length nc) N
 t : ListAt encTm 1 W (.slice ta TT.length tc) TT
 h : ListAt encJ 1 W (.slice ha HH.length hc_) HH
 o : ListAt encJ 1 W (.slice oa OO.length oc) OO
 b : ListAt encJ 1 W (.slice ba BB.length bc) BB
 l : ListAt encNm 2 W (.slice la LL.length lc) LL
 tt : ∀ x ∈ TT, TmOk W x
 lim : (∀ x ∈ OO, -9223372036854775808 ≤ x ∧ x ≤ 9223372036854775807) ∧ (∀ x ∈ BB, -9223372036854775808 ≤ x ∧ x ≤ 9223372036854775807) ∧ (0 ≤ ptm ∧ ptm ≤ 18446744073709551615) ∧ (-9223372036854775808 ≤ psk ∧ psk ≤ 9223372036854775807) ∧ (0 ≤ pl ∧ pl ≤ 18446744073709551615)
theorem open_plan {v : Value} {d : DataW H} {ps : List MemPlace} (hv : ∃ cs, v = .agg cs) (h : DataW.Trod enc Tryz.prog W 0 (fun _ => true) true 27 v d ps) : ∃ na ta ha oa ba la nc tc hc_ oc bc lc N LL TT HH OO BB ptm psk pl, PlanAt W v na ta ha oa ba la nc tc hc_ oc bc lc N LL TT HH OO BB ptm psk pl := by
 obtain ⟨fuel, h⟩ := h
 obtain ⟨hl, m, hf⟩ := field_cells Tryz.underlying27 h
 obtain ⟨z0, h0⟩ := hf 0 _ rfl
 obtain ⟨z1, h1⟩ := hf 1 _ rfl
 obtain ⟨z2, h2⟩ := hf 2 _ rfl
 obtain ⟨z3, h3⟩ := hf 3 _ rfl
 obtain ⟨z4, h4⟩ := hf 4 _ rfl
 obtain ⟨z5, h5⟩ := hf 5 _ rfl
 obtain ⟨z6, h6⟩ := hf 6 _ rfl
 obtain ⟨z7, h7⟩ := hf 7 _ rfl
 obtain ⟨z8, h8⟩ := hf 8 _ rfl
 obtain ⟨a0, l0, c0, e0⟩ := trod_slice_shape Tryz.underlying22 h0
 obtain ⟨a1, l1, c1, e1⟩ := trod_slice_shape Tryz.underlying23 h1
 obtain ⟨a2, l2, c2, e2⟩ := trod_slice_shape Tryz.underlying24 h2
 obtain ⟨ptm, e3, w3⟩ := trod_int_cell (k := .u64) (by kernel_rfl) h3
 obtain ⟨a4, l4, c4, e4⟩ := trod_slice_shape Tryz.underlying24 h4
 obtain ⟨a5, l5, c5, e5⟩ := trod_slice_shape Tryz.underlying24 h5
 obtain ⟨psk, e6, w6⟩ := trod_int_cell (k := .i64) (by kernel_rfl) h6
 obtain ⟨a7, l7, c7, e7⟩ := trod_slice_shape Tryz.underlying22 h7
 obtain ⟨pl, e8, w8⟩ := trod_int_cell (k := .u64) (by kernel_rfl) h8
 have h0' := h0; rw [e0] at h0'
 have h1' := h1; rw [e1] at h1'
 have h2' := h2; rw [e2] at h2'
 have h4' := h4; rw [e4] at h4'
 have h5' := h5; rw [e5] at h5'
 have h7' := h7; rw [e7] at h7'
 obtain ⟨N, L0⟩ := open_nmL (v := .slice a0 l0 c0) (d := z0.1) (ps := z0.2) ⟨_, _, _, rfl⟩ ⟨m, h0'⟩
 obtain ⟨TT, b1, L1⟩ := open_tms (v := .slice a1 l1 c1) (d := z1.1) (ps := z1.2) ⟨_, _, _, rfl⟩ ⟨m, h1'⟩
 obtain ⟨HH, b2, L2⟩ := open_js (v := .slice a2 l2 c2) (d := z2.1) (ps := z2.2) ⟨_, _, _, rfl⟩ ⟨m, h2'⟩
 obtain ⟨OO, b4, L4⟩ := open_js (v := .slice a4 l4 c4) (d := z4.1) (ps := z4.2) ⟨_, _, _, rfl⟩ ⟨m, h4'⟩
 obtain ⟨BB, b5, L5⟩ := open_js (v := .slice a5 l5 c5) (d := z5.1) (ps := z5.2) ⟨_, _, _, rfl⟩ ⟨m, h5'⟩
 obtain ⟨LL, L7⟩ := open_nmL (v := .slice a7 l7 c7) (d := z7.1) (ps := z7.2) ⟨_, _, _, rfl⟩ ⟨m, h7'⟩
 obtain ⟨x0, y0, q0⟩ := L0.len
 obtain ⟨x1, y1, q1⟩ := L1.len
 obtain ⟨x2, y2, q2⟩ := L2.len
 obtain ⟨x4, y4, q4⟩ := L4.len
 obtain ⟨x5, y5, q5⟩ := L5.len
 obtain ⟨x7, y7, q7⟩ := L7.len
 rw [q0] at L0 e0
 rw [q1] at L1 e1
 rw [q2] at L2 e2
 rw [q4] at L4 e4
 rw [q5] at L5 e5
 rw [q7] at L7 e7
 simp only [List.getElem_toArray, List.getElem_cons_zero, List.getElem_cons_succ] at e0 e1 e2 e3 e4 e5 e6 e7 e8
 simp only [show Tryz.prog.cellsOf 3 = 1 by kernel_rfl, show Tryz.prog.cellsOf 25 = 1 by kernel_rfl, show Tryz.prog.cellsOf 22 = 1 by kernel_rfl, show Tryz.prog.cellsOf 23 = 1 by kernel_rfl, show Tryz.prog.cellsOf 24 = 1 by kernel_rfl] at e0 e1 e2 e3 e4 e5 e6 e7 e8
 refine ⟨_, _, _, _, _, _, _, _, _, _, _, _, N, LL, TT, HH, OO, BB, ptm, psk, pl, agg_of hv ?_, L0, L1, L2, L4, L5, L7, b1, b4, b5, wf_u64 w3, wf_i64 w6, wf_u64 w8⟩
 have := drop_step e0 (drop_step e1 (drop_step e2 (drop_step e3 (drop_step e4 (drop_step e5 (drop_step e6 (drop_step e7 (drop_step e8 (drop_end (hl.trans (show Tryz.prog.cellsOf 27 = 9 by kernel_rfl)))))))))))
 simp only [List.drop_zero] at this
 rw [this]; simp
end
end Go.Proofs.YtenihpghfdcpkaaGreat
