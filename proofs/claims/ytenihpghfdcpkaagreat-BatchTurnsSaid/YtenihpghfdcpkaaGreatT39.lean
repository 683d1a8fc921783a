/- WHAT IS PROVED: contracts and plain laws of BatW, FrameU, OpenC10, OpenP12, EntL. Conditions: stated with each. -/
import Derived.Test.YtenihpghfdcpkaaGreatT03
import Derived.Test.YtenihpghfdcpkaaGreatT05
import Derived.Test.YtenihpghfdcpkaaGreatT06
import Derived.Test.YtenihpghfdcpkaaGreatT10
import Derived.Test.YtenihpghfdcpkaaGreatT15
import Derived.Test.YtenihpghfdcpkaaGreatT18
set_option maxHeartbeats 4000000
set_option maxRecDepth 100000
namespace Go.Proofs.YtenihpghfdcpkaaGreat
open Go.RowKit
abbrev kBatW_0 : List Value := ([(.int .i64 (0)), (.int .u64 (5)), (.slice none 0 0), (.slice none 0 0), (.slice none 0 0)] : List Value)
abbrev kBatW_1 : List Value := ([(.pointer none), (.pointer none)] : List Value)
abbrev kBatW_2 (p0 : Nat) (p1 : Nat) : List Value := ([(pt p0 0), (pt p1 0)] : List Value)
theorem entries0_any (w : World) :
  Calls Tryz.prog 14 #[(.int .u64 (0)), (.map none), (.agg ⟨([(.int .i64 (0)), (.int .u64 (5)), (.slice none 0 0), (.slice none 0 0), (.slice none 0 0)] : List Value)⟩)] w fun e w' => e = .returned (.slice none 0 0) ∧ Upd [] w w' := by
 have H := Sat.start0 w
 refine calls_fr Tryz.func14 rfl 92 rfl (Nat.le_of_ble_eq_true rfl) ?_
 refine zsl <| zwd fun Kq kq => zdb (kBatW_0) H fun b2 w3 H4 => ?_
 refine kq _ _ <| wv 6 (.slice none 0 0) <| znsl <| zwd fun Kq kq => d_makeMap nmV entV rfl H4 fun b6 w7 H8 => ?_
 refine kq _ _ <| wv 7 (.map (some b6)) <| znt <| w_seq <| zsl <| wv 19 (pt b2 2) <| zw1 20 (.slice none 0 0) (H8.cell 1 rfl rfl) <| wv 21 (.int .i64 (0)) <| wv 22 (.int .i64 (0)) <| znt ?_
 refine w_block <| wp_round ([9, 11, 12, 13, 14] ++ List.range' 22 57) (fun F_ W_ m_ => ∃ (u_ : Unit), F_ 22 = (.int .i64 (0)) ∧ Sat w [restC w (fun _ => False), cellC b2 47 (kBatW_0), mapC b6 nmV entV []] W_ ∧ m_ = 1) _ ⟨(), (show ((.int .i64 (0)) : Value) = _ by first | rfl | go_num), H8, rfl⟩ ?_
 rintro g9 w10 _ ⟨u_, v12, H11, rfl⟩
 refine wp_know 22 _ v12 ?_
 refine zsl <| wv 23 (.bool false) <| znt <| w_seq <| wp_iff rfl ?_
 refine zxb <| ztn <| zsl <| wv 15 (.slice none 0 0) <| znt <| w_seq <| zsl <| wv 79 (.map (some b6)) <| zwd fun Kq kq => d_range (kt := 59) (et := 63) rfl H11 2 rfl (by kernel_rfl) rfl ?_
 intro r15 w16 H17
 refine kq _ _ <| znt <| w_block <| wp_round [15, 17, 81, 82, 83, 84, 85, 86, 87, 88] (fun F_ W_ m_ => ∃ (u_ : Unit), F_ 15 = (.slice none 0 0) ∧ Sat w [restC w (fun _ => False), cellC b2 47 (kBatW_0), iterC r15 b6 nmV entV [] []] W_ ∧ m_ = 1) _ ⟨(), (by first | rfl | go_num), H17, rfl⟩ ?_
 rintro g18 w19 _ ⟨u_, v21, H20, rfl⟩
 refine wp_know 15 _ v21 ?_
 refine zsl <| zwd fun Kq kq => ?_
 refine d_next rfl H20 2 rfl rfl ?_ ?_
 ·intro p24
  refine kq _ _ <| wv 82 (.bool false) <| znt <| w_seq <| wp_iff rfl ?_
  refine zxb <| ztn <| zsl <| wv 89 (.slice none 0 0) <| zwd fun Kq kq => zdc 90 (sort0_any none 0 (.func (.func 60) #[] #[]) w19) ?_
  rintro _ w26 ⟨rfl, hww26⟩
  subst hww26
  refine ⟨_, rfl, ?_⟩
  refine kq _ _ <| znsl <| wv 91 (.slice none 0 0) <| wv 6 (.slice none 0 0) <| znt <| w_ret <| ze1 (.slice none 0 0) ?_
  exact ⟨rfl, H20.upd 0 rfl [] (fun _ h => h.elim)⟩
 intro y27 t28 w29 p30 H31
 refine kq _ _ <| wv 82 (.bool true) <| znt <| w_seq <| wp_ift rfl ?_
 refine w_skip <| ztn <| w_block <| w_seq ?_
 simp at p30
theorem nilBook_any (w : World) :
  Calls Tryz.prog 64 #[] w fun e w' => ∃ b mb r, e = .returned (.agg #[.pointer (some ⟨b, 0, none⟩), .pointer (some ⟨r, 0, none⟩)]) ∧ (sepC [cellC b 179 [.map (some mb)], mapC mb signedV (Value.int .i64) (marks []), cellC r 165 [.slice none 0 0]]).ok w' ∧ Upd [] w w' ∧ ∀ q_, (sepC [cellC b 179 [.map (some mb)], mapC mb signedV (Value.int .i64) (marks []), cellC r 165 [.slice none 0 0]]).fp q_ → w.heap.size ≤ q_ := by
 have H := Sat.start0 w
 refine calls_fr Tryz.func64 rfl 8 rfl (Nat.le_of_ble_eq_true rfl) ?_
 refine zsl <| zwd fun Kq kq => zda (kBatW_1) H fun b2 w3 H4 => ?_
 refine kq _ _ <| znsl <| zwd fun Kq kq => zdc 4 (new10_any w3) ?_
 rintro _ w6 ⟨b7, m8, r9, rfl, k10, p11, q12⟩
 have H13 := H4.addU p11 k10 q12
 have H14 := H13.open 2 rfl
 refine ⟨_, rfl, ?_⟩
 refine kq _ _ ?_
 clear kq Kq
 refine wv 3 (.tuple #[(.agg ⟨(kBatW_2 b7 r9)⟩), (.bool true)]) ?_
 refine wv 5 (.agg ⟨(kBatW_2 b7 r9)⟩) ?_
 refine wv 6 (.bool true) ?_
 refine zwd fun Kq kq => ?_
 refine zda (kBatW_1) H14 ?_
 intro b16 w17 H18
 refine kq _ _ ?_
 clear kq Kq
 refine zwd fun Kq kq => ?_
 refine zds1 (kBatW_2 b7 r9) H18 5 ?_
 intro w20 H21
 refine kq _ _ <| wv 2 (.bool true) <| znsl <| zwN 7 (kBatW_2 b7 r9) (H21.at 5 rfl) <| zwd fun Kq kq => zds1 (kBatW_2 b7 r9) H21 1 fun w24 H25 => ?_
 refine kq _ _ <| znt <| w_ret <| end1 rfl (res_cellN (vs := (kBatW_2 b7 r9)) rfl (by kernel_rfl) (by kernel_rfl) (Nat.le_of_ble_eq_true (by kernel_rfl)) (H25.at 1 rfl) (by kernel_rfl)) ?_
 exact ⟨b7, m8, r9, rfl, H25.fn [2, 3, 4], H25.upd 0 rfl [] (fun _ h => h.elim), H25.freshS 0 rfl (fun _ h => h) [2, 3, 4] rfl rfl⟩
theorem wakes_any (w : World) :
  Calls Tryz.prog 16 #[] w fun e w' => e = .returned (.bool true) ∧ Upd [] w w' := by
 have H := Sat.start0 w
 refine calls_fr Tryz.func16 rfl 13 rfl (Nat.le_of_ble_eq_true rfl) ?_
 refine zsl <| wv 0 (.bool false) <| znsl <| wv 1 (.agg ⟨(kBatW_0)⟩) <| zwd fun Kq kq => zdq 2 (entries0_any w) H fun w2 H3 => ?_
 refine kq _ _ <| wv 3 (.int .i64 (0)) <| wv 4 (.bool true) <| wv 5 (.bool true) <| wy 4 5 true 6 (.agg ⟨([(.int .i64 (1)), (.int .i64 (1))] : List Value)⟩) <| wl_do (wantsY 4 5 true rfl (by kernel_rfl) rfl (by kernel_rfl)) (fun Kq kq => ?_)
 refine zdc 7 (nilBook_any w2) ?_
 rintro _ w6 ⟨b7, m8, r9, rfl, k10, p11, q12⟩
 have H13 := H3.addU p11 k10 q12
 have H14 := H13.open 1 rfl
 refine ⟨_, rfl, ?_⟩
 refine kq _ _ <| wy 4 5 true 8 (pt b7 0) <| wy 4 5 true 9 (.agg ⟨([(.int .i64 (0)), (.slice none 0 0)] : List Value)⟩) <| wl_do (wantsY 4 5 true rfl (by kernel_rfl) rfl (by kernel_rfl)) (fun Kq kq => ?_)
 refine zdq 10 (wRightTomb_any w6 (1 : Int) (1 : Int) (by omega) b7 m8 ([] : List Signed) (H14.at 1 rfl) (H14.at 2 rfl) (0 : Int) none 0 ([] : List DenyD) ListAt.nil (by simp) (by simp)) H14 ?_
 intro w16 H17
 refine kq _ _ <| wy 4 5 true 11 (.bool (!(rightTb (1 : Int) ([] : List Signed) (0 : Int) ([] : List DenyD)))) <| wv 12 (.bool (!(rightTb (1 : Int) ([] : List Signed) (0 : Int) ([] : List DenyD)))) <| wv 0 (.bool (!(rightTb (1 : Int) ([] : List Signed) (0 : Int) ([] : List DenyD)))) <| znt <| w_ret <| ze1 (.bool (!(rightTb (1 : Int) ([] : List Signed) (0 : Int) ([] : List DenyD)))) ?_
 exact ⟨rfl, H17.upd 0 rfl [] (fun _ h => h.elim)⟩
end Go.Proofs.YtenihpghfdcpkaaGreat
namespace Go.Proofs.YtenihpghfdcpkaaGreat
open Go.ChangeShapes Go.WideShapes Go.ChangeAt Go.RowKit Go.Deep
section
variable {H : Type} {enc : TypeId × Value → H} {P : Program} {W : World}
theorem wf_u64 {z : Int} (h : (Lit.int .u64 z).wf = true) : 0 ≤ z ∧ z ≤ 18446744073709551615 := by
 simpa [Lit.wf, IntKind.min, IntKind.max, IntKind.signed, IntKind.bits] using h
def CellU64 (w : World) (a : Addr) (x : Int) : Prop := w.cell? a = some (.int .u64 x)
theorem open_u64s {t e : TypeId} (ht : P.underlying t = some (.slice e)) (he : P.underlying e = some (.int .u64)) (hc : P.cellsOf e = 1) {v : Value} {d : DataW H} {ps : List MemPlace} (hv : ∃ a len cap, v = .slice a len cap)
  (h : DataW.Trod enc P W 0 (fun _ => true) true t v d ps) : ∃ xs, (∀ x ∈ xs, 0 ≤ x ∧ x ≤ 18446744073709551615) ∧ ListAt encU 1 W v xs := by
 obtain ⟨xs, hx⟩ := open_sliceOf (R := fun w a x => CellU64 w a x ∧ 0 ≤ x ∧ x ≤ 18446744073709551615) ht hc (by omega) hv h (fun cs n y b off hl hcs hy => by
  obtain ⟨z, rfl, hz⟩ := trod_int_cell he hy
  exact ⟨z, hcs 0 (by simp), wf_u64 hz⟩)
 refine ⟨xs, fun n hn => ?_, SliceOf.imp hx fun a x h j u hj => ?_⟩
 ·obtain ⟨i, hi, rfl⟩ := List.mem_iff_getElem.1 hn
  obtain ⟨b, off, cap, _, _, hall⟩ := hx.some (by omega)
  exact (hall i hi).2
 ·match j, hj with
  | 0, hj =>
   simp only [encU, List.getElem?_cons_zero, Option.some.injEq] at hj
   subst hj
   have := h.1
   obtain ⟨b, o, s⟩ := a
   unfold CellU64 at this
   have e : (⟨b, o, s⟩ : Addr).add 0 = ⟨b, o, s⟩ := by cases s <;> simp [Addr.add]
   rw [e]; exact this
  | _ + 1, hj => simp [encU] at hj
end
section
variable {H : Type} {enc : TypeId × Value → H} {W : World}
theorem field_cells {P : Program} {t : TypeId} {fs : Array Field} {n : Nat} {cs : List Value} {y : DataW H × List MemPlace} (ht : P.underlying t = some (.struct fs)) (h : DataW.trod enc P W 0 (fun _ => true) true n t cs = some y) :
  cs.length = P.cellsOf t ∧ ∃ m, ∀ (i : Nat) (g : Field), fs[i]? = some g → ∃ z, DataW.trod enc P W 0 (fun _ => true) true m g.type ((cs.drop g.offset).take (P.cellsOf g.type)) = some z := by
 obtain ⟨xs, m, _, _, hl, hx, hf⟩ := DataW.trod_struct ht h
 refine ⟨hl, m, fun i g hg => ?_⟩
 have h1 := hf i g hg
 have hi : i < xs.length := by
  rw [hx]
  obtain ⟨h, _⟩ := Array.getElem?_eq_some_iff.1 hg
  exact h
 rw [List.getElem?_eq_getElem hi] at h1
 exact ⟨_, h1⟩
theorem drop_step {cs A rest : List Value} {o n : Nat} (h : (cs.drop o).take n = A) (hr : cs.drop (o + n) = rest) : cs.drop o = A ++ rest := by
 rw [← h, ← hr, ← List.drop_drop, List.take_append_drop]
theorem drop_end {cs : List Value} {n : Nat} (h : cs.length = n) : cs.drop n = [] := by rw [← h, List.drop_length]
theorem pair_cells {t i : TypeId} {f g : Field} {n : Nat} {cs : List Value} {y : DataW H × List MemPlace} (ht : Tryz.prog.underlying t = some (.struct #[f, g])) (hi : Tryz.prog.underlying i = some (.int .i64)) (hf : f.type = i) (hg : g.type = i) (of : f.offset = 0) (og : g.offset = 1) (hc : Tryz.prog.cellsOf i = 1) (hn : Tryz.prog.cellsOf t = 2)
  (h : DataW.trod enc Tryz.prog W 0 (fun _ => true) true n t cs = some y) : ∃ a b : Int, cs = [.int .i64 a, .int .i64 b] ∧ (-9223372036854775808 ≤ a ∧ a ≤ 9223372036854775807) ∧ (-9223372036854775808 ≤ b ∧ b ≤ 9223372036854775807) := by
 obtain ⟨hl, m, hq⟩ := field_cells ht h
 obtain ⟨z0, h0⟩ := hq 0 _ rfl
 obtain ⟨z1, h1⟩ := hq 1 _ rfl
 simp only [List.getElem_toArray, List.getElem_cons_zero, List.getElem_cons_succ, hf, hg, of, og, hc] at h0 h1
 obtain ⟨a, e0, w0⟩ := trod_int_cell (k := .i64) hi h0
 obtain ⟨b, e1, w1⟩ := trod_int_cell (k := .i64) hi h1
 refine ⟨a, b, ?_, wf_i64 w0, wf_i64 w1⟩
 have := drop_step e0 (drop_step e1 (drop_end (hl.trans hn)))
 simpa using this
theorem name_cells {n : Nat} {cs : List Value} {y : DataW H × List MemPlace} (h : DataW.trod enc Tryz.prog W 0 (fun _ => true) true n 59 cs = some y) : ∃ a b : Int, cs = [.int .i64 a, .int .i64 b] ∧ (-9223372036854775808 ≤ a ∧ a ≤ 9223372036854775807) ∧ (-9223372036854775808 ≤ b ∧ b ≤ 9223372036854775807) :=
 pair_cells Tryz.underlying59 Tryz.underlying3 rfl rfl rfl rfl (by kernel_rfl) (by kernel_rfl) h
theorem agg_of {v : Value} {cs : List Value} (hv : ∃ ws, v = .agg ws) (h : v.cells.toList = cs) : v = .agg ⟨cs⟩ := by
 obtain ⟨⟨l⟩, rfl⟩ := hv
 simp only [Value.cells] at h; rw [h]
end
section
variable {H : Type} {enc : TypeId × Value → H} {W : World}
end
end Go.Proofs.YtenihpghfdcpkaaGreat
namespace Go.Proofs.YtenihpghfdcpkaaGreat
open Go.RowKit
section
variable {L : List Ck} {A : Ck} {p : PrR} {x : CeR} {C : List CeR} {D : List PrR} {w : World} {a b : Int} {S : List StampD}
end
end Go.Proofs.YtenihpghfdcpkaaGreat
