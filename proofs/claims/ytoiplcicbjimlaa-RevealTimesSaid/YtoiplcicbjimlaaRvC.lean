/- WHAT IS PROVED: places that are denied in time: a contract. Conditions: stated with each. -/
import Derived.Test.YtoiplcicbjimlaaRvB
import Derived.Test.YtoiplcicbjimlaaDt16
import Derived.Test.YtoiplcicbjimlaaPBook
namespace Go.Proofs.Ytoiplcicbjimlaa
open Go.RowKit

set_option maxRecDepth 100000 in
set_option maxHeartbeats 4000000 in
theorem rvDue_any (w : World) (r mb : Nat) (F C rep : Int) (L : List (Int × PlX)) (b bm : Nat) (B : List Signed) (hB : (sepC (rvL r mb F C rep L ++ [cellC b 103 [.map (some bm)], mapC bm signedV (Value.int .i64) (marks B)])).ok w) (hl : L.length ≤ 1000) (hs : ∀ x ∈ L, I64 x.1) (hn : (L.map (·.1)).Nodup) (hsi : ∀ x ∈ L, 0 ≤ x.2.p.since) (hrep : rep ≤ 9223372036854775807) (now : Int) (hnow : 0 ≤ now ∧ now < 18446744073709551616) (hBl : B.length ≤ 900000) :
    Calls Try.prog 19 #[(.pointer (some ⟨r, 0, none⟩)), (.pointer (some ⟨b, 0, none⟩)), (.int .u64 (now))] w fun e w' => ∃ (M : List (Int × PlX)) (N : List Signed) (oa : Option Addr) (oc : Nat) (O : List DenyD), e = .returned (.slice oa O.length oc) ∧ DueR rep now L M O ∧ N.length ≤ B.length + L.length ∧ Sat w [cellC r 86 [.int .i64 F, .int .i64 C, .int .i64 rep, .map (some mb)], mapC mb (Value.int .i64) encX M, denC M, cellC b 103 [.map (some bm)], mapC bm signedV (Value.int .i64) (marks N), rowC 63 4 (.slice oa O.length oc) O.length (O.flatMap encDn), restC w (sepC (rvL r mb F C rep L ++ [cellC b 103 [.map (some bm)], mapC bm signedV (Value.int .i64) (marks B)])).fp] w' := by
  have hsl := sortI_len L
  have H : Sat w [cellC r 86 ([(.int .i64 (F)), (.int .i64 (C)), (.int .i64 (rep)), (.map (some mb))] : List Value), mapC mb (Value.int .i64) encX L, denC L, cellC b 103 ([(.map (some bm))] : List Value), mapC bm signedV (Value.int .i64) (marks B), restC w (sepC (rvL r mb F C rep L ++ [cellC b 103 [.map (some bm)], mapC bm signedV (Value.int .i64) (marks B)])).fp] w := Sat.start (rvL r mb F C rep L ++ [cellC b 103 [.map (some bm)], mapC bm signedV (Value.int .i64) (marks B)]) hB
  refine calls_fr Try.func19 rfl 75 rfl (Nat.le_of_ble_eq_true rfl) ?_
  refine w_seq ?_
  refine w_lit ?_
  refine wl_pure (wants0 rfl) (d := 6) (v := (.slice none 0 0)) rfl (by kernel_rfl) ?_
  refine w_nil ?_
  refine then_normal ?_
  refine w_seq ?_
  refine w_lit ?_
  refine wl_pure (wants0 rfl) (d := 7) (v := (.slice none 0 0)) rfl (by kernel_rfl) ?_
  refine w_nil ?_
  refine then_normal ?_
  refine w_seq ?_
  refine w_seq ?_
  refine w_lit ?_
  refine wl_pure (wants0 rfl) (d := 12) (v := (.pointer (some ⟨r, 0, none⟩))) rfl (by kernel_rfl) ?_
  refine wl_do (wants0 rfl) (fun K1 hK1 => ?_)
  refine d_call (d := 13) rfl (by kernel_rfl) (rvRising_any w r mb F C rep L (H.at 0 rfl) (H.at 1 rfl) hl hs) ?_
  rintro _ w2 ⟨u3, rfl, k4, p5, q6⟩
  have H7 : Sat w [cellC r 86 ([(.int .i64 (F)), (.int .i64 (C)), (.int .i64 (rep)), (.map (some mb))] : List Value), mapC mb (Value.int .i64) encX L, denC L, cellC b 103 ([(.map (some bm))] : List Value), mapC bm signedV (Value.int .i64) (marks B), restC w (sepC (rvL r mb F C rep L ++ [cellC b 103 [.map (some bm)], mapC bm signedV (Value.int .i64) (marks B)])).fp, rowC 3 1 u3 ((sortI L).length) ((sortI L).flatMap encI)] w2 := H.addU p5 k4 q6
  obtain ⟨a8, c9, rfl⟩ := ownsRow_shape (H7.at 6 rfl)
  refine ⟨_, rfl, ?_⟩
  refine hK1 _ _ ?_
  clear hK1 K1
  refine wl_pure (wants0 rfl) (d := 14) (v := (.int .i64 (((sortI L).length : Int)))) rfl (by kernel_rfl) ?_
  refine wl_pure (wants0 rfl) (d := 15) (v := (.int .i64 (0))) rfl (by kernel_rfl) ?_
  refine w_nil ?_
  refine then_normal ?_
  refine w_block ?_
  have H10 := H7.addNil 63 4
  refine wp_round [7, 9, 10, 11, 15, 16, 17, 18, 19, 20, 21, 22, 23, 24, 25, 26, 27, 28, 29, 30, 31, 32, 33, 34, 35, 36, 37, 38, 39, 40, 41, 42, 43, 44, 45, 46, 47, 48, 49, 50, 51, 52, 53, 54, 55, 56, 57, 58, 59, 60, 61, 62, 63, 64, 65, 66, 67, 68, 69, 70, 71, 72, 73] (fun F_ W_ m_ => ∃ (k : Nat) (M : List (Int × PlX)) (N : List Signed) (oa : Option Addr) (oc : Nat) (O : List DenyD), F_ 15 = (.int .i64 ((k : Int))) ∧ F_ 7 = (.slice oa O.length oc) ∧ (k ≤ (sortI L).length) ∧ (DueI rep now L k M O) ∧ (N.length ≤ B.length + k) ∧ Sat w [cellC r 86 ([(.int .i64 (F)), (.int .i64 (C)), (.int .i64 (rep)), (.map (some mb))] : List Value), mapC mb (Value.int .i64) encX M, denC M, cellC b 103 ([(.map (some bm))] : List Value), mapC bm signedV (Value.int .i64) (marks N), restC w (sepC (rvL r mb F C rep L ++ [cellC b 103 [.map (some bm)], mapC bm signedV (Value.int .i64) (marks B)])).fp, rowC 3 1 (.slice a8 ((sortI L).length) c9) ((sortI L).length) ((sortI L).flatMap encI), rowC 63 4 (.slice oa O.length oc) O.length (O.flatMap encDn)] W_ ∧ m_ = (sortI L).length - k) _ ⟨0, L, B, none, 0, [], (show ((.int .i64 (0)) : Value) = _ by first | rfl | go_num), (by first | rfl | go_num), (Nat.zero_le _), (DueI.start _ _ _), (by omega), H10, rfl⟩ ?_
  rintro g11 w12 _ ⟨k, M, N, oa, oc, O, v14, v15, hk, hR, hN, H13, rfl⟩
  refine wp_know 15 _ v14 ?_
  refine wp_know 7 _ v15 ?_
  refine w_seq ?_
  refine w_lit ?_
  refine wl_pure (wants0 rfl) (d := 16) (v := (.bool (decide ((k : Int) < ((sortI L).length : Int))))) rfl (by kernel_rfl) ?_
  refine w_nil ?_
  refine then_normal ?_
  refine w_seq ?_
  refine (bsplit (decide ((k : Int) < ((sortI L).length : Int)))).elim (fun b17 => ?_) (fun b17 => ?_)
  · have g18 := of_decide_eq_true b17
    refine wp_know 16 (.bool true) (congrArg Value.bool b17) ?_
    have g19 := of_decide_eq_true b17
    refine wp_ift rfl ?_
    refine w_skip ?_
    refine then_normal ?_
    refine w_seq ?_
    refine w_block ?_
    refine w_seq ?_
    refine w_lit ?_
    obtain ⟨g20, c21, e22⟩ := row_shape (H13.at 6 rfl) (by omega)
    obtain ⟨x23, h24⟩ := get_at (show k < (sortI L).length by omega)
    refine wl_pure (wants0 rfl) (d := 17) (v := (.pointer (some ⟨g20, 0 + ((k : Int)).toNat * 1, none⟩))) rfl (e_indexAddrV (E := 3) (by kernel_rfl) (by kernel_rfl) (Nat.le_of_ble_eq_true rfl) rfl e22 rfl (by omega) (by omega)) ?_
    refine wl_pure (wants0 rfl) (d := 18) (v := (.int .i64 (x23))) rfl (e_load1 rfl (by kernel_rfl) (rows_cell (H13.at 6 rfl) e22 encI_len h24 0 rfl (show 0 + ((k : Int)).toNat * 1 = k * 1 + 0 by omega) (by kernel_rfl))) ?_
    refine wl_pure (wants0 rfl) (d := 9) (v := (.int .i64 (x23))) rfl (by kernel_rfl) ?_
    refine w_nil ?_
    refine then_normal ?_
    refine w_seq ?_
    obtain ⟨X, hXL, hXM⟩ := hR.todo_at h24 hn
    have hsc := hsi _ (mem_lookG hXL)
    have hxi := hs _ (mem_lookG hXL)
    have hxi1 : -9223372036854775808 ≤ x23 ∧ x23 ≤ 9223372036854775807 := hxi
    have hsc1 : 0 ≤ X.p.since := hsc
    have hOl := hR.len
    refine w_lit ?_
    refine wl_pure (wants0 rfl) (d := 19) (v := (.pointer (some ⟨r, 0, none⟩))) rfl (by kernel_rfl) ?_
    refine wl_pure (wants0 rfl) (d := 20) (v := (.pointer (some ⟨r, 0, none⟩))) rfl (by kernel_rfl) ?_
    refine wl_pure (wants0 rfl) (d := 21) (v := (.pointer (some ⟨r, 3, none⟩))) rfl (by kernel_rfl) ?_
    refine wl_pure (wants0 rfl) (d := 22) (v := (.map (some mb))) rfl (e_load1 rfl (by kernel_rfl) (H13.cell 0 rfl rfl)) ?_
    refine wl_pure (wants0 rfl) (d := 23) (v := (.int .i64 (x23))) rfl (by kernel_rfl) ?_
    refine wl_pure (wants0 rfl) (d := 24) (v := (.agg ⟨(([(.int .i64 (X.p.n1)), (.int .i64 (X.p.n2))] : List Value) ++ hc X.p.h ++ ([(.int .u64 (X.p.t)), (.int .u64 (X.p.since)), (.int .i64 (X.p.oi)), (.slice X.p.oa X.p.ol X.p.oc)] : List Value) ++ hc X.p.on ++ ([(.bool (X.p.acked)), (.bool (X.p.denied)), (.map X.p.dm)] : List Value))⟩)) rfl (e_lookup (kt := 3) (et := 89) (KeyTy.int (by kernel_rfl)) (by kernel_rfl) zeroX rfl (x23 : Int) rfl (H13.at 1 rfl) (by rw [hXM]; rfl)) ?_
    refine wl_do (wants0 rfl) (fun K25 hK25 => ?_)
    refine d_alloc (zs := (([(.int .i64 (0)), (.int .i64 (0))] : List Value) ++ hc hash0 ++ ([(.int .u64 (0)), (.int .u64 (0)), (.int .i64 (0)), (.slice none 0 0)] : List Value) ++ hc hash0 ++ ([(.bool false), (.bool false), ((Go.Value.map none))] : List Value))) (z := (.agg ⟨(([(.int .i64 (0)), (.int .i64 (0))] : List Value) ++ hc hash0 ++ ([(.int .u64 (0)), (.int .u64 (0)), (.int .i64 (0)), (.slice none 0 0)] : List Value) ++ hc hash0 ++ ([(.bool false), (.bool false), ((Go.Value.map none))] : List Value))⟩)) rfl H13 (by kernel_rfl) (by kernel_rfl) ?_
    intro b26 w27 (H28 : Sat w [cellC r 86 ([(.int .i64 (F)), (.int .i64 (C)), (.int .i64 (rep)), (.map (some mb))] : List Value), mapC mb (Value.int .i64) encX M, denC M, cellC b 103 ([(.map (some bm))] : List Value), mapC bm signedV (Value.int .i64) (marks N), restC w (sepC (rvL r mb F C rep L ++ [cellC b 103 [.map (some bm)], mapC bm signedV (Value.int .i64) (marks B)])).fp, rowC 3 1 (.slice a8 ((sortI L).length) c9) ((sortI L).length) ((sortI L).flatMap encI), rowC 63 4 (.slice oa O.length oc) O.length (O.flatMap encDn), cellC b26 89 (([(.int .i64 (0)), (.int .i64 (0))] : List Value) ++ hc hash0 ++ ([(.int .u64 (0)), (.int .u64 (0)), (.int .i64 (0)), (.slice none 0 0)] : List Value) ++ hc hash0 ++ ([(.bool false), (.bool false), ((Go.Value.map none))] : List Value))] w27)
    refine hK25 _ _ ?_
    clear hK25 K25
    refine wl_do (wants0 rfl) (fun K29 hK29 => ?_)
    refine d_storeX (vs := (([(.int .i64 (X.p.n1)), (.int .i64 (X.p.n2))] : List Value) ++ hc X.p.h ++ ([(.int .u64 (X.p.t)), (.int .u64 (X.p.since)), (.int .i64 (X.p.oi)), (.slice X.p.oa X.p.ol X.p.oc)] : List Value) ++ hc X.p.on ++ ([(.bool (X.p.acked)), (.bool (X.p.denied)), (.map X.p.dm)] : List Value))) (cs' := (([(.int .i64 (X.p.n1)), (.int .i64 (X.p.n2))] : List Value) ++ hc X.p.h ++ ([(.int .u64 (X.p.t)), (.int .u64 (X.p.since)), (.int .i64 (X.p.oi)), (.slice X.p.oa X.p.ol X.p.oc)] : List Value) ++ hc X.p.on ++ ([(.bool (X.p.acked)), (.bool (X.p.denied)), (.map X.p.dm)] : List Value))) rfl H28 8 rfl rfl rfl rfl (by kernel_rfl) (Nat.le_of_ble_eq_true (by kernel_rfl)) (Nat.le_of_ble_eq_true (by kernel_rfl)) (by kernel_rfl) (by kernel_rfl) ?_
    intro w30 (H31 : Sat w [cellC r 86 ([(.int .i64 (F)), (.int .i64 (C)), (.int .i64 (rep)), (.map (some mb))] : List Value), mapC mb (Value.int .i64) encX M, denC M, cellC b 103 ([(.map (some bm))] : List Value), mapC bm signedV (Value.int .i64) (marks N), restC w (sepC (rvL r mb F C rep L ++ [cellC b 103 [.map (some bm)], mapC bm signedV (Value.int .i64) (marks B)])).fp, rowC 3 1 (.slice a8 ((sortI L).length) c9) ((sortI L).length) ((sortI L).flatMap encI), rowC 63 4 (.slice oa O.length oc) O.length (O.flatMap encDn), cellC b26 89 (([(.int .i64 (X.p.n1)), (.int .i64 (X.p.n2))] : List Value) ++ hc X.p.h ++ ([(.int .u64 (X.p.t)), (.int .u64 (X.p.since)), (.int .i64 (X.p.oi)), (.slice X.p.oa X.p.ol X.p.oc)] : List Value) ++ hc X.p.on ++ ([(.bool (X.p.acked)), (.bool (X.p.denied)), (.map X.p.dm)] : List Value))] w30)
    refine hK29 _ _ ?_
    clear hK29 K29
    refine w_nil ?_
    refine then_normal ?_
    refine w_seq ?_
    refine w_seq ?_
    refine w_lit ?_
    refine wl_pure (wants0 rfl) (d := 25) (v := (.pointer (some ⟨b26, 70, none⟩))) rfl (by kernel_rfl) ?_
    refine wl_pure (wants0 rfl) (d := 26) (v := (.bool (X.p.acked))) rfl (e_load1 rfl (by kernel_rfl) (H31.cell 8 rfl (by kernel_rfl))) ?_
    refine wl_pure (wants0 rfl) (d := 27) (v := (.bool (X.p.acked))) rfl (by kernel_rfl) ?_
    refine (bsplit (X.p.acked)).elim (fun b33 => ?_) (fun b33 => ?_)
    · refine wl_know 27 (.bool true) (congrArg Value.bool b33) ?_
      refine wl_pass (wantsN 2 27 false rfl (by kernel_rfl) rfl (by kernel_rfl)) rfl ?_
      refine wl_pass (wantsN 2 27 false rfl (by kernel_rfl) rfl (by kernel_rfl)) rfl ?_
      refine wl_pure (wants0 rfl) (d := 30) (v := (.bool true)) rfl (by kernel_rfl) ?_
      refine wl_pure (wants0 rfl) (d := 31) (v := (.bool true)) rfl (by kernel_rfl) ?_
      refine wl_pass (wantsN 6 31 false rfl (by kernel_rfl) rfl (by kernel_rfl)) rfl ?_
      refine wl_pass (wantsN 6 31 false rfl (by kernel_rfl) rfl (by kernel_rfl)) rfl ?_
      refine wl_pass (wantsN 6 31 false rfl (by kernel_rfl) rfl (by kernel_rfl)) rfl ?_
      refine wl_pass (wantsN 6 31 false rfl (by kernel_rfl) rfl (by kernel_rfl)) rfl ?_
      refine wl_pure (wants0 rfl) (d := 36) (v := (.bool true)) rfl (by kernel_rfl) ?_
      refine wl_pure (wants0 rfl) (d := 37) (v := (.bool true)) rfl (by kernel_rfl) ?_
      refine wl_pass (wantsN 12 37 false rfl (by kernel_rfl) rfl (by kernel_rfl)) rfl ?_
      refine wl_pass (wantsN 12 37 false rfl (by kernel_rfl) rfl (by kernel_rfl)) rfl ?_
      refine wl_pass (wantsN 12 37 false rfl (by kernel_rfl) rfl (by kernel_rfl)) rfl ?_
      refine wl_pass (wantsN 12 37 false rfl (by kernel_rfl) rfl (by kernel_rfl)) rfl ?_
      refine wl_pass (wantsN 12 37 false rfl (by kernel_rfl) rfl (by kernel_rfl)) rfl ?_
      refine wl_pure (wants0 rfl) (d := 43) (v := (.bool true)) rfl (by kernel_rfl) ?_
      refine w_nil ?_
      refine then_normal ?_
      refine wp_ift rfl ?_
      refine w_exit ?_
      refine then_exit ?_
      refine blk_hit ?_
      refine then_normal ?_
      refine w_lit ?_
      refine wl_pure (wants0 rfl) (d := 73) (v := (.int .i64 ((k : Int) + 1))) rfl (e_int (z := (k : Int) + 1) (by kernel_rfl) (IntWalk.i64_in _ (by omega))) ?_
      refine wl_pure (wants0 rfl) (d := 15) (v := (.int .i64 ((k : Int) + 1))) rfl (by kernel_rfl) ?_
      refine w_nil ?_
      have H34 : Sat w [cellC r 86 ([(.int .i64 (F)), (.int .i64 (C)), (.int .i64 (rep)), (.map (some mb))] : List Value), mapC mb (Value.int .i64) encX M, denC M, cellC b 103 ([(.map (some bm))] : List Value), mapC bm signedV (Value.int .i64) (marks N), restC w (sepC (rvL r mb F C rep L ++ [cellC b 103 [.map (some bm)], mapC bm signedV (Value.int .i64) (marks B)])).fp, rowC 3 1 (.slice a8 ((sortI L).length) c9) ((sortI L).length) ((sortI L).flatMap encI), rowC 63 4 (.slice oa O.length oc) O.length (O.flatMap encDn)] w30 := H31.pick [0, 1, 2, 3, 4, 5, 6, 7] (by decide)
      refine round_back ?_ _ ⟨(k + 1), M, N, oa, oc, O, (show ((.int .i64 ((k : Int) + 1)) : Value) = _ by first | rfl | go_num), (show ((.slice oa O.length oc) : Value) = _ by first | rfl | go_num), (by omega), (hR.skip hn h24 hXL (by unfold dueX; simp only [b33]; rfl)), (by omega), H34, rfl⟩ (by omega)
      exact (same_upd rfl (same_upd rfl (same_upd rfl (same_upd rfl (same_upd rfl (same_upd rfl (same_upd rfl (same_upd rfl (same_upd rfl (same_upd rfl (same_upd rfl (same_upd rfl (same_upd rfl (same_upd rfl (same_upd rfl (same_upd rfl (same_upd rfl (same_upd rfl (same_upd rfl (same_upd rfl (same_upd rfl (same_upd rfl (same_upd rfl (same_upd rfl (same_upd rfl (same_upd rfl (same_upd rfl (same_upd rfl (same_upd rfl (same_upd rfl (same_upd rfl (same_upd rfl (same_upd rfl (same_upd rfl (same_upd rfl (same_upd rfl (same_ovr)))))))))))))))))))))))))))))))))))))
    · refine wl_know 27 (.bool false) (congrArg Value.bool b33) ?_
      refine wl_pure (wantsY 2 27 false rfl (by kernel_rfl) rfl (by kernel_rfl)) (d := 28) (v := (.pointer (some ⟨b26, 71, none⟩))) rfl (by kernel_rfl) ?_
      refine wl_pure (wantsY 2 27 false rfl (by kernel_rfl) rfl (by kernel_rfl)) (d := 29) (v := (.bool (X.p.denied))) rfl (e_load1 rfl (by kernel_rfl) (H31.cell 8 rfl (by kernel_rfl))) ?_
      refine wl_pure (wants0 rfl) (d := 30) (v := (.bool (X.p.denied))) rfl (by kernel_rfl) ?_
      refine wl_pure (wants0 rfl) (d := 31) (v := (.bool (X.p.denied))) rfl (by kernel_rfl) ?_
      refine (bsplit (X.p.denied)).elim (fun b35 => ?_) (fun b35 => ?_)
      · refine wl_know 31 (.bool true) (congrArg Value.bool b35) ?_
        refine wl_pass (wantsN 6 31 false rfl (by kernel_rfl) rfl (by kernel_rfl)) rfl ?_
        refine wl_pass (wantsN 6 31 false rfl (by kernel_rfl) rfl (by kernel_rfl)) rfl ?_
        refine wl_pass (wantsN 6 31 false rfl (by kernel_rfl) rfl (by kernel_rfl)) rfl ?_
        refine wl_pass (wantsN 6 31 false rfl (by kernel_rfl) rfl (by kernel_rfl)) rfl ?_
        refine wl_pure (wants0 rfl) (d := 36) (v := (.bool true)) rfl (by kernel_rfl) ?_
        refine wl_pure (wants0 rfl) (d := 37) (v := (.bool true)) rfl (by kernel_rfl) ?_
        refine wl_pass (wantsN 12 37 false rfl (by kernel_rfl) rfl (by kernel_rfl)) rfl ?_
        refine wl_pass (wantsN 12 37 false rfl (by kernel_rfl) rfl (by kernel_rfl)) rfl ?_
        refine wl_pass (wantsN 12 37 false rfl (by kernel_rfl) rfl (by kernel_rfl)) rfl ?_
        refine wl_pass (wantsN 12 37 false rfl (by kernel_rfl) rfl (by kernel_rfl)) rfl ?_
        refine wl_pass (wantsN 12 37 false rfl (by kernel_rfl) rfl (by kernel_rfl)) rfl ?_
        refine wl_pure (wants0 rfl) (d := 43) (v := (.bool true)) rfl (by kernel_rfl) ?_
        refine w_nil ?_
        refine then_normal ?_
        refine wp_ift rfl ?_
        refine w_exit ?_
        refine then_exit ?_
        refine blk_hit ?_
        refine then_normal ?_
        refine w_lit ?_
        refine wl_pure (wants0 rfl) (d := 73) (v := (.int .i64 ((k : Int) + 1))) rfl (e_int (z := (k : Int) + 1) (by kernel_rfl) (IntWalk.i64_in _ (by omega))) ?_
        refine wl_pure (wants0 rfl) (d := 15) (v := (.int .i64 ((k : Int) + 1))) rfl (by kernel_rfl) ?_
        refine w_nil ?_
        have H36 : Sat w [cellC r 86 ([(.int .i64 (F)), (.int .i64 (C)), (.int .i64 (rep)), (.map (some mb))] : List Value), mapC mb (Value.int .i64) encX M, denC M, cellC b 103 ([(.map (some bm))] : List Value), mapC bm signedV (Value.int .i64) (marks N), restC w (sepC (rvL r mb F C rep L ++ [cellC b 103 [.map (some bm)], mapC bm signedV (Value.int .i64) (marks B)])).fp, rowC 3 1 (.slice a8 ((sortI L).length) c9) ((sortI L).length) ((sortI L).flatMap encI), rowC 63 4 (.slice oa O.length oc) O.length (O.flatMap encDn)] w30 := H31.pick [0, 1, 2, 3, 4, 5, 6, 7] (by decide)
        refine round_back ?_ _ ⟨(k + 1), M, N, oa, oc, O, (show ((.int .i64 ((k : Int) + 1)) : Value) = _ by first | rfl | go_num), (show ((.slice oa O.length oc) : Value) = _ by first | rfl | go_num), (by omega), (hR.skip hn h24 hXL (by unfold dueX; simp only [b33, b35]; rfl)), (by omega), H36, rfl⟩ (by omega)
        exact (same_upd rfl (same_upd rfl (same_upd rfl (same_upd rfl (same_upd rfl (same_upd rfl (same_upd rfl (same_upd rfl (same_upd rfl (same_upd rfl (same_upd rfl (same_upd rfl (same_upd rfl (same_upd rfl (same_upd rfl (same_upd rfl (same_upd rfl (same_upd rfl (same_upd rfl (same_upd rfl (same_upd rfl (same_upd rfl (same_upd rfl (same_upd rfl (same_upd rfl (same_upd rfl (same_upd rfl (same_upd rfl (same_upd rfl (same_upd rfl (same_upd rfl (same_upd rfl (same_upd rfl (same_upd rfl (same_upd rfl (same_upd rfl (same_upd rfl (same_ovr))))))))))))))))))))))))))))))))))))))
      · refine wl_know 31 (.bool false) (congrArg Value.bool b35) ?_
        refine wl_pure (wantsY 6 31 false rfl (by kernel_rfl) rfl (by kernel_rfl)) (d := 32) (v := (.int .u64 (now))) rfl (by kernel_rfl) ?_
        refine wl_pure (wantsY 6 31 false rfl (by kernel_rfl) rfl (by kernel_rfl)) (d := 33) (v := (.pointer (some ⟨b26, 35, none⟩))) rfl (by kernel_rfl) ?_
        refine wl_pure (wantsY 6 31 false rfl (by kernel_rfl) rfl (by kernel_rfl)) (d := 34) (v := (.int .u64 (X.p.since))) rfl (e_load1 rfl (by kernel_rfl) (H31.cell 8 rfl (by kernel_rfl))) ?_
        refine wl_pure (wantsY 6 31 false rfl (by kernel_rfl) rfl (by kernel_rfl)) (d := 35) (v := (.bool (decide (now < X.p.since)))) rfl (by kernel_rfl) ?_
        refine wl_pure (wants0 rfl) (d := 36) (v := (.bool (decide (now < X.p.since)))) rfl (by kernel_rfl) ?_
        refine wl_pure (wants0 rfl) (d := 37) (v := (.bool (decide (now < X.p.since)))) rfl (by kernel_rfl) ?_
        refine (bsplit (decide (now < X.p.since))).elim (fun b37 => ?_) (fun b37 => ?_)
        · have g38 := of_decide_eq_true b37
          refine wl_know 37 (.bool true) (congrArg Value.bool b37) ?_
          have g39 := of_decide_eq_true b37
          refine wl_pass (wantsN 12 37 false rfl (by kernel_rfl) rfl (by kernel_rfl)) rfl ?_
          refine wl_pass (wantsN 12 37 false rfl (by kernel_rfl) rfl (by kernel_rfl)) rfl ?_
          refine wl_pass (wantsN 12 37 false rfl (by kernel_rfl) rfl (by kernel_rfl)) rfl ?_
          refine wl_pass (wantsN 12 37 false rfl (by kernel_rfl) rfl (by kernel_rfl)) rfl ?_
          refine wl_pass (wantsN 12 37 false rfl (by kernel_rfl) rfl (by kernel_rfl)) rfl ?_
          refine wl_pure (wants0 rfl) (d := 43) (v := (.bool true)) rfl (by kernel_rfl) ?_
          refine w_nil ?_
          refine then_normal ?_
          refine wp_ift rfl ?_
          refine w_exit ?_
          refine then_exit ?_
          refine blk_hit ?_
          refine then_normal ?_
          refine w_lit ?_
          refine wl_pure (wants0 rfl) (d := 73) (v := (.int .i64 ((k : Int) + 1))) rfl (e_int (z := (k : Int) + 1) (by kernel_rfl) (IntWalk.i64_in _ (by omega))) ?_
          refine wl_pure (wants0 rfl) (d := 15) (v := (.int .i64 ((k : Int) + 1))) rfl (by kernel_rfl) ?_
          refine w_nil ?_
          have H40 : Sat w [cellC r 86 ([(.int .i64 (F)), (.int .i64 (C)), (.int .i64 (rep)), (.map (some mb))] : List Value), mapC mb (Value.int .i64) encX M, denC M, cellC b 103 ([(.map (some bm))] : List Value), mapC bm signedV (Value.int .i64) (marks N), restC w (sepC (rvL r mb F C rep L ++ [cellC b 103 [.map (some bm)], mapC bm signedV (Value.int .i64) (marks B)])).fp, rowC 3 1 (.slice a8 ((sortI L).length) c9) ((sortI L).length) ((sortI L).flatMap encI), rowC 63 4 (.slice oa O.length oc) O.length (O.flatMap encDn)] w30 := H31.pick [0, 1, 2, 3, 4, 5, 6, 7] (by decide)
          refine round_back ?_ _ ⟨(k + 1), M, N, oa, oc, O, (show ((.int .i64 ((k : Int) + 1)) : Value) = _ by first | rfl | go_num), (show ((.slice oa O.length oc) : Value) = _ by first | rfl | go_num), (by omega), (hR.skip hn h24 hXL (by unfold dueX; simp only [b33, b35, b37]; rfl)), (by omega), H40, rfl⟩ (by omega)
          exact (same_upd rfl (same_upd rfl (same_upd rfl (same_upd rfl (same_upd rfl (same_upd rfl (same_upd rfl (same_upd rfl (same_upd rfl (same_upd rfl (same_upd rfl (same_upd rfl (same_upd rfl (same_upd rfl (same_upd rfl (same_upd rfl (same_upd rfl (same_upd rfl (same_upd rfl (same_upd rfl (same_upd rfl (same_upd rfl (same_upd rfl (same_upd rfl (same_upd rfl (same_upd rfl (same_upd rfl (same_upd rfl (same_upd rfl (same_upd rfl (same_upd rfl (same_upd rfl (same_upd rfl (same_upd rfl (same_upd rfl (same_upd rfl (same_upd rfl (same_upd rfl (same_ovr)))))))))))))))))))))))))))))))))))))))
        · have g41 := of_decide_eq_false b37
          refine wl_know 37 (.bool false) (congrArg Value.bool b37) ?_
          have g42 := of_decide_eq_false b37
          refine wl_pure (wantsY 12 37 false rfl (by kernel_rfl) rfl (by kernel_rfl)) (d := 38) (v := (.int .u64 (now))) rfl (by kernel_rfl) ?_
          refine wl_pure (wantsY 12 37 false rfl (by kernel_rfl) rfl (by kernel_rfl)) (d := 39) (v := (.pointer (some ⟨b26, 35, none⟩))) rfl (by kernel_rfl) ?_
          refine wl_pure (wantsY 12 37 false rfl (by kernel_rfl) rfl (by kernel_rfl)) (d := 40) (v := (.int .u64 (X.p.since))) rfl (e_load1 rfl (by kernel_rfl) (H31.cell 8 rfl (by kernel_rfl))) ?_
          refine wl_pure (wantsY 12 37 false rfl (by kernel_rfl) rfl (by kernel_rfl)) (d := 41) (v := (.int .u64 (now - X.p.since))) rfl (e_int (z := now - X.p.since) (by kernel_rfl) (wrap_u64 (by omega))) ?_
          refine wl_pure (wantsY 12 37 false rfl (by kernel_rfl) rfl (by kernel_rfl)) (d := 42) (v := (.bool (decide ((now - X.p.since) < 20)))) rfl (by kernel_rfl) ?_
          refine wl_pure (wants0 rfl) (d := 43) (v := (.bool (decide ((now - X.p.since) < 20)))) rfl (by kernel_rfl) ?_
          refine w_nil ?_
          refine then_normal ?_
          refine (bsplit (decide ((now - X.p.since) < 20))).elim (fun b43 => ?_) (fun b43 => ?_)
          · have g44 := of_decide_eq_true b43
            refine wp_know 43 (.bool true) (congrArg Value.bool b43) ?_
            have g45 := of_decide_eq_true b43
            refine wp_ift rfl ?_
            refine w_exit ?_
            refine then_exit ?_
            refine blk_hit ?_
            refine then_normal ?_
            refine w_lit ?_
            refine wl_pure (wants0 rfl) (d := 73) (v := (.int .i64 ((k : Int) + 1))) rfl (e_int (z := (k : Int) + 1) (by kernel_rfl) (IntWalk.i64_in _ (by omega))) ?_
            refine wl_pure (wants0 rfl) (d := 15) (v := (.int .i64 ((k : Int) + 1))) rfl (by kernel_rfl) ?_
            refine w_nil ?_
            have H46 : Sat w [cellC r 86 ([(.int .i64 (F)), (.int .i64 (C)), (.int .i64 (rep)), (.map (some mb))] : List Value), mapC mb (Value.int .i64) encX M, denC M, cellC b 103 ([(.map (some bm))] : List Value), mapC bm signedV (Value.int .i64) (marks N), restC w (sepC (rvL r mb F C rep L ++ [cellC b 103 [.map (some bm)], mapC bm signedV (Value.int .i64) (marks B)])).fp, rowC 3 1 (.slice a8 ((sortI L).length) c9) ((sortI L).length) ((sortI L).flatMap encI), rowC 63 4 (.slice oa O.length oc) O.length (O.flatMap encDn)] w30 := H31.pick [0, 1, 2, 3, 4, 5, 6, 7] (by decide)
            refine round_back ?_ _ ⟨(k + 1), M, N, oa, oc, O, (show ((.int .i64 ((k : Int) + 1)) : Value) = _ by first | rfl | go_num), (show ((.slice oa O.length oc) : Value) = _ by first | rfl | go_num), (by omega), (hR.skip hn h24 hXL (by unfold dueX; simp only [b33, b35, b37, b43]; rfl)), (by omega), H46, rfl⟩ (by omega)
            exact (same_upd rfl (same_upd rfl (same_upd rfl (same_upd rfl (same_upd rfl (same_upd rfl (same_upd rfl (same_upd rfl (same_upd rfl (same_upd rfl (same_upd rfl (same_upd rfl (same_upd rfl (same_upd rfl (same_upd rfl (same_upd rfl (same_upd rfl (same_upd rfl (same_upd rfl (same_upd rfl (same_upd rfl (same_upd rfl (same_upd rfl (same_upd rfl (same_upd rfl (same_upd rfl (same_upd rfl (same_upd rfl (same_upd rfl (same_upd rfl (same_upd rfl (same_upd rfl (same_upd rfl (same_upd rfl (same_upd rfl (same_upd rfl (same_upd rfl (same_upd rfl (same_upd rfl (same_ovr))))))))))))))))))))))))))))))))))))))))
          · have g47 := of_decide_eq_false b43
            refine wp_know 43 (.bool false) (congrArg Value.bool b43) ?_
            have g48 := of_decide_eq_false b43
            refine wp_iff rfl ?_
            refine w_skip ?_
            refine then_normal ?_
            refine w_seq ?_
            refine w_lit ?_
            refine wl_pure (wants0 rfl) (d := 44) (v := (.pointer (some ⟨r, 0, none⟩))) rfl (by kernel_rfl) ?_
            refine wl_pure (wants0 rfl) (d := 45) (v := (.pointer (some ⟨r, 0, none⟩))) rfl (by kernel_rfl) ?_
            refine wl_pure (wants0 rfl) (d := 46) (v := (.pointer (some ⟨r, 2, none⟩))) rfl (by kernel_rfl) ?_
            refine wl_pure (wants0 rfl) (d := 47) (v := (.int .i64 (rep))) rfl (e_load1 rfl (by kernel_rfl) (H31.cell 0 rfl rfl)) ?_
            refine wl_pure (wants0 rfl) (d := 48) (v := (.int .i64 (x23))) rfl (by kernel_rfl) ?_
            refine wl_pure (wants0 rfl) (d := 49) (v := (.agg ⟨([(.int .i64 (rep)), (.int .i64 (x23)), (.int .i64 (0)), (.int .i64 (0))] : List Value)⟩)) rfl (by kernel_rfl) ?_
            refine wl_do (wants0 rfl) (fun K49 hK49 => ?_)
            refine d_alloc (zs := ([(.int .i64 (0)), (.int .i64 (0)), (.int .i64 (0)), (.int .i64 (0))] : List Value)) (z := (.agg ⟨([(.int .i64 (0)), (.int .i64 (0)), (.int .i64 (0)), (.int .i64 (0))] : List Value)⟩)) rfl H31 (by kernel_rfl) (by kernel_rfl) ?_
            intro b50 w51 (H52 : Sat w [cellC r 86 ([(.int .i64 (F)), (.int .i64 (C)), (.int .i64 (rep)), (.map (some mb))] : List Value), mapC mb (Value.int .i64) encX M, denC M, cellC b 103 ([(.map (some bm))] : List Value), mapC bm signedV (Value.int .i64) (marks N), restC w (sepC (rvL r mb F C rep L ++ [cellC b 103 [.map (some bm)], mapC bm signedV (Value.int .i64) (marks B)])).fp, rowC 3 1 (.slice a8 ((sortI L).length) c9) ((sortI L).length) ((sortI L).flatMap encI), rowC 63 4 (.slice oa O.length oc) O.length (O.flatMap encDn), cellC b26 89 (([(.int .i64 (X.p.n1)), (.int .i64 (X.p.n2))] : List Value) ++ hc X.p.h ++ ([(.int .u64 (X.p.t)), (.int .u64 (X.p.since)), (.int .i64 (X.p.oi)), (.slice X.p.oa X.p.ol X.p.oc)] : List Value) ++ hc X.p.on ++ ([(.bool (X.p.acked)), (.bool (X.p.denied)), (.map X.p.dm)] : List Value)), cellC b50 63 ([(.int .i64 (0)), (.int .i64 (0)), (.int .i64 (0)), (.int .i64 (0))] : List Value)] w51)
            refine hK49 _ _ ?_
            clear hK49 K49
            refine wl_do (wants0 rfl) (fun K53 hK53 => ?_)
            refine d_storeX (vs := ([(.int .i64 (rep)), (.int .i64 (x23)), (.int .i64 (0)), (.int .i64 (0))] : List Value)) (cs' := ([(.int .i64 (rep)), (.int .i64 (x23)), (.int .i64 (0)), (.int .i64 (0))] : List Value)) rfl H52 9 rfl rfl rfl rfl (by kernel_rfl) (Nat.le_of_ble_eq_true (by kernel_rfl)) (Nat.le_of_ble_eq_true (by kernel_rfl)) (by kernel_rfl) (by kernel_rfl) ?_
            intro w54 (H55 : Sat w [cellC r 86 ([(.int .i64 (F)), (.int .i64 (C)), (.int .i64 (rep)), (.map (some mb))] : List Value), mapC mb (Value.int .i64) encX M, denC M, cellC b 103 ([(.map (some bm))] : List Value), mapC bm signedV (Value.int .i64) (marks N), restC w (sepC (rvL r mb F C rep L ++ [cellC b 103 [.map (some bm)], mapC bm signedV (Value.int .i64) (marks B)])).fp, rowC 3 1 (.slice a8 ((sortI L).length) c9) ((sortI L).length) ((sortI L).flatMap encI), rowC 63 4 (.slice oa O.length oc) O.length (O.flatMap encDn), cellC b26 89 (([(.int .i64 (X.p.n1)), (.int .i64 (X.p.n2))] : List Value) ++ hc X.p.h ++ ([(.int .u64 (X.p.t)), (.int .u64 (X.p.since)), (.int .i64 (X.p.oi)), (.slice X.p.oa X.p.ol X.p.oc)] : List Value) ++ hc X.p.on ++ ([(.bool (X.p.acked)), (.bool (X.p.denied)), (.map X.p.dm)] : List Value)), cellC b50 63 ([(.int .i64 (rep)), (.int .i64 (x23)), (.int .i64 (0)), (.int .i64 (0))] : List Value)] w54)
            refine hK53 _ _ ?_
            clear hK53 K53
            refine w_nil ?_
            refine then_normal ?_
            refine w_seq ?_
            refine k_start H55 [cellC r 86 ([(.int .i64 (F)), (.int .i64 (C)), (.int .i64 (rep)), (.map (some mb))] : List Value), mapC mb (Value.int .i64) encX M, denC M, cellC b 103 ([(.map (some bm))] : List Value), restC w (sepC (rvL r mb F C rep L ++ [cellC b 103 [.map (some bm)], mapC bm signedV (Value.int .i64) (marks B)])).fp, rowC 3 1 (.slice a8 ((sortI L).length) c9) ((sortI L).length) ((sortI L).flatMap encI), rowC 63 4 (.slice oa O.length oc) O.length (O.flatMap encDn), cellC b26 89 (([(.int .i64 (X.p.n1)), (.int .i64 (X.p.n2))] : List Value) ++ hc X.p.h ++ ([(.int .u64 (X.p.t)), (.int .u64 (X.p.since)), (.int .i64 (X.p.oi)), (.slice X.p.oa X.p.ol X.p.oc)] : List Value) ++ hc X.p.on ++ ([(.bool (X.p.acked)), (.bool (X.p.denied)), (.map X.p.dm)] : List Value)), cellC b50 63 ([(.int .i64 (rep)), (.int .i64 (x23)), (.int .i64 (0)), (.int .i64 (0))] : List Value)] [9] 10 rfl (by kernel_rfl) (fun Hx => (Hx.pick [0, 1, 2, 3, 5, 6, 7, 8, 9] (by decide))) ?_
            intro w57 H58 S59
            refine k_pure 0 rfl (by kernel_rfl) (by kernel_rfl) (by kernel_rfl) (fun _ _ _ h => h) S59 (wants0 rfl) rfl (d := 50) (v := (.pointer (some ⟨b, 0, none⟩))) rfl (fun _ => (by kernel_rfl)) ?_
            refine k_pure 1 rfl (by kernel_rfl) (by kernel_rfl) (by kernel_rfl) (fun _ _ _ h => h) S59 (wants0 rfl) rfl (d := 51) (v := (.pointer (some ⟨r, 0, none⟩))) rfl (fun _ => (by kernel_rfl)) ?_
            refine k_pure 2 rfl (by kernel_rfl) (by kernel_rfl) (by kernel_rfl) (fun _ _ _ h => h) S59 (wants0 rfl) rfl (d := 52) (v := (.pointer (some ⟨r, 0, none⟩))) rfl (fun _ => (by kernel_rfl)) ?_
            refine k_pure 3 rfl (by kernel_rfl) (by kernel_rfl) (by kernel_rfl) (fun _ _ _ h => h) S59 (wants0 rfl) rfl (d := 53) (v := (.pointer (some ⟨r, 2, none⟩))) rfl (fun _ => (by kernel_rfl)) ?_
            refine k_val 4 rfl (by kernel_rfl) (by kernel_rfl) (by kernel_rfl) (fun _ _ _ h => h) S59 (wants0 rfl) rfl (by kernel_rfl) (d := 54) (v := (.int .i64 (rep))) rfl (fun _ H' => (e_load1 rfl (by kernel_rfl) (H'.cell 0 rfl rfl))) ?_
            refine k_val 5 rfl (by kernel_rfl) (by kernel_rfl) (by kernel_rfl) (fun _ _ _ h => h) S59 (wants0 rfl) rfl (by kernel_rfl) (d := 55) (v := (.agg ⟨([(.int .i64 (rep)), (.int .i64 (x23)), (.int .i64 (0)), (.int .i64 (0))] : List Value)⟩)) rfl (fun _ H' => (e_loadN (vs := ([(.int .i64 (rep)), (.int .i64 (x23)), (.int .i64 (0)), (.int .i64 (0))] : List Value)) rfl (by kernel_rfl) (by kernel_rfl) (by exact Nat.le_of_ble_eq_true (by kernel_rfl)) (H'.at 8 rfl) (by kernel_rfl))) ?_
            refine k_do 6 rfl (by kernel_rfl) (wants0 rfl) rfl (fun K60 hK60 => ?_)
            refine d_call (d := 56) rfl (by kernel_rfl) (wDenyText_any w57 (⟨rep, x23, 0, 0⟩ : DenyD) ⟨by show rep ≤ _; omega, by show x23 ≤ _; omega⟩) ?_
            rintro _ w61 ⟨u62, rfl, k63, p64, q65⟩
            have hdl := denyB_len rep x23
            have H66 : Sat w [cellC r 86 ([(.int .i64 (F)), (.int .i64 (C)), (.int .i64 (rep)), (.map (some mb))] : List Value), mapC mb (Value.int .i64) encX M, denC M, cellC b 103 ([(.map (some bm))] : List Value), mapC bm signedV (Value.int .i64) (marks N), restC w (sepC (rvL r mb F C rep L ++ [cellC b 103 [.map (some bm)], mapC bm signedV (Value.int .i64) (marks B)])).fp, rowC 3 1 (.slice a8 ((sortI L).length) c9) ((sortI L).length) ((sortI L).flatMap encI), rowC 63 4 (.slice oa O.length oc) O.length (O.flatMap encDn), cellC b26 89 (([(.int .i64 (X.p.n1)), (.int .i64 (X.p.n2))] : List Value) ++ hc X.p.h ++ ([(.int .u64 (X.p.t)), (.int .u64 (X.p.since)), (.int .i64 (X.p.oi)), (.slice X.p.oa X.p.ol X.p.oc)] : List Value) ++ hc X.p.on ++ ([(.bool (X.p.acked)), (.bool (X.p.denied)), (.map X.p.dm)] : List Value)), cellC b50 63 ([(.int .i64 (rep)), (.int .i64 (x23)), (.int .i64 (0)), (.int .i64 (0))] : List Value), rowC 5 1 u62 ((denyB rep x23).length) ((denyB rep x23).flatMap encB)] w61 := H58.addU p64 k63 q65
            obtain ⟨a67, c68, rfl⟩ := ownsRow_shape (H66.at 10 rfl)
            refine ⟨_, rfl, ?_⟩
            have S69 := H66.pick [0, 1, 2, 3, 5, 6, 7, 8, 9] (by decide)
            refine hK60 _ _ S69 ?_
            clear hK60 K60
            refine k_do 7 rfl (by kernel_rfl) (wants0 rfl) rfl (fun K70 hK70 => ?_)
            refine d_call (d := 57) rfl (by kernel_rfl) (pSign_any w61 b bm N (.slice a67 ((denyB rep x23).length) c68) (denyB rep x23) (H66.fin [3, 4, 10] (by decide) rfl) (by omega) rep) ?_
            rintro _ w71 ⟨rfl, T72⟩
            have hsl := signL_len N (⟨rep, (denyB rep x23)⟩ : Signed)
            have H73 : Sat w [cellC r 86 ([(.int .i64 (F)), (.int .i64 (C)), (.int .i64 (rep)), (.map (some mb))] : List Value), mapC mb (Value.int .i64) encX M, denC M, cellC b 103 ([(.map (some bm))] : List Value), mapC bm signedV (Value.int .i64) (marks (signL N (⟨rep, (denyB rep x23)⟩ : Signed))), restC w (sepC (rvL r mb F C rep L ++ [cellC b 103 [.map (some bm)], mapC bm signedV (Value.int .i64) (marks B)])).fp, rowC 3 1 (.slice a8 ((sortI L).length) c9) ((sortI L).length) ((sortI L).flatMap encI), rowC 63 4 (.slice oa O.length oc) O.length (O.flatMap encDn), cellC b26 89 (([(.int .i64 (X.p.n1)), (.int .i64 (X.p.n2))] : List Value) ++ hc X.p.h ++ ([(.int .u64 (X.p.t)), (.int .u64 (X.p.since)), (.int .i64 (X.p.oi)), (.slice X.p.oa X.p.ol X.p.oc)] : List Value) ++ hc X.p.on ++ ([(.bool (X.p.acked)), (.bool (X.p.denied)), (.map X.p.dm)] : List Value)), cellC b50 63 ([(.int .i64 (rep)), (.int .i64 (x23)), (.int .i64 (0)), (.int .i64 (0))] : List Value), rowC 5 1 (.slice a67 ((denyB rep x23).length) c68) ((denyB rep x23).length) ((denyB rep x23).flatMap encB)] w71 := (Sat.turnL (L' := [cellC b 103 ([(.map (some bm))] : List Value), mapC bm signedV (Value.int .i64) (marks (signL N (⟨rep, (denyB rep x23)⟩ : Signed))), rowC 5 1 (.slice a67 ((denyB rep x23).length) c68) ((denyB rep x23).length) ((denyB rep x23).flatMap encB)]) (R := [cellC r 86 ([(.int .i64 (F)), (.int .i64 (C)), (.int .i64 (rep)), (.map (some mb))] : List Value), mapC mb (Value.int .i64) encX M, denC M, restC w (sepC (rvL r mb F C rep L ++ [cellC b 103 [.map (some bm)], mapC bm signedV (Value.int .i64) (marks B)])).fp, rowC 3 1 (.slice a8 ((sortI L).length) c9) ((sortI L).length) ((sortI L).flatMap encI), rowC 63 4 (.slice oa O.length oc) O.length (O.flatMap encDn), cellC b26 89 (([(.int .i64 (X.p.n1)), (.int .i64 (X.p.n2))] : List Value) ++ hc X.p.h ++ ([(.int .u64 (X.p.t)), (.int .u64 (X.p.since)), (.int .i64 (X.p.oi)), (.slice X.p.oa X.p.ol X.p.oc)] : List Value) ++ hc X.p.on ++ ([(.bool (X.p.acked)), (.bool (X.p.denied)), (.map X.p.dm)] : List Value)), cellC b50 63 ([(.int .i64 (rep)), (.int .i64 (x23)), (.int .i64 (0)), (.int .i64 (0))] : List Value)]) H66 [3, 4, 10] [0, 1, 2, 5, 6, 7, 8, 9] (by decide) (by kernel_rfl) rfl T72).pick [3, 4, 5, 0, 1, 6, 7, 8, 9, 10, 2] (by decide)
            refine ⟨_, rfl, ?_⟩
            have S74 := H73.pick [0, 1, 2, 3, 5, 6, 7, 8, 9] (by decide)
            refine hK70 _ _ S74 ?_
            clear hK70 K70
            refine k_pure 8 rfl (by kernel_rfl) (by kernel_rfl) (by kernel_rfl) (fun _ _ _ h => h) S74 (wants0 rfl) rfl (d := 58) (v := (.pointer (some ⟨b50, 2, none⟩))) rfl (fun _ => (by kernel_rfl)) ?_
            refine k_brk 9 (Sat w [cellC r 86 ([(.int .i64 (F)), (.int .i64 (C)), (.int .i64 (rep)), (.map (some mb))] : List Value), mapC mb (Value.int .i64) encX M, denC M, cellC b 103 ([(.map (some bm))] : List Value), restC w (sepC (rvL r mb F C rep L ++ [cellC b 103 [.map (some bm)], mapC bm signedV (Value.int .i64) (marks B)])).fp, rowC 3 1 (.slice a8 ((sortI L).length) c9) ((sortI L).length) ((sortI L).flatMap encI), rowC 63 4 (.slice oa O.length oc) O.length (O.flatMap encDn), cellC b26 89 (([(.int .i64 (X.p.n1)), (.int .i64 (X.p.n2))] : List Value) ++ hc X.p.h ++ ([(.int .u64 (X.p.t)), (.int .u64 (X.p.since)), (.int .i64 (X.p.oi)), (.slice X.p.oa X.p.ol X.p.oc)] : List Value) ++ hc X.p.on ++ ([(.bool (X.p.acked)), (.bool (X.p.denied)), (.map X.p.dm)] : List Value))]) rfl (by kernel_rfl) (wants0 rfl) rfl (fun K75 hK75 => ?_)
            refine d_storeX (vs := ([(.int .i64 (rep)), (.int .i64 (markOf (signL N (⟨rep, (denyB rep x23)⟩ : Signed)) (⟨rep, (denyB rep x23)⟩ : Signed)))] : List Value)) (cs' := ([(.int .i64 (rep)), (.int .i64 (x23)), (.int .i64 (rep)), (.int .i64 (markOf (signL N (⟨rep, (denyB rep x23)⟩ : Signed)) (⟨rep, (denyB rep x23)⟩ : Signed)))] : List Value)) rfl H73 9 rfl rfl rfl rfl (by kernel_rfl) (Nat.le_of_ble_eq_true (by kernel_rfl)) (Nat.le_of_ble_eq_true (by kernel_rfl)) (by kernel_rfl) (by kernel_rfl) ?_
            intro w76 (H77 : Sat w [cellC r 86 ([(.int .i64 (F)), (.int .i64 (C)), (.int .i64 (rep)), (.map (some mb))] : List Value), mapC mb (Value.int .i64) encX M, denC M, cellC b 103 ([(.map (some bm))] : List Value), mapC bm signedV (Value.int .i64) (marks (signL N (⟨rep, (denyB rep x23)⟩ : Signed))), restC w (sepC (rvL r mb F C rep L ++ [cellC b 103 [.map (some bm)], mapC bm signedV (Value.int .i64) (marks B)])).fp, rowC 3 1 (.slice a8 ((sortI L).length) c9) ((sortI L).length) ((sortI L).flatMap encI), rowC 63 4 (.slice oa O.length oc) O.length (O.flatMap encDn), cellC b26 89 (([(.int .i64 (X.p.n1)), (.int .i64 (X.p.n2))] : List Value) ++ hc X.p.h ++ ([(.int .u64 (X.p.t)), (.int .u64 (X.p.since)), (.int .i64 (X.p.oi)), (.slice X.p.oa X.p.ol X.p.oc)] : List Value) ++ hc X.p.on ++ ([(.bool (X.p.acked)), (.bool (X.p.denied)), (.map X.p.dm)] : List Value)), cellC b50 63 ([(.int .i64 (rep)), (.int .i64 (x23)), (.int .i64 (rep)), (.int .i64 (markOf (signL N (⟨rep, (denyB rep x23)⟩ : Signed)) (⟨rep, (denyB rep x23)⟩ : Signed)))] : List Value), rowC 5 1 (.slice a67 ((denyB rep x23).length) c68) ((denyB rep x23).length) ((denyB rep x23).flatMap encB)] w76)
            have S79 := H77.pick [0, 1, 2, 3, 5, 6, 7, 8] (by decide)
            refine hK75 _ _ S79 ?_
            clear hK75 K75
            refine h_fin (by kernel_rfl) ?_
            refine then_normal ?_
            refine w_seq ?_
            refine w_lit ?_
            refine wl_pure (wants0 rfl) (d := 59) (v := (.pointer (some ⟨b26, 71, none⟩))) rfl (by kernel_rfl) ?_
            refine wl_do (wants0 rfl) (fun K80 hK80 => ?_)
            refine d_storeX (vs := ([(.bool true)] : List Value)) (cs' := (([(.int .i64 (X.p.n1)), (.int .i64 (X.p.n2))] : List Value) ++ hc X.p.h ++ ([(.int .u64 (X.p.t)), (.int .u64 (X.p.since)), (.int .i64 (X.p.oi)), (.slice X.p.oa X.p.ol X.p.oc)] : List Value) ++ hc X.p.on ++ ([(.bool (X.p.acked)), (.bool true), (.map X.p.dm)] : List Value))) rfl H77 8 rfl rfl rfl rfl (by kernel_rfl) (Nat.le_of_ble_eq_true (by kernel_rfl)) (Nat.le_of_ble_eq_true (by kernel_rfl)) (by kernel_rfl) (by kernel_rfl) ?_
            intro w81 (H82 : Sat w [cellC r 86 ([(.int .i64 (F)), (.int .i64 (C)), (.int .i64 (rep)), (.map (some mb))] : List Value), mapC mb (Value.int .i64) encX M, denC M, cellC b 103 ([(.map (some bm))] : List Value), mapC bm signedV (Value.int .i64) (marks (signL N (⟨rep, (denyB rep x23)⟩ : Signed))), restC w (sepC (rvL r mb F C rep L ++ [cellC b 103 [.map (some bm)], mapC bm signedV (Value.int .i64) (marks B)])).fp, rowC 3 1 (.slice a8 ((sortI L).length) c9) ((sortI L).length) ((sortI L).flatMap encI), rowC 63 4 (.slice oa O.length oc) O.length (O.flatMap encDn), cellC b26 89 (([(.int .i64 (X.p.n1)), (.int .i64 (X.p.n2))] : List Value) ++ hc X.p.h ++ ([(.int .u64 (X.p.t)), (.int .u64 (X.p.since)), (.int .i64 (X.p.oi)), (.slice X.p.oa X.p.ol X.p.oc)] : List Value) ++ hc X.p.on ++ ([(.bool (X.p.acked)), (.bool true), (.map X.p.dm)] : List Value)), cellC b50 63 ([(.int .i64 (rep)), (.int .i64 (x23)), (.int .i64 (rep)), (.int .i64 (markOf (signL N (⟨rep, (denyB rep x23)⟩ : Signed)) (⟨rep, (denyB rep x23)⟩ : Signed)))] : List Value), rowC 5 1 (.slice a67 ((denyB rep x23).length) c68) ((denyB rep x23).length) ((denyB rep x23).flatMap encB)] w81)
            refine hK80 _ _ ?_
            clear hK80 K80
            refine w_nil ?_
            refine then_normal ?_
            refine w_seq ?_
            refine h_start H82 [cellC r 86 ([(.int .i64 (F)), (.int .i64 (C)), (.int .i64 (rep)), (.map (some mb))] : List Value), denC M, cellC b 103 ([(.map (some bm))] : List Value), mapC bm signedV (Value.int .i64) (marks (signL N (⟨rep, (denyB rep x23)⟩ : Signed))), restC w (sepC (rvL r mb F C rep L ++ [cellC b 103 [.map (some bm)], mapC bm signedV (Value.int .i64) (marks B)])).fp, rowC 3 1 (.slice a8 ((sortI L).length) c9) ((sortI L).length) ((sortI L).flatMap encI), rowC 63 4 (.slice oa O.length oc) O.length (O.flatMap encDn), cellC b26 89 (([(.int .i64 (X.p.n1)), (.int .i64 (X.p.n2))] : List Value) ++ hc X.p.h ++ ([(.int .u64 (X.p.t)), (.int .u64 (X.p.since)), (.int .i64 (X.p.oi)), (.slice X.p.oa X.p.ol X.p.oc)] : List Value) ++ hc X.p.on ++ ([(.bool (X.p.acked)), (.bool true), (.map X.p.dm)] : List Value)), cellC b50 63 ([(.int .i64 (rep)), (.int .i64 (x23)), (.int .i64 (rep)), (.int .i64 (markOf (signL N (⟨rep, (denyB rep x23)⟩ : Signed)) (⟨rep, (denyB rep x23)⟩ : Signed)))] : List Value), rowC 5 1 (.slice a67 ((denyB rep x23).length) c68) ((denyB rep x23).length) ((denyB rep x23).flatMap encB)] 7 rfl (by kernel_rfl) (fun Hx => (Hx.pick [0, 2, 3, 4, 5, 6, 7, 8, 9, 10] (by decide))) ?_
            intro w84 H85 S86
            refine h_val 0 rfl (by kernel_rfl) (by kernel_rfl) (by kernel_rfl) (fun _ _ _ h => h) S86 (wants0 rfl) (d := 60) (v := (.pointer (some ⟨r, 0, none⟩))) rfl (fun _ H' => (by kernel_rfl)) ?_
            refine h_val 1 rfl (by kernel_rfl) (by kernel_rfl) (by kernel_rfl) (fun _ _ _ h => h) S86 (wants0 rfl) (d := 61) (v := (.pointer (some ⟨r, 0, none⟩))) rfl (fun _ H' => (by kernel_rfl)) ?_
            refine h_val 2 rfl (by kernel_rfl) (by kernel_rfl) (by kernel_rfl) (fun _ _ _ h => h) S86 (wants0 rfl) (d := 62) (v := (.pointer (some ⟨r, 3, none⟩))) rfl (fun _ H' => (by kernel_rfl)) ?_
            refine h_val 3 rfl (by kernel_rfl) (by kernel_rfl) (by kernel_rfl) (fun _ _ _ h => h) S86 (wants0 rfl) (d := 63) (v := (.map (some mb))) rfl (fun _ H' => (e_load1 rfl (by kernel_rfl) (H'.cell 0 rfl rfl))) ?_
            refine h_val 4 rfl (by kernel_rfl) (by kernel_rfl) (by kernel_rfl) (fun _ _ _ h => h) S86 (wants0 rfl) (d := 64) (v := (.int .i64 (x23))) rfl (fun _ H' => (by kernel_rfl)) ?_
            refine h_val 5 rfl (by kernel_rfl) (by kernel_rfl) (by kernel_rfl) (fun _ _ _ h => h) S86 (wants0 rfl) (d := 65) (v := (.agg ⟨(([(.int .i64 (X.p.n1)), (.int .i64 (X.p.n2))] : List Value) ++ hc X.p.h ++ ([(.int .u64 (X.p.t)), (.int .u64 (X.p.since)), (.int .i64 (X.p.oi)), (.slice X.p.oa X.p.ol X.p.oc)] : List Value) ++ hc X.p.on ++ ([(.bool (X.p.acked)), (.bool true), (.map X.p.dm)] : List Value))⟩)) rfl (fun _ H' => (e_loadN (vs := (([(.int .i64 (X.p.n1)), (.int .i64 (X.p.n2))] : List Value) ++ hc X.p.h ++ ([(.int .u64 (X.p.t)), (.int .u64 (X.p.since)), (.int .i64 (X.p.oi)), (.slice X.p.oa X.p.ol X.p.oc)] : List Value) ++ hc X.p.on ++ ([(.bool (X.p.acked)), (.bool true), (.map X.p.dm)] : List Value))) rfl (by kernel_rfl) (by kernel_rfl) (by exact Nat.le_of_ble_eq_true (by kernel_rfl)) (H'.at 7 rfl) (by kernel_rfl))) ?_
            refine h_do 6 rfl (by kernel_rfl) (wants0 rfl) (fun K87 hK87 => ?_)
            refine d_mapUpdate (kt := 3) (et := 89) rfl H85 1 rfl (KeyTy.int (by kernel_rfl)) (by kernel_rfl) rfl (x23 : Int) rfl (⟨(⟨X.p.n1, X.p.n2, X.p.h, X.p.t, X.p.since, X.p.oi, X.p.oa, X.p.ol, X.p.oc, X.p.on, (X.p.acked), true, X.p.dm⟩ : PlaceD), X.D, X.pay⟩ : PlX) rfl ?_
            intro w88 (H89 : Sat w [cellC r 86 ([(.int .i64 (F)), (.int .i64 (C)), (.int .i64 (rep)), (.map (some mb))] : List Value), mapC mb (Value.int .i64) encX (putM M (x23 : Int) (⟨(⟨X.p.n1, X.p.n2, X.p.h, X.p.t, X.p.since, X.p.oi, X.p.oa, X.p.ol, X.p.oc, X.p.on, (X.p.acked), true, X.p.dm⟩ : PlaceD), X.D, X.pay⟩ : PlX)), denC M, cellC b 103 ([(.map (some bm))] : List Value), mapC bm signedV (Value.int .i64) (marks (signL N (⟨rep, (denyB rep x23)⟩ : Signed))), restC w (sepC (rvL r mb F C rep L ++ [cellC b 103 [.map (some bm)], mapC bm signedV (Value.int .i64) (marks B)])).fp, rowC 3 1 (.slice a8 ((sortI L).length) c9) ((sortI L).length) ((sortI L).flatMap encI), rowC 63 4 (.slice oa O.length oc) O.length (O.flatMap encDn), cellC b26 89 (([(.int .i64 (X.p.n1)), (.int .i64 (X.p.n2))] : List Value) ++ hc X.p.h ++ ([(.int .u64 (X.p.t)), (.int .u64 (X.p.since)), (.int .i64 (X.p.oi)), (.slice X.p.oa X.p.ol X.p.oc)] : List Value) ++ hc X.p.on ++ ([(.bool (X.p.acked)), (.bool true), (.map X.p.dm)] : List Value)), cellC b50 63 ([(.int .i64 (rep)), (.int .i64 (x23)), (.int .i64 (rep)), (.int .i64 (markOf (signL N (⟨rep, (denyB rep x23)⟩ : Signed)) (⟨rep, (denyB rep x23)⟩ : Signed)))] : List Value), rowC 5 1 (.slice a67 ((denyB rep x23).length) c68) ((denyB rep x23).length) ((denyB rep x23).flatMap encB)] w88)
            have S90 := H89.pick [0, 2, 3, 4, 5, 6, 7, 8, 9, 10] (by decide)
            refine hK87 _ _ S90 ?_
            clear hK87 K87
            refine h_fin (by kernel_rfl) ?_
            refine then_normal ?_
            refine w_seq ?_
            have H91 : Sat w [cellC r 86 ([(.int .i64 (F)), (.int .i64 (C)), (.int .i64 (rep)), (.map (some mb))] : List Value), mapC mb (Value.int .i64) encX (putM M (x23 : Int) (⟨(⟨X.p.n1, X.p.n2, X.p.h, X.p.t, X.p.since, X.p.oi, X.p.oa, X.p.ol, X.p.oc, X.p.on, (X.p.acked), true, X.p.dm⟩ : PlaceD), X.D, X.pay⟩ : PlX)), denC (putM M (x23 : Int) (⟨(⟨X.p.n1, X.p.n2, X.p.h, X.p.t, X.p.since, X.p.oi, X.p.oa, X.p.ol, X.p.oc, X.p.on, (X.p.acked), true, X.p.dm⟩ : PlaceD), X.D, X.pay⟩ : PlX)), cellC b 103 ([(.map (some bm))] : List Value), mapC bm signedV (Value.int .i64) (marks (signL N (⟨rep, (denyB rep x23)⟩ : Signed))), restC w (sepC (rvL r mb F C rep L ++ [cellC b 103 [.map (some bm)], mapC bm signedV (Value.int .i64) (marks B)])).fp, rowC 3 1 (.slice a8 ((sortI L).length) c9) ((sortI L).length) ((sortI L).flatMap encI), rowC 63 4 (.slice oa O.length oc) O.length (O.flatMap encDn), cellC b26 89 (([(.int .i64 (X.p.n1)), (.int .i64 (X.p.n2))] : List Value) ++ hc X.p.h ++ ([(.int .u64 (X.p.t)), (.int .u64 (X.p.since)), (.int .i64 (X.p.oi)), (.slice X.p.oa X.p.ol X.p.oc)] : List Value) ++ hc X.p.on ++ ([(.bool (X.p.acked)), (.bool true), (.map X.p.dm)] : List Value)), cellC b50 63 ([(.int .i64 (rep)), (.int .i64 (x23)), (.int .i64 (rep)), (.int .i64 (markOf (signL N (⟨rep, (denyB rep x23)⟩ : Signed)) (⟨rep, (denyB rep x23)⟩ : Signed)))] : List Value), rowC 5 1 (.slice a67 ((denyB rep x23).length) c68) ((denyB rep x23).length) ((denyB rep x23).flatMap encB)] w88 := den_same (X := X) (X' := (⟨(⟨X.p.n1, X.p.n2, X.p.h, X.p.t, X.p.since, X.p.oi, X.p.oa, X.p.ol, X.p.oc, X.p.on, (X.p.acked), true, X.p.dm⟩ : PlaceD), X.D, X.pay⟩ : PlX)) H89 2 rfl hXM rfl rfl rfl
            refine w_lit ?_
            refine wl_pure (wants0 rfl) (d := 66) (v := (.pointer (some ⟨r, 0, none⟩))) rfl (by kernel_rfl) ?_
            refine wl_pure (wants0 rfl) (d := 67) (v := (.agg ⟨([(.int .i64 (rep)), (.int .i64 (x23)), (.int .i64 (rep)), (.int .i64 (markOf (signL N (⟨rep, (denyB rep x23)⟩ : Signed)) (⟨rep, (denyB rep x23)⟩ : Signed)))] : List Value)⟩)) rfl (e_loadN (vs := ([(.int .i64 (rep)), (.int .i64 (x23)), (.int .i64 (rep)), (.int .i64 (markOf (signL N (⟨rep, (denyB rep x23)⟩ : Signed)) (⟨rep, (denyB rep x23)⟩ : Signed)))] : List Value)) rfl (by kernel_rfl) (by kernel_rfl) (by exact Nat.le_of_ble_eq_true (by kernel_rfl)) (H91.at 9 rfl) (by kernel_rfl)) ?_
            refine wl_do (wants0 rfl) (fun K92 hK92 => ?_)
            refine d_call (d := 68) rfl (by kernel_rfl) (rvCount_any w88 r mb F C rep (putM M (x23 : Int) (⟨(⟨X.p.n1, X.p.n2, X.p.h, X.p.t, X.p.since, X.p.oi, X.p.oa, X.p.ol, X.p.oc, X.p.on, (X.p.acked), true, X.p.dm⟩ : PlaceD), X.D, X.pay⟩ : PlX)) (H91.fin [0, 1, 2] (by decide) rfl) (⟨rep, x23, rep, markOf (signL N (⟨rep, (denyB rep x23)⟩ : Signed)) (⟨rep, (denyB rep x23)⟩ : Signed)⟩ : DenyD) (⟨(⟨X.p.n1, X.p.n2, X.p.h, X.p.t, X.p.since, X.p.oi, X.p.oa, X.p.ol, X.p.oc, X.p.on, (X.p.acked), true, X.p.dm⟩ : PlaceD), X.D, X.pay⟩ : PlX) (look_put_same _ _ _)) ?_
            rintro _ w93 ⟨M94, rfl, R95, T96⟩
            have H97 : Sat w [cellC r 86 ([(.int .i64 (F)), (.int .i64 (C)), (.int .i64 (rep)), (.map (some mb))] : List Value), mapC mb (Value.int .i64) encX M94, denC M94, cellC b 103 ([(.map (some bm))] : List Value), mapC bm signedV (Value.int .i64) (marks (signL N (⟨rep, (denyB rep x23)⟩ : Signed))), restC w (sepC (rvL r mb F C rep L ++ [cellC b 103 [.map (some bm)], mapC bm signedV (Value.int .i64) (marks B)])).fp, rowC 3 1 (.slice a8 ((sortI L).length) c9) ((sortI L).length) ((sortI L).flatMap encI), rowC 63 4 (.slice oa O.length oc) O.length (O.flatMap encDn), cellC b26 89 (([(.int .i64 (X.p.n1)), (.int .i64 (X.p.n2))] : List Value) ++ hc X.p.h ++ ([(.int .u64 (X.p.t)), (.int .u64 (X.p.since)), (.int .i64 (X.p.oi)), (.slice X.p.oa X.p.ol X.p.oc)] : List Value) ++ hc X.p.on ++ ([(.bool (X.p.acked)), (.bool true), (.map X.p.dm)] : List Value)), cellC b50 63 ([(.int .i64 (rep)), (.int .i64 (x23)), (.int .i64 (rep)), (.int .i64 (markOf (signL N (⟨rep, (denyB rep x23)⟩ : Signed)) (⟨rep, (denyB rep x23)⟩ : Signed)))] : List Value), rowC 5 1 (.slice a67 ((denyB rep x23).length) c68) ((denyB rep x23).length) ((denyB rep x23).flatMap encB)] w93 := (Sat.turnL (L' := [cellC r 86 ([(.int .i64 (F)), (.int .i64 (C)), (.int .i64 (rep)), (.map (some mb))] : List Value), mapC mb (Value.int .i64) encX M94, denC M94]) (R := [cellC b 103 ([(.map (some bm))] : List Value), mapC bm signedV (Value.int .i64) (marks (signL N (⟨rep, (denyB rep x23)⟩ : Signed))), restC w (sepC (rvL r mb F C rep L ++ [cellC b 103 [.map (some bm)], mapC bm signedV (Value.int .i64) (marks B)])).fp, rowC 3 1 (.slice a8 ((sortI L).length) c9) ((sortI L).length) ((sortI L).flatMap encI), rowC 63 4 (.slice oa O.length oc) O.length (O.flatMap encDn), cellC b26 89 (([(.int .i64 (X.p.n1)), (.int .i64 (X.p.n2))] : List Value) ++ hc X.p.h ++ ([(.int .u64 (X.p.t)), (.int .u64 (X.p.since)), (.int .i64 (X.p.oi)), (.slice X.p.oa X.p.ol X.p.oc)] : List Value) ++ hc X.p.on ++ ([(.bool (X.p.acked)), (.bool true), (.map X.p.dm)] : List Value)), cellC b50 63 ([(.int .i64 (rep)), (.int .i64 (x23)), (.int .i64 (rep)), (.int .i64 (markOf (signL N (⟨rep, (denyB rep x23)⟩ : Signed)) (⟨rep, (denyB rep x23)⟩ : Signed)))] : List Value), rowC 5 1 (.slice a67 ((denyB rep x23).length) c68) ((denyB rep x23).length) ((denyB rep x23).flatMap encB)]) H91 [0, 1, 2] [3, 4, 5, 6, 7, 8, 9, 10] (by decide) (by kernel_rfl) rfl T96).pick [0, 1, 2, 3, 4, 5, 6, 7, 8, 9, 10] (by decide)
            refine ⟨_, rfl, ?_⟩
            refine hK92 _ _ ?_
            clear hK92 K92
            refine w_nil ?_
            refine then_normal ?_
            refine w_lit ?_
            refine wl_pure (wants0 rfl) (d := 69) (v := (.slice oa O.length oc)) rfl (by kernel_rfl) ?_
            refine wl_pure (wants0 rfl) (d := 70) (v := (.agg ⟨([(.int .i64 (rep)), (.int .i64 (x23)), (.int .i64 (rep)), (.int .i64 (markOf (signL N (⟨rep, (denyB rep x23)⟩ : Signed)) (⟨rep, (denyB rep x23)⟩ : Signed)))] : List Value)⟩)) rfl (e_loadN (vs := ([(.int .i64 (rep)), (.int .i64 (x23)), (.int .i64 (rep)), (.int .i64 (markOf (signL N (⟨rep, (denyB rep x23)⟩ : Signed)) (⟨rep, (denyB rep x23)⟩ : Signed)))] : List Value)) rfl (by kernel_rfl) (by kernel_rfl) (by exact Nat.le_of_ble_eq_true (by kernel_rfl)) (H97.at 9 rfl) (by kernel_rfl)) ?_
            refine wl_do (wants0 rfl) (fun K98 hK98 => ?_)
            refine d_buildSlice (e := 63) (size := 4) (bytes := 32) (z := (.agg ⟨([(.int .i64 (0)), (.int .i64 (0)), (.int .i64 (0)), (.int .i64 (0))] : List Value)⟩)) (pvs := [(0, (.agg ⟨([(.int .i64 (rep)), (.int .i64 (x23)), (.int .i64 (rep)), (.int .i64 (markOf (signL N (⟨rep, (denyB rep x23)⟩ : Signed)) (⟨rep, (denyB rep x23)⟩ : Signed)))] : List Value)⟩))]) (vs := ([(.int .i64 (rep)), (.int .i64 (x23)), (.int .i64 (rep)), (.int .i64 (markOf (signL N (⟨rep, (denyB rep x23)⟩ : Signed)) (⟨rep, (denyB rep x23)⟩ : Signed)))] : List Value)) rfl H97 (by kernel_rfl) (by kernel_rfl) (by kernel_rfl) (by kernel_rfl) (by kernel_rfl) rfl rfl ?_
            intro b99 w100 (H101 : Sat w [cellC r 86 ([(.int .i64 (F)), (.int .i64 (C)), (.int .i64 (rep)), (.map (some mb))] : List Value), mapC mb (Value.int .i64) encX M94, denC M94, cellC b 103 ([(.map (some bm))] : List Value), mapC bm signedV (Value.int .i64) (marks (signL N (⟨rep, (denyB rep x23)⟩ : Signed))), restC w (sepC (rvL r mb F C rep L ++ [cellC b 103 [.map (some bm)], mapC bm signedV (Value.int .i64) (marks B)])).fp, rowC 3 1 (.slice a8 ((sortI L).length) c9) ((sortI L).length) ((sortI L).flatMap encI), rowC 63 4 (.slice oa O.length oc) O.length (O.flatMap encDn), cellC b26 89 (([(.int .i64 (X.p.n1)), (.int .i64 (X.p.n2))] : List Value) ++ hc X.p.h ++ ([(.int .u64 (X.p.t)), (.int .u64 (X.p.since)), (.int .i64 (X.p.oi)), (.slice X.p.oa X.p.ol X.p.oc)] : List Value) ++ hc X.p.on ++ ([(.bool (X.p.acked)), (.bool true), (.map X.p.dm)] : List Value)), cellC b50 63 ([(.int .i64 (rep)), (.int .i64 (x23)), (.int .i64 (rep)), (.int .i64 (markOf (signL N (⟨rep, (denyB rep x23)⟩ : Signed)) (⟨rep, (denyB rep x23)⟩ : Signed)))] : List Value), rowC 5 1 (.slice a67 ((denyB rep x23).length) c68) ((denyB rep x23).length) ((denyB rep x23).flatMap encB), rowC 63 4 (.slice (some ⟨b99, 0, none⟩) 1 1) 1 ([(.int .i64 (rep)), (.int .i64 (x23)), (.int .i64 (rep)), (.int .i64 (markOf (signL N (⟨rep, (denyB rep x23)⟩ : Signed)) (⟨rep, (denyB rep x23)⟩ : Signed)))] : List Value)] w100)
            have H102 : Sat w [cellC r 86 ([(.int .i64 (F)), (.int .i64 (C)), (.int .i64 (rep)), (.map (some mb))] : List Value), mapC mb (Value.int .i64) encX M94, denC M94, cellC b 103 ([(.map (some bm))] : List Value), mapC bm signedV (Value.int .i64) (marks (signL N (⟨rep, (denyB rep x23)⟩ : Signed))), restC w (sepC (rvL r mb F C rep L ++ [cellC b 103 [.map (some bm)], mapC bm signedV (Value.int .i64) (marks B)])).fp, rowC 3 1 (.slice a8 ((sortI L).length) c9) ((sortI L).length) ((sortI L).flatMap encI), rowC 63 4 (.slice oa O.length oc) O.length (O.flatMap encDn), cellC b26 89 (([(.int .i64 (X.p.n1)), (.int .i64 (X.p.n2))] : List Value) ++ hc X.p.h ++ ([(.int .u64 (X.p.t)), (.int .u64 (X.p.since)), (.int .i64 (X.p.oi)), (.slice X.p.oa X.p.ol X.p.oc)] : List Value) ++ hc X.p.on ++ ([(.bool (X.p.acked)), (.bool true), (.map X.p.dm)] : List Value)), cellC b50 63 ([(.int .i64 (rep)), (.int .i64 (x23)), (.int .i64 (rep)), (.int .i64 (markOf (signL N (⟨rep, (denyB rep x23)⟩ : Signed)) (⟨rep, (denyB rep x23)⟩ : Signed)))] : List Value), rowC 5 1 (.slice a67 ((denyB rep x23).length) c68) ((denyB rep x23).length) ((denyB rep x23).flatMap encB), rowC 63 4 (.slice (some ⟨b99, 0, none⟩) 1 1) 1 ([(⟨rep, x23, rep, markOf (signL N (⟨rep, (denyB rep x23)⟩ : Signed)) (⟨rep, (denyB rep x23)⟩ : Signed)⟩ : DenyD)].flatMap encDn)] w100 := H101.cast (by rw [(show (([(.int .i64 (rep)), (.int .i64 (x23)), (.int .i64 (rep)), (.int .i64 (markOf (signL N (⟨rep, (denyB rep x23)⟩ : Signed)) (⟨rep, (denyB rep x23)⟩ : Signed)))] : List Value) : List Value) = [(⟨rep, x23, rep, markOf (signL N (⟨rep, (denyB rep x23)⟩ : Signed)) (⟨rep, (denyB rep x23)⟩ : Signed)⟩ : DenyD)].flatMap encDn by kernel_rfl)])
            refine hK98 _ _ ?_
            clear hK98 K98
            refine wl_do (wants0 rfl) (fun K103 hK103 => ?_)
            refine d_append (T := 58) (e := 63) (size := 4) (bytes := 32) rfl H102 (by kernel_rfl) 7 11 rfl rfl rfl rfl (flat_one encDn encDn_one [(⟨rep, x23, rep, markOf (signL N (⟨rep, (denyB rep x23)⟩ : Signed)) (⟨rep, (denyB rep x23)⟩ : Signed)⟩ : DenyD)]) (by omega) (by omega) ?_
            intro v104 w105 (H106 : Sat w [cellC r 86 ([(.int .i64 (F)), (.int .i64 (C)), (.int .i64 (rep)), (.map (some mb))] : List Value), mapC mb (Value.int .i64) encX M94, denC M94, cellC b 103 ([(.map (some bm))] : List Value), mapC bm signedV (Value.int .i64) (marks (signL N (⟨rep, (denyB rep x23)⟩ : Signed))), restC w (sepC (rvL r mb F C rep L ++ [cellC b 103 [.map (some bm)], mapC bm signedV (Value.int .i64) (marks B)])).fp, rowC 3 1 (.slice a8 ((sortI L).length) c9) ((sortI L).length) ((sortI L).flatMap encI), rowC 63 4 v104 (O.length + 1) ((O.flatMap encDn) ++ ([(⟨rep, x23, rep, markOf (signL N (⟨rep, (denyB rep x23)⟩ : Signed)) (⟨rep, (denyB rep x23)⟩ : Signed)⟩ : DenyD)].flatMap encDn)), cellC b26 89 (([(.int .i64 (X.p.n1)), (.int .i64 (X.p.n2))] : List Value) ++ hc X.p.h ++ ([(.int .u64 (X.p.t)), (.int .u64 (X.p.since)), (.int .i64 (X.p.oi)), (.slice X.p.oa X.p.ol X.p.oc)] : List Value) ++ hc X.p.on ++ ([(.bool (X.p.acked)), (.bool true), (.map X.p.dm)] : List Value)), cellC b50 63 ([(.int .i64 (rep)), (.int .i64 (x23)), (.int .i64 (rep)), (.int .i64 (markOf (signL N (⟨rep, (denyB rep x23)⟩ : Signed)) (⟨rep, (denyB rep x23)⟩ : Signed)))] : List Value), rowC 5 1 (.slice a67 ((denyB rep x23).length) c68) ((denyB rep x23).length) ((denyB rep x23).flatMap encB), rowC 63 4 (.slice (some ⟨b99, 0, none⟩) 1 1) 1 ([(⟨rep, x23, rep, markOf (signL N (⟨rep, (denyB rep x23)⟩ : Signed)) (⟨rep, (denyB rep x23)⟩ : Signed)⟩ : DenyD)].flatMap encDn)] w105)
            have H109 : Sat w [cellC r 86 ([(.int .i64 (F)), (.int .i64 (C)), (.int .i64 (rep)), (.map (some mb))] : List Value), mapC mb (Value.int .i64) encX M94, denC M94, cellC b 103 ([(.map (some bm))] : List Value), mapC bm signedV (Value.int .i64) (marks (signL N (⟨rep, (denyB rep x23)⟩ : Signed))), restC w (sepC (rvL r mb F C rep L ++ [cellC b 103 [.map (some bm)], mapC bm signedV (Value.int .i64) (marks B)])).fp, rowC 3 1 (.slice a8 ((sortI L).length) c9) ((sortI L).length) ((sortI L).flatMap encI), rowC 63 4 v104 ((O ++ [(⟨rep, x23, rep, markOf (signL N (⟨rep, (denyB rep x23)⟩ : Signed)) (⟨rep, (denyB rep x23)⟩ : Signed)⟩ : DenyD)]).length) ((O ++ [(⟨rep, x23, rep, markOf (signL N (⟨rep, (denyB rep x23)⟩ : Signed)) (⟨rep, (denyB rep x23)⟩ : Signed)⟩ : DenyD)]).flatMap encDn), cellC b26 89 (([(.int .i64 (X.p.n1)), (.int .i64 (X.p.n2))] : List Value) ++ hc X.p.h ++ ([(.int .u64 (X.p.t)), (.int .u64 (X.p.since)), (.int .i64 (X.p.oi)), (.slice X.p.oa X.p.ol X.p.oc)] : List Value) ++ hc X.p.on ++ ([(.bool (X.p.acked)), (.bool true), (.map X.p.dm)] : List Value)), cellC b50 63 ([(.int .i64 (rep)), (.int .i64 (x23)), (.int .i64 (rep)), (.int .i64 (markOf (signL N (⟨rep, (denyB rep x23)⟩ : Signed)) (⟨rep, (denyB rep x23)⟩ : Signed)))] : List Value), rowC 5 1 (.slice a67 ((denyB rep x23).length) c68) ((denyB rep x23).length) ((denyB rep x23).flatMap encB), rowC 63 4 (.slice (some ⟨b99, 0, none⟩) 1 1) 1 ([(⟨rep, x23, rep, markOf (signL N (⟨rep, (denyB rep x23)⟩ : Signed)) (⟨rep, (denyB rep x23)⟩ : Signed)⟩ : DenyD)].flatMap encDn)] w105 := H106.cast (by simp only [List.length_append, List.flatMap_append] <;> rfl)
            obtain ⟨a107, c108, rfl⟩ := ownsRow_shape (H109.at 7 rfl)
            refine hK103 _ _ ?_
            clear hK103 K103
            refine wl_pure (wants0 rfl) (d := 7) (v := (.slice a107 ((O ++ [(⟨rep, x23, rep, markOf (signL N (⟨rep, (denyB rep x23)⟩ : Signed)) (⟨rep, (denyB rep x23)⟩ : Signed)⟩ : DenyD)]).length) c108)) rfl (by kernel_rfl) ?_
            refine w_nil ?_
            refine blk_normal ?_
            refine then_normal ?_
            refine w_lit ?_
            refine wl_pure (wants0 rfl) (d := 73) (v := (.int .i64 ((k : Int) + 1))) rfl (e_int (z := (k : Int) + 1) (by kernel_rfl) (IntWalk.i64_in _ (by omega))) ?_
            refine wl_pure (wants0 rfl) (d := 15) (v := (.int .i64 ((k : Int) + 1))) rfl (by kernel_rfl) ?_
            refine w_nil ?_
            have H110 : Sat w [cellC r 86 ([(.int .i64 (F)), (.int .i64 (C)), (.int .i64 (rep)), (.map (some mb))] : List Value), mapC mb (Value.int .i64) encX M94, denC M94, cellC b 103 ([(.map (some bm))] : List Value), mapC bm signedV (Value.int .i64) (marks (signL N (⟨rep, (denyB rep x23)⟩ : Signed))), restC w (sepC (rvL r mb F C rep L ++ [cellC b 103 [.map (some bm)], mapC bm signedV (Value.int .i64) (marks B)])).fp, rowC 3 1 (.slice a8 ((sortI L).length) c9) ((sortI L).length) ((sortI L).flatMap encI), rowC 63 4 (.slice a107 ((O ++ [(⟨rep, x23, rep, markOf (signL N (⟨rep, (denyB rep x23)⟩ : Signed)) (⟨rep, (denyB rep x23)⟩ : Signed)⟩ : DenyD)]).length) c108) ((O ++ [(⟨rep, x23, rep, markOf (signL N (⟨rep, (denyB rep x23)⟩ : Signed)) (⟨rep, (denyB rep x23)⟩ : Signed)⟩ : DenyD)]).length) ((O ++ [(⟨rep, x23, rep, markOf (signL N (⟨rep, (denyB rep x23)⟩ : Signed)) (⟨rep, (denyB rep x23)⟩ : Signed)⟩ : DenyD)]).flatMap encDn)] w105 := H109.pick [0, 1, 2, 3, 4, 5, 6, 7] (by decide)
            refine round_back ?_ _ ⟨(k + 1), M94, (signL N (⟨rep, (denyB rep x23)⟩ : Signed)), a107, c108, (O ++ [(⟨rep, x23, rep, markOf (signL N (⟨rep, (denyB rep x23)⟩ : Signed)) (⟨rep, (denyB rep x23)⟩ : Signed)⟩ : DenyD)]), (show ((.int .i64 ((k : Int) + 1)) : Value) = _ by first | rfl | go_num), (show ((.slice a107 ((O ++ [(⟨rep, x23, rep, markOf (signL N (⟨rep, (denyB rep x23)⟩ : Signed)) (⟨rep, (denyB rep x23)⟩ : Signed)⟩ : DenyD)]).length) c108) : Value) = _ by first | rfl | go_num), (by omega), (hR.due (X1 := (⟨(⟨X.p.n1, X.p.n2, X.p.h, X.p.t, X.p.since, X.p.oi, X.p.oa, X.p.ol, X.p.oc, X.p.on, (X.p.acked), true, X.p.dm⟩ : PlaceD), X.D, X.pay⟩ : PlX)) hn h24 hXL hXM (by unfold dueX; simp [b33, b35, b37, b43]) rfl rfl rfl rfl rfl rfl R95 rfl rfl), (by omega), H110, rfl⟩ (by omega)
            exact (same_upd rfl (same_upd rfl (same_upd rfl (same_upd rfl (same_upd rfl (same_upd rfl (same_upd rfl (same_upd rfl (same_upd rfl (same_upd rfl (same_upd rfl (same_upd rfl (same_upd rfl (same_upd rfl (same_upd rfl (same_upd rfl (same_upd rfl (same_upd rfl (same_upd rfl (same_upd rfl (same_upd rfl (same_upd rfl (same_upd rfl (same_upd rfl (same_upd rfl (same_upd rfl (same_upd rfl (same_upd rfl (same_upd rfl (same_upd rfl (same_upd rfl (same_upd rfl (same_upd rfl (same_upd rfl (same_upd rfl (same_upd rfl (same_upd rfl (same_upd rfl (same_upd rfl (same_upd rfl (same_upd rfl (same_upd rfl (same_upd rfl (same_upd rfl (same_upd rfl (same_upd rfl (same_upd rfl (same_upd rfl (same_upd rfl (same_upd rfl (same_upd rfl (same_upd rfl (same_upd rfl (same_upd rfl (same_upd rfl (same_upd rfl (same_upd rfl (same_upd rfl (same_upd rfl (same_upd rfl (same_upd rfl (same_upd rfl (same_upd rfl (same_upd rfl (same_upd rfl (same_upd rfl (same_upd rfl (same_upd rfl (same_upd rfl (same_upd rfl (same_ovr)))))))))))))))))))))))))))))))))))))))))))))))))))))))))))))))))))))))
  · have g111 := of_decide_eq_false b17
    refine wp_know 16 (.bool false) (congrArg Value.bool b17) ?_
    have g112 := of_decide_eq_false b17
    refine wp_iff rfl ?_
    refine w_exit ?_
    refine then_exit ?_
    refine back_exit ?_
    refine blk_hit ?_
    refine then_normal ?_
    refine w_seq ?_
    refine w_lit ?_
    refine wl_pure (wants0 rfl) (d := 74) (v := (.slice oa O.length oc)) rfl (by kernel_rfl) ?_
    refine wl_pure (wants0 rfl) (d := 6) (v := (.slice oa O.length oc)) rfl (by kernel_rfl) ?_
    refine w_nil ?_
    refine then_normal ?_
    refine w_ret ?_
    refine end1 rfl (res_tmp (v := (.slice oa O.length oc)) rfl) ?_
    obtain rfl : k = (sortI L).length := by omega
    exact ⟨M, N, oa, oc, O, rfl, hR.fin hn, by omega, H13.pick [0, 1, 2, 3, 4, 7, 5] (by decide)⟩

end Go.Proofs.Ytoiplcicbjimlaa
