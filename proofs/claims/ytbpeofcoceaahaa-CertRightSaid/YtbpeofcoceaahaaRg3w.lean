/- WHAT IS PROVED: right certificates, their times, the program's way: contracts. Conditions: stated with each. -/
import Derived.Test.YtbpeofcoceaahaaRg2w
import Derived.Test.YtbpeofcoceaahaaNumsS
namespace Go.Proofs.Ytbpeofcoceaahaa
open Go.RowKit

set_option maxRecDepth 100000 in
set_option maxHeartbeats 1000000 in
theorem wTime_any (w : World) (x : CommitD) (sa : Option Addr) (sc : Nat) (S : List StampD) (hS : ListAt encSt 38 w (.slice sa S.length sc) S) (hlS : S.length ≤ 12) :
    Calls Try.prog 22 #[(.agg ⟨(([(.int .i64 (x.cl)), (.int .i64 (x.seq))] : List Value) ++ hc x.h ++ ([(.int .i64 (x.len)), (.int .i64 (x.sb)), (.int .i64 (x.sm)), (.slice sa S.length sc)] : List Value))⟩)] w fun e w' => e = .returned (.int .u64 (timeD S)) ∧ Upd [] w w' := by
  have H := Sat.start0 w
  refine calls_fr Try.func22 rfl 27 rfl (Nat.le_of_ble_eq_true rfl) ?_
  refine w_seq ?_
  refine w_lit ?_
  refine wl_do (wants0 rfl) (fun K1 hK1 => ?_)
  refine d_box (vs := (([(.int .i64 (x.cl)), (.int .i64 (x.seq))] : List Value) ++ hc x.h ++ ([(.int .i64 (x.len)), (.int .i64 (x.sb)), (.int .i64 (x.sm)), (.slice sa S.length sc)] : List Value))) rfl H rfl rfl ?_
  intro b2 w3 (H4 : Sat w [restC w (fun _ => False), cellC b2 47 (([(.int .i64 (x.cl)), (.int .i64 (x.seq))] : List Value) ++ hc x.h ++ ([(.int .i64 (x.len)), (.int .i64 (x.sb)), (.int .i64 (x.sm)), (.slice sa S.length sc)] : List Value))] w3)
  refine hK1 _ _ ?_
  clear hK1 K1
  refine wl_pure (wants0 rfl) (d := 2) (v := (.int .u64 (0))) rfl (by kernel_rfl) ?_
  refine w_nil ?_
  refine then_normal ?_
  refine w_seq ?_
  refine w_lit ?_
  refine wl_pure (wants0 rfl) (d := 3) (v := (.slice none 0 0)) rfl (by kernel_rfl) ?_
  refine w_nil ?_
  refine then_normal ?_
  refine w_seq ?_
  refine w_seq ?_
  refine w_lit ?_
  refine wl_pure (wants0 rfl) (d := 8) (v := (.pointer (some ⟨b2, 37, none⟩))) rfl (by kernel_rfl) ?_
  refine wl_pure (wants0 rfl) (d := 9) (v := (.slice sa S.length sc)) rfl (e_load1 rfl (by kernel_rfl) (H4.cell 1 rfl (by kernel_rfl))) ?_
  refine wl_pure (wants0 rfl) (d := 10) (v := (.int .i64 ((S.length : Int)))) rfl (by kernel_rfl) ?_
  refine wl_pure (wants0 rfl) (d := 11) (v := (.int .i64 (0))) rfl (by kernel_rfl) ?_
  refine w_nil ?_
  refine then_normal ?_
  refine w_block ?_
  have H5 := H4.addNil 23 1
  refine wp_round [3, 5, 11, 12, 13, 14, 15, 16, 17, 18, 19, 20] (fun F_ W_ m_ => ∃ (i : Nat) (a : Option Addr) (c : Nat) (D : List Int), F_ 11 = (.int .i64 ((i : Int))) ∧ F_ 3 = (.slice a D.length c) ∧ (i ≤ S.length) ∧ (D = timesD (S.take i)) ∧ Sat w [restC w (fun _ => False), cellC b2 47 (([(.int .i64 (x.cl)), (.int .i64 (x.seq))] : List Value) ++ hc x.h ++ ([(.int .i64 (x.len)), (.int .i64 (x.sb)), (.int .i64 (x.sm)), (.slice sa S.length sc)] : List Value)), rowC 23 1 (.slice a D.length c) D.length (D.flatMap encU)] W_ ∧ m_ = S.length - i) _ ⟨0, none, 0, [], (show ((.int .i64 (0)) : Value) = _ by first | rfl | go_num), (by first | rfl | go_num), (Nat.zero_le _), rfl, H5, rfl⟩ ?_
  rintro g6 w7 _ ⟨i, a, c, D, v9, v10, hi, hD, H8, rfl⟩
  refine wp_know 11 _ v9 ?_
  refine wp_know 3 _ v10 ?_
  have hDl : D.length = i := by rw [hD, times_len, List.length_take]; omega
  refine w_seq ?_
  refine w_lit ?_
  refine wl_pure (wants0 rfl) (d := 12) (v := (.bool (decide ((i : Int) < (S.length : Int))))) rfl (by kernel_rfl) ?_
  refine w_nil ?_
  refine then_normal ?_
  refine w_seq ?_
  refine (bsplit (decide ((i : Int) < (S.length : Int)))).elim (fun b12 => ?_) (fun b12 => ?_)
  · have g13 := of_decide_eq_true b12
    refine wp_know 12 (.bool true) (congrArg Value.bool b12) ?_
    have g14 := of_decide_eq_true b12
    refine wp_ift rfl ?_
    refine w_skip ?_
    refine then_normal ?_
    refine w_seq ?_
    refine w_block ?_
    refine w_seq ?_
    refine w_lit ?_
    obtain ⟨g15, o16, c17, e18, R19⟩ := SliceOf.atD hS stamp0 (show i < S.length by omega)
    refine wl_pure (wants0 rfl) (d := 13) (v := (.pointer (some ⟨g15, o16 + ((i : Int)).toNat * 38, none⟩))) rfl (e_indexAddrW (E := 49) (by kernel_rfl) (by kernel_rfl) (Nat.le_of_ble_eq_true rfl) rfl e18 rfl (by omega) (by omega)) ?_
    refine wl_pure (wants0 rfl) (d := 14) (v := (.agg ⟨(([(.int .i64 ((S.getD i stamp0).r)), (.int .i64 ((S.getD i stamp0).cl)), (.int .i64 ((S.getD i stamp0).seq))] : List Value) ++ hc (S.getD i stamp0).h ++ ([(.int .u64 ((S.getD i stamp0).t)), (.int .i64 ((S.getD i stamp0).sb)), (.int .i64 ((S.getD i stamp0).sm))] : List Value))⟩)) rfl (e_loadRun (vs := (([(.int .i64 ((S.getD i stamp0).r)), (.int .i64 ((S.getD i stamp0).cl)), (.int .i64 ((S.getD i stamp0).seq))] : List Value) ++ hc (S.getD i stamp0).h ++ ([(.int .u64 ((S.getD i stamp0).t)), (.int .i64 ((S.getD i stamp0).sb)), (.int .i64 ((S.getD i stamp0).sm))] : List Value))) rfl (by kernel_rfl) (by kernel_rfl) (Nat.le_of_ble_eq_true (by kernel_rfl)) (H8.runR 0 rfl (cells_run R19 0 (by kernel_rfl) (show o16 + ((i : Int)).toNat * 38 = o16 + i * 38 + 0 by omega)) (fun h => h))) ?_
    refine wl_do (wants0 rfl) (fun K20 hK20 => ?_)
    refine d_alloc (zs := (([(.int .i64 (0)), (.int .i64 (0)), (.int .i64 (0))] : List Value) ++ hc hash0 ++ ([(.int .u64 (0)), (.int .i64 (0)), (.int .i64 (0))] : List Value))) (z := (.agg ⟨(([(.int .i64 (0)), (.int .i64 (0)), (.int .i64 (0))] : List Value) ++ hc hash0 ++ ([(.int .u64 (0)), (.int .i64 (0)), (.int .i64 (0))] : List Value))⟩)) rfl H8 (by kernel_rfl) (by kernel_rfl) ?_
    intro b21 w22 (H23 : Sat w [restC w (fun _ => False), cellC b2 47 (([(.int .i64 (x.cl)), (.int .i64 (x.seq))] : List Value) ++ hc x.h ++ ([(.int .i64 (x.len)), (.int .i64 (x.sb)), (.int .i64 (x.sm)), (.slice sa S.length sc)] : List Value)), rowC 23 1 (.slice a D.length c) D.length (D.flatMap encU), cellC b21 49 (([(.int .i64 (0)), (.int .i64 (0)), (.int .i64 (0))] : List Value) ++ hc hash0 ++ ([(.int .u64 (0)), (.int .i64 (0)), (.int .i64 (0))] : List Value))] w22)
    refine hK20 _ _ ?_
    clear hK20 K20
    refine wl_do (wants0 rfl) (fun K24 hK24 => ?_)
    refine d_storeX (vs := (([(.int .i64 ((S.getD i stamp0).r)), (.int .i64 ((S.getD i stamp0).cl)), (.int .i64 ((S.getD i stamp0).seq))] : List Value) ++ hc (S.getD i stamp0).h ++ ([(.int .u64 ((S.getD i stamp0).t)), (.int .i64 ((S.getD i stamp0).sb)), (.int .i64 ((S.getD i stamp0).sm))] : List Value))) (cs' := (([(.int .i64 ((S.getD i stamp0).r)), (.int .i64 ((S.getD i stamp0).cl)), (.int .i64 ((S.getD i stamp0).seq))] : List Value) ++ hc (S.getD i stamp0).h ++ ([(.int .u64 ((S.getD i stamp0).t)), (.int .i64 ((S.getD i stamp0).sb)), (.int .i64 ((S.getD i stamp0).sm))] : List Value))) rfl H23 3 rfl rfl rfl rfl (by kernel_rfl) (Nat.le_of_ble_eq_true (by kernel_rfl)) (Nat.le_of_ble_eq_true (by kernel_rfl)) (by kernel_rfl) (by kernel_rfl) ?_
    intro w25 (H26 : Sat w [restC w (fun _ => False), cellC b2 47 (([(.int .i64 (x.cl)), (.int .i64 (x.seq))] : List Value) ++ hc x.h ++ ([(.int .i64 (x.len)), (.int .i64 (x.sb)), (.int .i64 (x.sm)), (.slice sa S.length sc)] : List Value)), rowC 23 1 (.slice a D.length c) D.length (D.flatMap encU), cellC b21 49 (([(.int .i64 ((S.getD i stamp0).r)), (.int .i64 ((S.getD i stamp0).cl)), (.int .i64 ((S.getD i stamp0).seq))] : List Value) ++ hc (S.getD i stamp0).h ++ ([(.int .u64 ((S.getD i stamp0).t)), (.int .i64 ((S.getD i stamp0).sb)), (.int .i64 ((S.getD i stamp0).sm))] : List Value))] w25)
    refine hK24 _ _ ?_
    clear hK24 K24
    refine w_nil ?_
    refine then_normal ?_
    refine w_lit ?_
    refine wl_pure (wants0 rfl) (d := 15) (v := (.slice a D.length c)) rfl (by kernel_rfl) ?_
    refine wl_pure (wants0 rfl) (d := 16) (v := (.pointer (some ⟨b21, 35, none⟩))) rfl (by kernel_rfl) ?_
    refine wl_pure (wants0 rfl) (d := 17) (v := (.int .u64 ((S.getD i stamp0).t))) rfl (e_load1 rfl (by kernel_rfl) (H26.cell 3 rfl (by kernel_rfl))) ?_
    refine wl_do (wants0 rfl) (fun K28 hK28 => ?_)
    refine d_buildSlice (e := 23) (size := 1) (bytes := 8) (z := (.int .u64 (0))) (pvs := [(0, (.int .u64 ((S.getD i stamp0).t)))]) (vs := ([(.int .u64 ((S.getD i stamp0).t))] : List Value)) rfl H26 (by kernel_rfl) (by kernel_rfl) (by kernel_rfl) (by kernel_rfl) (by kernel_rfl) rfl rfl ?_
    intro b29 w30 (H31 : Sat w [restC w (fun _ => False), cellC b2 47 (([(.int .i64 (x.cl)), (.int .i64 (x.seq))] : List Value) ++ hc x.h ++ ([(.int .i64 (x.len)), (.int .i64 (x.sb)), (.int .i64 (x.sm)), (.slice sa S.length sc)] : List Value)), rowC 23 1 (.slice a D.length c) D.length (D.flatMap encU), cellC b21 49 (([(.int .i64 ((S.getD i stamp0).r)), (.int .i64 ((S.getD i stamp0).cl)), (.int .i64 ((S.getD i stamp0).seq))] : List Value) ++ hc (S.getD i stamp0).h ++ ([(.int .u64 ((S.getD i stamp0).t)), (.int .i64 ((S.getD i stamp0).sb)), (.int .i64 ((S.getD i stamp0).sm))] : List Value)), rowC 23 1 (.slice (some ⟨b29, 0, none⟩) 1 1) 1 ([(.int .u64 ((S.getD i stamp0).t))] : List Value)] w30)
    have H32 : Sat w [restC w (fun _ => False), cellC b2 47 (([(.int .i64 (x.cl)), (.int .i64 (x.seq))] : List Value) ++ hc x.h ++ ([(.int .i64 (x.len)), (.int .i64 (x.sb)), (.int .i64 (x.sm)), (.slice sa S.length sc)] : List Value)), rowC 23 1 (.slice a D.length c) D.length (D.flatMap encU), cellC b21 49 (([(.int .i64 ((S.getD i stamp0).r)), (.int .i64 ((S.getD i stamp0).cl)), (.int .i64 ((S.getD i stamp0).seq))] : List Value) ++ hc (S.getD i stamp0).h ++ ([(.int .u64 ((S.getD i stamp0).t)), (.int .i64 ((S.getD i stamp0).sb)), (.int .i64 ((S.getD i stamp0).sm))] : List Value)), rowC 23 1 (.slice (some ⟨b29, 0, none⟩) 1 1) 1 ([(S.getD i stamp0).t].flatMap encU)] w30 := H31.cast (by rw [show (([(.int .u64 ((S.getD i stamp0).t))] : List Value) : List Value) = [(S.getD i stamp0).t].flatMap encU from rfl])
    refine hK28 _ _ ?_
    clear hK28 K28
    refine wl_do (wants0 rfl) (fun K33 hK33 => ?_)
    refine d_append (T := 22) (e := 23) (size := 1) (bytes := 8) rfl H32 (by kernel_rfl) 2 4 rfl rfl rfl rfl (flat_one encU encU_one [(S.getD i stamp0).t]) (by omega) (by omega) ?_
    intro v34 w35 (H36 : Sat w [restC w (fun _ => False), cellC b2 47 (([(.int .i64 (x.cl)), (.int .i64 (x.seq))] : List Value) ++ hc x.h ++ ([(.int .i64 (x.len)), (.int .i64 (x.sb)), (.int .i64 (x.sm)), (.slice sa S.length sc)] : List Value)), rowC 23 1 v34 (D.length + 1) ((D.flatMap encU) ++ ([(S.getD i stamp0).t].flatMap encU)), cellC b21 49 (([(.int .i64 ((S.getD i stamp0).r)), (.int .i64 ((S.getD i stamp0).cl)), (.int .i64 ((S.getD i stamp0).seq))] : List Value) ++ hc (S.getD i stamp0).h ++ ([(.int .u64 ((S.getD i stamp0).t)), (.int .i64 ((S.getD i stamp0).sb)), (.int .i64 ((S.getD i stamp0).sm))] : List Value)), rowC 23 1 (.slice (some ⟨b29, 0, none⟩) 1 1) 1 ([(S.getD i stamp0).t].flatMap encU)] w35)
    have H39 : Sat w [restC w (fun _ => False), cellC b2 47 (([(.int .i64 (x.cl)), (.int .i64 (x.seq))] : List Value) ++ hc x.h ++ ([(.int .i64 (x.len)), (.int .i64 (x.sb)), (.int .i64 (x.sm)), (.slice sa S.length sc)] : List Value)), rowC 23 1 v34 ((D ++ [(S.getD i stamp0).t]).length) ((D ++ [(S.getD i stamp0).t]).flatMap encU), cellC b21 49 (([(.int .i64 ((S.getD i stamp0).r)), (.int .i64 ((S.getD i stamp0).cl)), (.int .i64 ((S.getD i stamp0).seq))] : List Value) ++ hc (S.getD i stamp0).h ++ ([(.int .u64 ((S.getD i stamp0).t)), (.int .i64 ((S.getD i stamp0).sb)), (.int .i64 ((S.getD i stamp0).sm))] : List Value)), rowC 23 1 (.slice (some ⟨b29, 0, none⟩) 1 1) 1 ([(S.getD i stamp0).t].flatMap encU)] w35 := H36.cast (by simp only [List.length_append, List.flatMap_append] <;> rfl)
    obtain ⟨a37, c38, rfl⟩ := ownsRow_shape (H39.at 2 rfl)
    refine hK33 _ _ ?_
    clear hK33 K33
    refine wl_pure (wants0 rfl) (d := 3) (v := (.slice a37 ((D ++ [(S.getD i stamp0).t]).length) c38)) rfl (by kernel_rfl) ?_
    refine w_nil ?_
    refine blk_normal ?_
    refine then_normal ?_
    refine w_lit ?_
    refine wl_pure (wants0 rfl) (d := 20) (v := (.int .i64 ((i : Int) + 1))) rfl (e_int (z := (i : Int) + 1) (by kernel_rfl) (IntWalk.i64_in _ (by omega))) ?_
    refine wl_pure (wants0 rfl) (d := 11) (v := (.int .i64 ((i : Int) + 1))) rfl (by kernel_rfl) ?_
    refine w_nil ?_
    have hDl : D.length = i := by rw [hD, times_len, List.length_take]; omega
    have H40 : Sat w [restC w (fun _ => False), cellC b2 47 (([(.int .i64 (x.cl)), (.int .i64 (x.seq))] : List Value) ++ hc x.h ++ ([(.int .i64 (x.len)), (.int .i64 (x.sb)), (.int .i64 (x.sm)), (.slice sa S.length sc)] : List Value)), rowC 23 1 (.slice a37 ((D ++ [(S.getD i stamp0).t]).length) c38) ((D ++ [(S.getD i stamp0).t]).length) ((D ++ [(S.getD i stamp0).t]).flatMap encU)] w35 := H39.pick [0, 1, 2] (by decide)
    refine round_back ?_ _ ⟨(i + 1), a37, c38, (D ++ [(S.getD i stamp0).t]), (show ((.int .i64 ((i : Int) + 1)) : Value) = _ by first | rfl | go_num), (show ((.slice a37 ((D ++ [(S.getD i stamp0).t]).length) c38) : Value) = _ by first | rfl | go_num), (by omega), (by rw [hD, times_step S (by omega)]), H40, rfl⟩ (by omega)
    exact (same_upd rfl (same_upd rfl (same_upd rfl (same_upd rfl (same_upd rfl (same_upd rfl (same_upd rfl (same_upd rfl (same_upd rfl (same_upd rfl (same_upd rfl (same_upd rfl (same_upd rfl (same_upd rfl (same_upd rfl (same_ovr))))))))))))))))
  · have g41 := of_decide_eq_false b12
    refine wp_know 12 (.bool false) (congrArg Value.bool b12) ?_
    have g42 := of_decide_eq_false b12
    refine wp_iff rfl ?_
    refine w_exit ?_
    refine then_exit ?_
    refine back_exit ?_
    refine blk_hit ?_
    refine then_normal ?_
    refine w_seq ?_
    refine w_lit ?_
    refine wl_pure (wants0 rfl) (d := 22) (v := (.slice a D.length c)) rfl (by kernel_rfl) ?_
    refine wl_do (wants0 rfl) (fun K43 hK43 => ?_)
    refine d_call (d := 23) rfl (by kernel_rfl) (medC_any w7 (.slice a D.length c) D (ListAt.row (enc := encU) (sz := 1) encU_len (by decide) (H8.at 2 rfl)) (by omega)) ?_
    rintro _ w44 ⟨rfl, u46⟩
    have H45 := H8.keepU u46
    refine ⟨_, rfl, ?_⟩
    refine hK43 _ _ ?_
    clear hK43 K43
    refine wl_pure (wants0 rfl) (d := 21) (v := (.tuple #[(.int .u64 (medV D)), (.bool (decide (D.length % 2 = 1)))])) rfl (by kernel_rfl) ?_
    refine wl_pure (wants0 rfl) (d := 24) (v := (.int .u64 (medV D))) rfl (by kernel_rfl) ?_
    refine wl_pure (wants0 rfl) (d := 25) (v := (.bool (decide (D.length % 2 = 1)))) rfl (by kernel_rfl) ?_
    refine wl_pure (wants0 rfl) (d := 6) (v := (.int .u64 (medV D))) rfl (by kernel_rfl) ?_
    refine wl_pure (wants0 rfl) (d := 7) (v := (.bool (decide (D.length % 2 = 1)))) rfl (by kernel_rfl) ?_
    refine w_nil ?_
    refine then_normal ?_
    refine w_seq ?_
    refine w_lit ?_
    refine wl_pure (wants0 rfl) (d := 26) (v := (.int .u64 (medV D))) rfl (by kernel_rfl) ?_
    refine wl_pure (wants0 rfl) (d := 2) (v := (.int .u64 (medV D))) rfl (by kernel_rfl) ?_
    refine w_nil ?_
    refine then_normal ?_
    refine w_ret ?_
    refine end1 rfl (res_tmp (v := (.int .u64 (medV D))) rfl) ?_
    have hT : D = timesD S := by rw [hD, List.take_of_length_le (by omega)]
    exact ⟨by unfold timeD; rw [← hT], H45.upd 0 rfl [] (fun _ h => h.elim)⟩

end Go.Proofs.Ytbpeofcoceaahaa
