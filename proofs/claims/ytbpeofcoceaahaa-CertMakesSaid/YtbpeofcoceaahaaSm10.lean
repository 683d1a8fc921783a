/- WHAT IS PROVED: when certificates are the same: contracts. Conditions: stated with each. -/
import Derived.Test.YtbpeofcoceaahaaCmp10
import Derived.Test.YtbpeofcoceaahaaSz10
namespace Go.Proofs.Ytbpeofcoceaahaa
open Go.RowKit

theorem take_eqS {xs ys : List StampD} {i : Nat} (h : xs.take i = ys.take i) (h1 : i < xs.length) (h2 : i < ys.length) (e : xs.getD i stamp0 = ys.getD i stamp0) : xs.take (i + 1) = ys.take (i + 1) := by
  rw [List.getD_eq_getElem?_getD, List.getElem?_eq_getElem h1, List.getD_eq_getElem?_getD, List.getElem?_eq_getElem h2] at e
  rw [List.take_add_one, List.take_add_one, h, List.getElem?_eq_getElem h1, List.getElem?_eq_getElem h2]
  simp only [Option.getD_some] at e
  rw [e]

set_option maxRecDepth 100000 in
set_option maxHeartbeats 400000 in
theorem sameS_any0 (w : World) (sa : Option Addr) (sc : Nat) (S : List StampD) (hS : ListAt encSt 38 w (.slice sa S.length sc) S) (hlS : S.length ≤ 1000000) (ua : Option Addr) (uc : Nat) (T : List StampD) (hT : ListAt encSt 38 w (.slice ua T.length uc) T) :
    Calls Try.prog 56 #[(.slice sa S.length sc), (.slice ua T.length uc)] w fun e w' => e = .returned (.bool (decide (S = T))) ∧ Upd [] w w' := by
  have H := Sat.start0 w
  refine calls_fr Try.func56 rfl 26 rfl (Nat.le_of_ble_eq_true rfl) ?_
  refine w_seq ?_
  refine w_lit ?_
  refine wl_pure (wants0 rfl) (d := 4) (v := (.bool false)) rfl (by kernel_rfl) ?_
  refine w_nil ?_
  refine then_normal ?_
  refine w_seq ?_
  refine w_seq ?_
  refine w_lit ?_
  refine wl_pure (wants0 rfl) (d := 6) (v := (.slice sa S.length sc)) rfl (by kernel_rfl) ?_
  refine wl_pure (wants0 rfl) (d := 7) (v := (.int .i64 ((S.length : Int)))) rfl (by kernel_rfl) ?_
  refine wl_pure (wants0 rfl) (d := 8) (v := (.slice ua T.length uc)) rfl (by kernel_rfl) ?_
  refine wl_pure (wants0 rfl) (d := 9) (v := (.int .i64 ((T.length : Int)))) rfl (by kernel_rfl) ?_
  refine wl_pure (wants0 rfl) (d := 10) (v := (.bool (!(decide ((S.length : Int) = (T.length : Int)))))) rfl (by kernel_rfl) ?_
  refine w_nil ?_
  refine then_normal ?_
  refine (bsplit (!(decide ((S.length : Int) = (T.length : Int))))).elim (fun b1 => ?_) (fun b1 => ?_)
  · have g2 := bnot_true b1
    have g3 := of_decide_eq_false g2
    refine wp_know 10 (.bool true) (congrArg Value.bool b1) ?_
    have g4 := bnot_true b1
    have g5 := of_decide_eq_false g4
    refine wp_ift rfl ?_
    refine w_seq ?_
    refine w_lit ?_
    refine wl_pure (wants0 rfl) (d := 4) (v := (.bool false)) rfl (by kernel_rfl) ?_
    refine w_nil ?_
    refine then_normal ?_
    refine w_ret ?_
    refine then_ret ?_
    refine end1 rfl (res_tmp (v := (.bool false)) rfl) ?_
    exact ⟨by rw [decide_eq_false (fun e => by have q := b1; simp [e] at q)], H.upd 0 rfl [] (fun _ h => h.elim)⟩
  · have g6 := bnot_false b1
    have g7 := of_decide_eq_true g6
    refine wp_know 10 (.bool false) (congrArg Value.bool b1) ?_
    have g8 := bnot_false b1
    have g9 := of_decide_eq_true g8
    refine wp_iff rfl ?_
    refine w_skip ?_
    refine then_normal ?_
    refine w_seq ?_
    refine w_seq ?_
    have hlen : S.length = T.length := by have q := b1; simp at q; omega
    refine w_lit ?_
    refine wl_pure (wants0 rfl) (d := 5) (v := (.int .i64 (0))) rfl (by kernel_rfl) ?_
    refine w_nil ?_
    refine then_normal ?_
    refine w_block ?_
    refine wp_round [4, 5, 11, 12, 13, 14, 15, 16, 17, 18, 19, 20, 21, 22, 23, 24, 25] (fun F_ W_ m_ => ∃ (i : Nat), F_ 5 = (.int .i64 ((i : Int))) ∧ (i ≤ S.length) ∧ (S.take i = T.take i) ∧ Sat w [restC w (fun _ => False)] W_ ∧ m_ = S.length + 1 - i) _ ⟨0, (show ((.int .i64 (0)) : Value) = _ by first | rfl | go_num), by omega, by simp, H, rfl⟩ ?_
    rintro g10 w11 _ ⟨i, v13, hi, hse, H12, rfl⟩
    refine wp_know 5 _ v13 ?_
    refine w_seq ?_
    refine w_seq ?_
    refine w_lit ?_
    refine wl_pure (wants0 rfl) (d := 11) (v := (.int .i64 ((i : Int)))) rfl (by kernel_rfl) ?_
    refine wl_pure (wants0 rfl) (d := 12) (v := (.slice sa S.length sc)) rfl (by kernel_rfl) ?_
    refine wl_pure (wants0 rfl) (d := 13) (v := (.int .i64 ((S.length : Int)))) rfl (by kernel_rfl) ?_
    refine wl_pure (wants0 rfl) (d := 14) (v := (.bool (decide ((i : Int) < (S.length : Int))))) rfl (by kernel_rfl) ?_
    refine w_nil ?_
    refine then_normal ?_
    refine (bsplit (decide ((i : Int) < (S.length : Int)))).elim (fun b15 => ?_) (fun b15 => ?_)
    · have g16 := of_decide_eq_true b15
      refine wp_know 14 (.bool true) (congrArg Value.bool b15) ?_
      have g17 := of_decide_eq_true b15
      refine wp_ift rfl ?_
      refine w_skip ?_
      refine then_normal ?_
      refine w_seq ?_
      refine w_block ?_
      refine w_seq ?_
      refine q_start H12 (by kernel_rfl) (by kernel_rfl) ?_
      refine q_val (wants0 rfl) (d := 17) (v := (.slice sa S.length sc)) rfl (fun _ H' => (by kernel_rfl)) ?_
      refine q_val (wants0 rfl) (d := 18) (v := (.int .i64 ((i : Int)))) rfl (fun _ H' => (by kernel_rfl)) ?_
      obtain ⟨g18, o19, c20, e21, R22⟩ := SliceOf.atD hS stamp0 (show i < S.length by omega)
      refine q_val (wants0 rfl) (d := 19) (v := (.pointer (some ⟨g18, o19 + ((i : Int)).toNat * 38, none⟩))) rfl (fun _ H' => (e_indexAddrW (E := 49) (by kernel_rfl) (by kernel_rfl) (Nat.le_of_ble_eq_true rfl) rfl e21 rfl (by omega) (by omega))) ?_
      refine q_val (wants0 rfl) (d := 20) (v := (.agg ⟨(([(.int .i64 ((S.getD i stamp0).r)), (.int .i64 ((S.getD i stamp0).cl)), (.int .i64 ((S.getD i stamp0).seq))] : List Value) ++ hc (S.getD i stamp0).h ++ ([(.int .u64 ((S.getD i stamp0).t)), (.int .i64 ((S.getD i stamp0).sb)), (.int .i64 ((S.getD i stamp0).sm))] : List Value))⟩)) rfl (fun _ H' => (e_loadRun (vs := (([(.int .i64 ((S.getD i stamp0).r)), (.int .i64 ((S.getD i stamp0).cl)), (.int .i64 ((S.getD i stamp0).seq))] : List Value) ++ hc (S.getD i stamp0).h ++ ([(.int .u64 ((S.getD i stamp0).t)), (.int .i64 ((S.getD i stamp0).sb)), (.int .i64 ((S.getD i stamp0).sm))] : List Value))) rfl (by kernel_rfl) (by kernel_rfl) (Nat.le_of_ble_eq_true (by kernel_rfl)) (H'.runR 0 rfl (cells_run R22 0 (by kernel_rfl) (show o19 + ((i : Int)).toNat * 38 = o19 + i * 38 + 0 by omega)) (fun h => h)))) ?_
      refine q_val (wants0 rfl) (d := 21) (v := (.slice ua T.length uc)) rfl (fun _ H' => (by kernel_rfl)) ?_
      refine q_val (wants0 rfl) (d := 22) (v := (.int .i64 ((i : Int)))) rfl (fun _ H' => (by kernel_rfl)) ?_
      obtain ⟨g23, o24, c25, e26, R27⟩ := SliceOf.atD hT stamp0 (show i < T.length by omega)
      refine q_val (wants0 rfl) (d := 23) (v := (.pointer (some ⟨g23, o24 + ((i : Int)).toNat * 38, none⟩))) rfl (fun _ H' => (e_indexAddrW (E := 49) (by kernel_rfl) (by kernel_rfl) (Nat.le_of_ble_eq_true rfl) rfl e26 rfl (by omega) (by omega))) ?_
      refine q_val (wants0 rfl) (d := 24) (v := (.agg ⟨(([(.int .i64 ((T.getD i stamp0).r)), (.int .i64 ((T.getD i stamp0).cl)), (.int .i64 ((T.getD i stamp0).seq))] : List Value) ++ hc (T.getD i stamp0).h ++ ([(.int .u64 ((T.getD i stamp0).t)), (.int .i64 ((T.getD i stamp0).sb)), (.int .i64 ((T.getD i stamp0).sm))] : List Value))⟩)) rfl (fun _ H' => (e_loadRun (vs := (([(.int .i64 ((T.getD i stamp0).r)), (.int .i64 ((T.getD i stamp0).cl)), (.int .i64 ((T.getD i stamp0).seq))] : List Value) ++ hc (T.getD i stamp0).h ++ ([(.int .u64 ((T.getD i stamp0).t)), (.int .i64 ((T.getD i stamp0).sb)), (.int .i64 ((T.getD i stamp0).sm))] : List Value))) rfl (by kernel_rfl) (by kernel_rfl) (Nat.le_of_ble_eq_true (by kernel_rfl)) (H'.runR 0 rfl (cells_run R27 0 (by kernel_rfl) (show o24 + ((i : Int)).toNat * 38 = o24 + i * 38 + 0 by omega)) (fun h => h)))) ?_
      refine q_val (wants0 rfl) (d := 25) (v := (.bool (!(decide ((S.getD i stamp0) = (T.getD i stamp0)))))) rfl (fun _ H' => (stampF.e_ne (S.getD i stamp0) (T.getD i stamp0) rfl rfl)) ?_
      refine q_end ?_
      intro w28 H29
      refine then_normal ?_
      refine (bsplit (!(decide ((S.getD i stamp0) = (T.getD i stamp0))))).elim (fun b30 => ?_) (fun b30 => ?_)
      · have g31 := bnot_true b30
        have g32 := of_decide_eq_false g31
        refine wp_know 25 (.bool true) (congrArg Value.bool b30) ?_
        have g33 := bnot_true b30
        have g34 := of_decide_eq_false g33
        refine wp_ift rfl ?_
        refine w_seq ?_
        refine w_lit ?_
        refine wl_pure (wants0 rfl) (d := 4) (v := (.bool false)) rfl (by kernel_rfl) ?_
        refine w_nil ?_
        refine then_normal ?_
        refine w_ret ?_
        refine blk_ret ?_
        refine then_ret ?_
        refine back_ret ?_
        refine blk_ret ?_
        refine then_ret ?_
        refine end1 rfl (res_tmp (v := (.bool false)) rfl) ?_
        exact ⟨by rw [decide_eq_false (fun e => by rw [e] at b30; simp at b30)], H29.upd 0 rfl [] (fun _ h => h.elim)⟩
      · have g35 := bnot_false b30
        have g36 := of_decide_eq_true g35
        refine wp_know 25 (.bool false) (congrArg Value.bool b30) ?_
        have g37 := bnot_false b30
        have g38 := of_decide_eq_true g37
        refine wp_iff rfl ?_
        refine w_skip ?_
        refine blk_normal ?_
        refine then_normal ?_
        refine w_lit ?_
        refine wl_pure (wants0 rfl) (d := 15) (v := (.int .i64 ((i : Int)))) rfl (by kernel_rfl) ?_
        refine wl_pure (wants0 rfl) (d := 16) (v := (.int .i64 ((i : Int) + 1))) rfl (e_int (z := (i : Int) + 1) (by kernel_rfl) (IntWalk.i64_in _ (by omega))) ?_
        refine wl_pure (wants0 rfl) (d := 5) (v := (.int .i64 ((i : Int) + 1))) rfl (by kernel_rfl) ?_
        refine w_nil ?_
        refine round_back ?_ _ ⟨(i + 1), (show ((.int .i64 ((i : Int) + 1)) : Value) = _ by first | rfl | go_num), by omega, take_eqS hse (by omega) (by omega) (of_decide_eq_true (bnot_false b30)), H29, rfl⟩ (by omega)
        exact (same_upd rfl (same_upd rfl (same_upd rfl (same_upd rfl (same_upd rfl (same_upd rfl (same_upd rfl (same_upd rfl (same_upd rfl (same_upd rfl (same_upd rfl (same_upd rfl (same_upd rfl (same_upd rfl (same_upd rfl (same_upd rfl (same_upd rfl (same_upd rfl (same_upd rfl (same_ovr))))))))))))))))))))
    · have g39 := of_decide_eq_false b15
      refine wp_know 14 (.bool false) (congrArg Value.bool b15) ?_
      have g40 := of_decide_eq_false b15
      refine wp_iff rfl ?_
      refine w_exit ?_
      refine then_exit ?_
      refine back_exit ?_
      refine blk_hit ?_
      refine then_normal ?_
      refine w_seq ?_
      refine w_lit ?_
      refine wl_pure (wants0 rfl) (d := 4) (v := (.bool true)) rfl (by kernel_rfl) ?_
      refine w_nil ?_
      refine then_normal ?_
      refine w_ret ?_
      refine end1 rfl (res_tmp (v := (.bool true)) rfl) ?_
      exact ⟨by rw [decide_eq_true (show S = T by rw [← List.take_of_length_le (show S.length ≤ i by omega), hse, List.take_of_length_le (by omega)])], H12.upd 0 rfl [] (fun _ h => h.elim)⟩
theorem sameS_any (w : World) (v u : Value) (S T : List StampD) (hS : ListAt encSt 38 w v S) (hT : ListAt encSt 38 w u T) (hlS : S.length ≤ 1000000) : Calls Try.prog 56 #[v, u] w fun e w' => e = .returned (.bool (decide (S = T))) ∧ Upd [] w w' := by
  obtain ⟨a, c, rfl⟩ := SliceOf.len hS
  obtain ⟨a2, c2, rfl⟩ := SliceOf.len hT
  exact sameS_any0 w a c S hS hlS a2 c2 T hT

set_option maxRecDepth 100000 in
set_option maxHeartbeats 400000 in
theorem certEq_any (w : World) (x y : CommitD) (v u : Value) (S T : List StampD) (hS : ListAt encSt 38 w v S) (hT : ListAt encSt 38 w u T) (hlS : S.length ≤ 1000000) :
    Calls Try.prog 33 #[(.agg ⟨(([(.int .i64 (x.cl)), (.int .i64 (x.seq))] : List Value) ++ hc x.h ++ ([(.int .i64 (x.len)), (.int .i64 (x.sb)), (.int .i64 (x.sm)), v] : List Value))⟩), (.agg ⟨(([(.int .i64 (y.cl)), (.int .i64 (y.seq))] : List Value) ++ hc y.h ++ ([(.int .i64 (y.len)), (.int .i64 (y.sb)), (.int .i64 (y.sm)), u] : List Value))⟩)] w fun e w' => e = .returned (.bool (decide (x = y) && decide (S = T))) ∧ Upd [] w w' := by
  have H := Sat.start0 w
  refine calls_fr Try.func33 rfl 17 rfl (Nat.le_of_ble_eq_true rfl) ?_
  refine w_seq ?_
  refine w_lit ?_
  refine wl_do (wants0 rfl) (fun K1 hK1 => ?_)
  refine d_box (vs := (([(.int .i64 (x.cl)), (.int .i64 (x.seq))] : List Value) ++ hc x.h ++ ([(.int .i64 (x.len)), (.int .i64 (x.sb)), (.int .i64 (x.sm)), v] : List Value))) rfl H rfl rfl ?_
  intro b2 w3 (H4 : Sat w [restC w (fun _ => False), cellC b2 47 (([(.int .i64 (x.cl)), (.int .i64 (x.seq))] : List Value) ++ hc x.h ++ ([(.int .i64 (x.len)), (.int .i64 (x.sb)), (.int .i64 (x.sm)), v] : List Value))] w3)
  refine hK1 _ _ ?_
  clear hK1 K1
  refine wl_do (wants0 rfl) (fun K5 hK5 => ?_)
  refine d_box (vs := (([(.int .i64 (y.cl)), (.int .i64 (y.seq))] : List Value) ++ hc y.h ++ ([(.int .i64 (y.len)), (.int .i64 (y.sb)), (.int .i64 (y.sm)), u] : List Value))) rfl H4 rfl rfl ?_
  intro b6 w7 (H8 : Sat w [restC w (fun _ => False), cellC b2 47 (([(.int .i64 (x.cl)), (.int .i64 (x.seq))] : List Value) ++ hc x.h ++ ([(.int .i64 (x.len)), (.int .i64 (x.sb)), (.int .i64 (x.sm)), v] : List Value)), cellC b6 47 (([(.int .i64 (y.cl)), (.int .i64 (y.seq))] : List Value) ++ hc y.h ++ ([(.int .i64 (y.len)), (.int .i64 (y.sb)), (.int .i64 (y.sm)), u] : List Value))] w7)
  refine hK5 _ _ ?_
  clear hK5 K5
  refine wl_pure (wants0 rfl) (d := 4) (v := (.bool false)) rfl (by kernel_rfl) ?_
  refine w_nil ?_
  refine then_normal ?_
  refine wp_meetR [4, 5, 6, 7, 8, 9, 10, 11, 12, 13, 14, 15, 16] (fun G_ W_ => G_ 4 = (.bool (decide (x = y) && decide (S = T))) ∧ Sat w [restC w (fun _ => False), cellC b2 47 (([(.int .i64 (x.cl)), (.int .i64 (x.seq))] : List Value) ++ hc x.h ++ ([(.int .i64 (x.len)), (.int .i64 (x.sb)), (.int .i64 (x.sm)), v] : List Value)), cellC b6 47 (([(.int .i64 (y.cl)), (.int .i64 (y.seq))] : List Value) ++ hc y.h ++ ([(.int .i64 (y.len)), (.int .i64 (y.sb)), (.int .i64 (y.sm)), u] : List Value))] W_) ?_ ?_
  · refine w_lit ?_
    refine wl_pure (wants0 rfl) (d := 5) (v := (.pointer (some ⟨b2, 0, none⟩))) rfl (by kernel_rfl) ?_
    refine wl_pure (wants0 rfl) (d := 6) (v := (.agg ⟨(([(.int .i64 (x.cl)), (.int .i64 (x.seq))] : List Value) ++ hc x.h ++ ([(.int .i64 (x.len)), (.int .i64 (x.sb)), (.int .i64 (x.sm))] : List Value))⟩)) rfl (e_loadN (vs := (([(.int .i64 (x.cl)), (.int .i64 (x.seq))] : List Value) ++ hc x.h ++ ([(.int .i64 (x.len)), (.int .i64 (x.sb)), (.int .i64 (x.sm))] : List Value))) rfl (by kernel_rfl) (by kernel_rfl) (by exact Nat.le_of_ble_eq_true (by kernel_rfl)) (H8.at 1 rfl) (by kernel_rfl)) ?_
    refine wl_pure (wants0 rfl) (d := 7) (v := (.pointer (some ⟨b6, 0, none⟩))) rfl (by kernel_rfl) ?_
    refine wl_pure (wants0 rfl) (d := 8) (v := (.agg ⟨(([(.int .i64 (y.cl)), (.int .i64 (y.seq))] : List Value) ++ hc y.h ++ ([(.int .i64 (y.len)), (.int .i64 (y.sb)), (.int .i64 (y.sm))] : List Value))⟩)) rfl (e_loadN (vs := (([(.int .i64 (y.cl)), (.int .i64 (y.seq))] : List Value) ++ hc y.h ++ ([(.int .i64 (y.len)), (.int .i64 (y.sb)), (.int .i64 (y.sm))] : List Value))) rfl (by kernel_rfl) (by kernel_rfl) (by exact Nat.le_of_ble_eq_true (by kernel_rfl)) (H8.at 2 rfl) (by kernel_rfl)) ?_
    refine wl_pure (wants0 rfl) (d := 9) (v := (.bool (decide (x = y)))) rfl (commitF.e_eq x y rfl rfl) ?_
    refine wl_pure (wants0 rfl) (d := 10) (v := (.bool (decide (x = y)))) rfl (by kernel_rfl) ?_
    refine (bsplit (decide (x = y))).elim (fun b10 => ?_) (fun b10 => ?_)
    · have g11 := of_decide_eq_true b10
      refine wl_know 10 (.bool true) (congrArg Value.bool b10) ?_
      refine wl_pure (wantsY 5 10 true rfl (by kernel_rfl) rfl (by kernel_rfl)) (d := 11) (v := (.pointer (some ⟨b2, 37, none⟩))) rfl (by kernel_rfl) ?_
      refine wl_pure (wantsY 5 10 true rfl (by kernel_rfl) rfl (by kernel_rfl)) (d := 12) (v := v) rfl (e_load1 rfl (by kernel_rfl) (H8.cell 1 rfl (by kernel_rfl))) ?_
      refine wl_pure (wantsY 5 10 true rfl (by kernel_rfl) rfl (by kernel_rfl)) (d := 13) (v := (.pointer (some ⟨b6, 37, none⟩))) rfl (by kernel_rfl) ?_
      refine wl_pure (wantsY 5 10 true rfl (by kernel_rfl) rfl (by kernel_rfl)) (d := 14) (v := u) rfl (e_load1 rfl (by kernel_rfl) (H8.cell 2 rfl (by kernel_rfl))) ?_
      refine wl_do (wantsY 5 10 true rfl (by kernel_rfl) rfl (by kernel_rfl)) (fun K12 hK12 => ?_)
      refine d_call (d := 15) rfl (by kernel_rfl) (sameS_any w7 v u S T (ListAt.now H8 0 rfl hS) (ListAt.now H8 0 rfl hT) hlS) ?_
      rintro _ w13 ⟨rfl, u15⟩
      have H14 := H8.keepU u15
      refine ⟨_, rfl, ?_⟩
      refine hK12 _ _ ?_
      clear hK12 K12
      refine wl_pure (wants0 rfl) (d := 16) (v := (.bool (decide (S = T)))) rfl (by kernel_rfl) ?_
      refine wl_pure (wants0 rfl) (d := 4) (v := (.bool (decide (S = T)))) rfl (by kernel_rfl) ?_
      refine w_nil ?_
      refine meetR_at ?_ ⟨(congrArg Value.bool (show (decide (S = T)) = (decide (x = y) && decide (S = T)) by simp only [b10, Bool.true_and])), H14⟩
      exact (same_upd rfl (same_upd rfl (same_upd rfl (same_upd rfl (same_upd rfl (same_upd rfl (same_upd rfl (same_upd rfl (same_upd rfl (same_upd rfl (same_upd rfl (same_upd rfl (same_upd rfl (same_upd rfl (same_refl)))))))))))))))
    · have g16 := of_decide_eq_false b10
      refine wl_know 10 (.bool false) (congrArg Value.bool b10) ?_
      refine wl_pass (wantsN 5 10 true rfl (by kernel_rfl) rfl (by kernel_rfl)) rfl ?_
      refine wl_pass (wantsN 5 10 true rfl (by kernel_rfl) rfl (by kernel_rfl)) rfl ?_
      refine wl_pass (wantsN 5 10 true rfl (by kernel_rfl) rfl (by kernel_rfl)) rfl ?_
      refine wl_pass (wantsN 5 10 true rfl (by kernel_rfl) rfl (by kernel_rfl)) rfl ?_
      refine wl_pass (wantsN 5 10 true rfl (by kernel_rfl) rfl (by kernel_rfl)) rfl ?_
      refine wl_pure (wants0 rfl) (d := 16) (v := (.bool false)) rfl (by kernel_rfl) ?_
      refine wl_pure (wants0 rfl) (d := 4) (v := (.bool false)) rfl (by kernel_rfl) ?_
      refine w_nil ?_
      refine meetR_at ?_ ⟨(congrArg Value.bool (show false = (decide (x = y) && decide (S = T)) by simp only [b10, Bool.false_and])), H8⟩
      exact (same_upd rfl (same_upd rfl (same_upd rfl (same_upd rfl (same_upd rfl (same_upd rfl (same_upd rfl (same_upd rfl (same_upd rfl (same_upd rfl (same_upd rfl (same_upd rfl (same_upd rfl (same_upd rfl (same_refl)))))))))))))))
  · rintro f17 w18 ⟨v20, H19⟩
    refine wp_know 4 _ v20 ?_
    refine w_ret ?_
    refine end1 rfl (res_tmp (v := (.bool (decide (x = y) && decide (S = T)))) rfl) ?_
    exact ⟨rfl, H19.upd 0 rfl [] (fun _ h => h.elim)⟩

end Go.Proofs.Ytbpeofcoceaahaa
