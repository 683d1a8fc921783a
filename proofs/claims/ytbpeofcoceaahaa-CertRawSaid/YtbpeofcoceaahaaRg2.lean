/- WHAT IS PROVED: right certificates, their times: contracts. Conditions: stated with each. -/
import Derived.Test.YtbpeofcoceaahaaRg1
import Derived.Test.YtbpeofcoceaahaaNumsU
namespace Go.Proofs.Ytbpeofcoceaahaa
open Go.RowKit

set_option maxRecDepth 100000 in
set_option maxHeartbeats 2000000 in
theorem wRightX_any (w : World) (f cn : Int) (hf : -1099511627776 ≤ f ∧ f ≤ 1099511627776) (b mb : Nat) (L : List Signed) (hb : (cellC b 107 [.map (some mb)]).ok w) (hm : MapAt w mb signedV (Value.int .i64) (marks L)) (x : CommitD) (hx : CoOk x) (sa : Option Addr) (sc : Nat) (S : List StampD) (hS : ListAt encSt 38 w (.slice sa S.length sc) S) (hok : StsOk S) (hlS : S.length ≤ 1000000) :
    Calls Try.prog 20 #[(.agg ⟨([(.int .i64 (f)), (.int .i64 (cn))] : List Value)⟩), (.pointer (some ⟨b, 0, none⟩)), (.agg ⟨(([(.int .i64 (x.cl)), (.int .i64 (x.seq))] : List Value) ++ hc x.h ++ ([(.int .i64 (x.len)), (.int .i64 (x.sb)), (.int .i64 (x.sm)), (.slice sa S.length sc)] : List Value))⟩)] w fun e w' => e = .returned (.bool (rightX f cn L x S)) ∧ Upd [] w w' := by
  have H := Sat.start0 w
  refine calls_fr Try.func20 rfl 67 rfl (Nat.le_of_ble_eq_true rfl) ?_
  refine w_seq ?_
  refine w_lit ?_
  refine wl_do (wants0 rfl) (fun K1 hK1 => ?_)
  refine d_box (vs := ([(.int .i64 (f)), (.int .i64 (cn))] : List Value)) rfl H rfl rfl ?_
  intro b2 w3 (H4 : Sat w [restC w (fun _ => False), cellC b2 36 ([(.int .i64 (f)), (.int .i64 (cn))] : List Value)] w3)
  refine hK1 _ _ ?_
  clear hK1 K1
  refine wl_do (wants0 rfl) (fun K5 hK5 => ?_)
  refine d_box (vs := (([(.int .i64 (x.cl)), (.int .i64 (x.seq))] : List Value) ++ hc x.h ++ ([(.int .i64 (x.len)), (.int .i64 (x.sb)), (.int .i64 (x.sm)), (.slice sa S.length sc)] : List Value))) rfl H4 rfl rfl ?_
  intro b6 w7 (H8 : Sat w [restC w (fun _ => False), cellC b2 36 ([(.int .i64 (f)), (.int .i64 (cn))] : List Value), cellC b6 47 (([(.int .i64 (x.cl)), (.int .i64 (x.seq))] : List Value) ++ hc x.h ++ ([(.int .i64 (x.len)), (.int .i64 (x.sb)), (.int .i64 (x.sm)), (.slice sa S.length sc)] : List Value))] w7)
  refine hK5 _ _ ?_
  clear hK5 K5
  refine wl_pure (wants0 rfl) (d := 6) (v := (.bool false)) rfl (by kernel_rfl) ?_
  refine w_nil ?_
  refine then_normal ?_
  refine w_seq ?_
  refine w_seq ?_
  refine q_start H8 (by kernel_rfl) (by kernel_rfl) ?_
  refine q_val (wants0 rfl) (d := 9) (v := (.agg ⟨([(.int .i64 (f)), (.int .i64 (cn))] : List Value)⟩)) rfl (fun _ H' => (e_loadN (vs := ([(.int .i64 (f)), (.int .i64 (cn))] : List Value)) rfl (by kernel_rfl) (by kernel_rfl) (by exact Nat.le_of_ble_eq_true (by kernel_rfl)) (H'.at 1 rfl) (by kernel_rfl))) ?_
  refine q_val (wants0 rfl) (d := 10) (v := (.pointer (some ⟨b, 0, none⟩))) rfl (fun _ H' => (by kernel_rfl)) ?_
  refine q_val (wants0 rfl) (d := 11) (v := (.pointer (some ⟨b6, 0, none⟩))) rfl (fun _ H' => (by kernel_rfl)) ?_
  refine q_val (wants0 rfl) (d := 12) (v := (.agg ⟨(([(.int .i64 (x.cl)), (.int .i64 (x.seq))] : List Value) ++ hc x.h ++ ([(.int .i64 (x.len)), (.int .i64 (x.sb)), (.int .i64 (x.sm))] : List Value))⟩)) rfl (fun _ H' => (e_loadN (vs := (([(.int .i64 (x.cl)), (.int .i64 (x.seq))] : List Value) ++ hc x.h ++ ([(.int .i64 (x.len)), (.int .i64 (x.sb)), (.int .i64 (x.sm))] : List Value))) rfl (by kernel_rfl) (by kernel_rfl) (by exact Nat.le_of_ble_eq_true (by kernel_rfl)) (H'.at 2 rfl) (by kernel_rfl))) ?_
  refine q_call (wants0 rfl) (d := 13) (v := (.bool (rightC cn L x))) rfl (fun _ _ => by kernel_rfl) (fun w' H' => (wRightC_any w' f cn (by omega) b mb L (H'.roCk 0 rfl hb (fun _ _ h => h)) (H'.roMap 0 rfl hm (fun h => h)) x hx).mono fun _ _ h => ⟨h.1, H'.keepU h.2⟩) ?_
  refine q_val (wants0 rfl) (d := 14) (v := (.bool (!(rightC cn L x)))) rfl (fun _ H' => (by kernel_rfl)) ?_
  refine q_val (wants0 rfl) (d := 15) (v := (.bool (!(rightC cn L x)))) rfl (fun _ H' => (by kernel_rfl)) ?_
  refine (bsplit (!(rightC cn L x))).elim (fun b9 => ?_) (fun b9 => ?_)
  · have g10 := bnot_true b9
    refine q_know 15 (.bool true) (congrArg Value.bool b9) ?_
    have g11 := bnot_true b9
    refine q_pass (wantsN 6 15 false rfl (by kernel_rfl) rfl (by kernel_rfl)) rfl ?_
    refine q_pass (wantsN 6 15 false rfl (by kernel_rfl) rfl (by kernel_rfl)) rfl ?_
    refine q_pass (wantsN 6 15 false rfl (by kernel_rfl) rfl (by kernel_rfl)) rfl ?_
    refine q_pass (wantsN 6 15 false rfl (by kernel_rfl) rfl (by kernel_rfl)) rfl ?_
    refine q_pass (wantsN 6 15 false rfl (by kernel_rfl) rfl (by kernel_rfl)) rfl ?_
    refine q_pass (wantsN 6 15 false rfl (by kernel_rfl) rfl (by kernel_rfl)) rfl ?_
    refine q_val (wants0 rfl) (d := 22) (v := (.bool true)) rfl (fun _ H' => (by kernel_rfl)) ?_
    refine q_end ?_
    intro w12 H13
    refine then_normal ?_
    refine wp_ift rfl ?_
    refine w_seq ?_
    refine w_lit ?_
    refine wl_pure (wants0 rfl) (d := 6) (v := (.bool false)) rfl (by kernel_rfl) ?_
    refine w_nil ?_
    refine then_normal ?_
    refine w_ret ?_
    refine then_ret ?_
    refine end1 rfl (res_tmp (v := (.bool false)) rfl) ?_
    have n14 := bnot_true b9
    exact ⟨by simp only [rightX, n14, Bool.false_and], H13.upd 0 rfl [] (fun _ h => h.elim)⟩
  · have g15 := bnot_false b9
    refine q_know 15 (.bool false) (congrArg Value.bool b9) ?_
    have g16 := bnot_false b9
    refine q_val (wantsY 6 15 false rfl (by kernel_rfl) rfl (by kernel_rfl)) (d := 16) (v := (.pointer (some ⟨b6, 37, none⟩))) rfl (fun _ H' => (by kernel_rfl)) ?_
    refine q_val (wantsY 6 15 false rfl (by kernel_rfl) rfl (by kernel_rfl)) (d := 17) (v := (.slice sa S.length sc)) rfl (fun _ H' => (e_load1 rfl (by kernel_rfl) (H'.cell 2 rfl (by kernel_rfl)))) ?_
    refine q_val (wantsY 6 15 false rfl (by kernel_rfl) rfl (by kernel_rfl)) (d := 18) (v := (.int .i64 ((S.length : Int)))) rfl (fun _ H' => (by kernel_rfl)) ?_
    refine q_val (wantsY 6 15 false rfl (by kernel_rfl) rfl (by kernel_rfl)) (d := 19) (v := (.agg ⟨([(.int .i64 (f)), (.int .i64 (cn))] : List Value)⟩)) rfl (fun _ H' => (e_loadN (vs := ([(.int .i64 (f)), (.int .i64 (cn))] : List Value)) rfl (by kernel_rfl) (by kernel_rfl) (by exact Nat.le_of_ble_eq_true (by kernel_rfl)) (H'.at 1 rfl) (by kernel_rfl))) ?_
    refine q_call (wantsY 6 15 false rfl (by kernel_rfl) rfl (by kernel_rfl)) (d := 20) (v := (.int .i64 (2 * f + 1))) rfl (fun _ _ => by kernel_rfl) (fun w' H' => (wQ_any w' f cn (by omega)).mono fun _ _ h => ⟨h.1, H'.keepU h.2⟩) ?_
    refine q_val (wantsY 6 15 false rfl (by kernel_rfl) rfl (by kernel_rfl)) (d := 21) (v := (.bool (!(decide ((S.length : Int) = (2 * f + 1)))))) rfl (fun _ H' => (by kernel_rfl)) ?_
    refine q_val (wants0 rfl) (d := 22) (v := (.bool (!(decide ((S.length : Int) = (2 * f + 1)))))) rfl (fun _ H' => (by kernel_rfl)) ?_
    refine q_end ?_
    intro w17 H18
    refine then_normal ?_
    refine (bsplit (!(decide ((S.length : Int) = (2 * f + 1))))).elim (fun b19 => ?_) (fun b19 => ?_)
    · have g20 := bnot_true b19
      have g21 := of_decide_eq_false g20
      refine wp_know 22 (.bool true) (congrArg Value.bool b19) ?_
      have g22 := bnot_true b19
      have g23 := of_decide_eq_false g22
      refine wp_ift rfl ?_
      refine w_seq ?_
      refine w_lit ?_
      refine wl_pure (wants0 rfl) (d := 6) (v := (.bool false)) rfl (by kernel_rfl) ?_
      refine w_nil ?_
      refine then_normal ?_
      refine w_ret ?_
      refine then_ret ?_
      refine end1 rfl (res_tmp (v := (.bool false)) rfl) ?_
      have n24 := bnot_false b9
      have n25 := bnot_true b19
      exact ⟨by simp only [rightX, n24, n25, Bool.and_false, Bool.false_and], H18.upd 0 rfl [] (fun _ h => h.elim)⟩
    · have g26 := bnot_false b19
      have g27 := of_decide_eq_true g26
      refine wp_know 22 (.bool false) (congrArg Value.bool b19) ?_
      have g28 := bnot_false b19
      have g29 := of_decide_eq_true g28
      refine wp_iff rfl ?_
      refine w_skip ?_
      refine then_normal ?_
      refine w_seq ?_
      refine w_seq ?_
      refine w_lit ?_
      refine wl_pure (wants0 rfl) (d := 23) (v := (.pointer (some ⟨b6, 37, none⟩))) rfl (by kernel_rfl) ?_
      refine wl_pure (wants0 rfl) (d := 24) (v := (.slice sa S.length sc)) rfl (e_load1 rfl (by kernel_rfl) (H18.cell 2 rfl (by kernel_rfl))) ?_
      refine wl_pure (wants0 rfl) (d := 25) (v := (.int .i64 ((S.length : Int)))) rfl (by kernel_rfl) ?_
      refine wl_pure (wants0 rfl) (d := 26) (v := (.int .i64 (0))) rfl (by kernel_rfl) ?_
      refine w_nil ?_
      refine then_normal ?_
      refine w_block ?_
      have n30 := bnot_false b9
      have n31 := bnot_false b19
      refine wp_round [6, 7, 8, 26, 27, 28, 29, 30, 31, 32, 33, 34, 35, 36, 37, 38, 39, 40, 41, 42, 43, 44, 45, 46, 47, 48, 49, 50, 51, 52, 53, 54, 55, 56, 57, 58, 59, 60, 61, 62, 63, 64, 65, 66] (fun F_ W_ m_ => ∃ (i : Nat), F_ 26 = (.int .i64 ((i : Int))) ∧ (i ≤ S.length) ∧ (∀ j, j < i → okAt f L x S j = true) ∧ Sat w [restC w (fun _ => False), cellC b2 36 ([(.int .i64 (f)), (.int .i64 (cn))] : List Value), cellC b6 47 (([(.int .i64 (x.cl)), (.int .i64 (x.seq))] : List Value) ++ hc x.h ++ ([(.int .i64 (x.len)), (.int .i64 (x.sb)), (.int .i64 (x.sm)), (.slice sa S.length sc)] : List Value))] W_ ∧ m_ = S.length - i) _ ⟨0, (show ((.int .i64 (0)) : Value) = _ by first | rfl | go_num), (Nat.zero_le _), (fun _ h => absurd h (Nat.not_lt_zero _)), H18, rfl⟩ ?_
      rintro g32 w33 _ ⟨i, v35, hi, hall, H34, rfl⟩
      refine wp_know 26 _ v35 ?_
      refine w_seq ?_
      refine w_lit ?_
      refine wl_pure (wants0 rfl) (d := 27) (v := (.bool (decide ((i : Int) < (S.length : Int))))) rfl (by kernel_rfl) ?_
      refine w_nil ?_
      refine then_normal ?_
      refine w_seq ?_
      refine (bsplit (decide ((i : Int) < (S.length : Int)))).elim (fun b37 => ?_) (fun b37 => ?_)
      · have g38 := of_decide_eq_true b37
        refine wp_know 27 (.bool true) (congrArg Value.bool b37) ?_
        have g39 := of_decide_eq_true b37
        refine wp_ift rfl ?_
        refine w_skip ?_
        refine then_normal ?_
        refine w_seq ?_
        refine w_block ?_
        refine w_seq ?_
        refine w_lit ?_
        refine wl_pure (wants0 rfl) (d := 28) (v := (.int .i64 ((i : Int)))) rfl (by kernel_rfl) ?_
        obtain ⟨g40, o41, c42, e43, R44⟩ := SliceOf.atD hS stamp0 (show i < S.length by omega)
        refine wl_pure (wants0 rfl) (d := 29) (v := (.pointer (some ⟨g40, o41 + ((i : Int)).toNat * 38, none⟩))) rfl (e_indexAddrW (E := 49) (by kernel_rfl) (by kernel_rfl) (Nat.le_of_ble_eq_true rfl) rfl e43 rfl (by omega) (by omega)) ?_
        refine wl_pure (wants0 rfl) (d := 30) (v := (.agg ⟨(([(.int .i64 ((S.getD i stamp0).r)), (.int .i64 ((S.getD i stamp0).cl)), (.int .i64 ((S.getD i stamp0).seq))] : List Value) ++ hc (S.getD i stamp0).h ++ ([(.int .u64 ((S.getD i stamp0).t)), (.int .i64 ((S.getD i stamp0).sb)), (.int .i64 ((S.getD i stamp0).sm))] : List Value))⟩)) rfl (e_loadRun (vs := (([(.int .i64 ((S.getD i stamp0).r)), (.int .i64 ((S.getD i stamp0).cl)), (.int .i64 ((S.getD i stamp0).seq))] : List Value) ++ hc (S.getD i stamp0).h ++ ([(.int .u64 ((S.getD i stamp0).t)), (.int .i64 ((S.getD i stamp0).sb)), (.int .i64 ((S.getD i stamp0).sm))] : List Value))) rfl (by kernel_rfl) (by kernel_rfl) (Nat.le_of_ble_eq_true (by kernel_rfl)) (H34.runR 0 rfl (cells_run R44 0 (by kernel_rfl) (show o41 + ((i : Int)).toNat * 38 = o41 + i * 38 + 0 by omega)) (fun h => h))) ?_
        refine wl_do (wants0 rfl) (fun K45 hK45 => ?_)
        refine d_alloc (zs := (([(.int .i64 (0)), (.int .i64 (0)), (.int .i64 (0))] : List Value) ++ hc hash0 ++ ([(.int .u64 (0)), (.int .i64 (0)), (.int .i64 (0))] : List Value))) (z := (.agg ⟨(([(.int .i64 (0)), (.int .i64 (0)), (.int .i64 (0))] : List Value) ++ hc hash0 ++ ([(.int .u64 (0)), (.int .i64 (0)), (.int .i64 (0))] : List Value))⟩)) rfl H34 (by kernel_rfl) (by kernel_rfl) ?_
        intro b46 w47 (H48 : Sat w [restC w (fun _ => False), cellC b2 36 ([(.int .i64 (f)), (.int .i64 (cn))] : List Value), cellC b6 47 (([(.int .i64 (x.cl)), (.int .i64 (x.seq))] : List Value) ++ hc x.h ++ ([(.int .i64 (x.len)), (.int .i64 (x.sb)), (.int .i64 (x.sm)), (.slice sa S.length sc)] : List Value)), cellC b46 49 (([(.int .i64 (0)), (.int .i64 (0)), (.int .i64 (0))] : List Value) ++ hc hash0 ++ ([(.int .u64 (0)), (.int .i64 (0)), (.int .i64 (0))] : List Value))] w47)
        refine hK45 _ _ ?_
        clear hK45 K45
        refine wl_pure (wants0 rfl) (d := 7) (v := (.int .i64 ((i : Int)))) rfl (by kernel_rfl) ?_
        refine wl_do (wants0 rfl) (fun K49 hK49 => ?_)
        refine d_storeX (vs := (([(.int .i64 ((S.getD i stamp0).r)), (.int .i64 ((S.getD i stamp0).cl)), (.int .i64 ((S.getD i stamp0).seq))] : List Value) ++ hc (S.getD i stamp0).h ++ ([(.int .u64 ((S.getD i stamp0).t)), (.int .i64 ((S.getD i stamp0).sb)), (.int .i64 ((S.getD i stamp0).sm))] : List Value))) (cs' := (([(.int .i64 ((S.getD i stamp0).r)), (.int .i64 ((S.getD i stamp0).cl)), (.int .i64 ((S.getD i stamp0).seq))] : List Value) ++ hc (S.getD i stamp0).h ++ ([(.int .u64 ((S.getD i stamp0).t)), (.int .i64 ((S.getD i stamp0).sb)), (.int .i64 ((S.getD i stamp0).sm))] : List Value))) rfl H48 3 rfl rfl rfl rfl (by kernel_rfl) (Nat.le_of_ble_eq_true (by kernel_rfl)) (Nat.le_of_ble_eq_true (by kernel_rfl)) (by kernel_rfl) (by kernel_rfl) ?_
        intro w50 (H51 : Sat w [restC w (fun _ => False), cellC b2 36 ([(.int .i64 (f)), (.int .i64 (cn))] : List Value), cellC b6 47 (([(.int .i64 (x.cl)), (.int .i64 (x.seq))] : List Value) ++ hc x.h ++ ([(.int .i64 (x.len)), (.int .i64 (x.sb)), (.int .i64 (x.sm)), (.slice sa S.length sc)] : List Value)), cellC b46 49 (([(.int .i64 ((S.getD i stamp0).r)), (.int .i64 ((S.getD i stamp0).cl)), (.int .i64 ((S.getD i stamp0).seq))] : List Value) ++ hc (S.getD i stamp0).h ++ ([(.int .u64 ((S.getD i stamp0).t)), (.int .i64 ((S.getD i stamp0).sb)), (.int .i64 ((S.getD i stamp0).sm))] : List Value))] w50)
        refine hK49 _ _ ?_
        clear hK49 K49
        refine w_nil ?_
        refine then_normal ?_
        refine w_seq ?_
        refine w_seq ?_
        refine q_start H51 (by kernel_rfl) (by kernel_rfl) ?_
        refine q_val (wants0 rfl) (d := 31) (v := (.int .i64 ((i : Int)))) rfl (fun _ H' => (by kernel_rfl)) ?_
        refine q_val (wants0 rfl) (d := 32) (v := (.bool (decide ((i : Int) > 0)))) rfl (fun _ H' => (by kernel_rfl)) ?_
        refine q_val (wants0 rfl) (d := 33) (v := (.bool (decide ((i : Int) > 0)))) rfl (fun _ H' => (by kernel_rfl)) ?_
        refine (bsplit (decide ((i : Int) > 0))).elim (fun b53 => ?_) (fun b53 => ?_)
        · have g54 := of_decide_eq_true b53
          refine q_know 33 (.bool true) (congrArg Value.bool b53) ?_
          have g55 := of_decide_eq_true b53
          refine q_val (wantsY 2 33 true rfl (by kernel_rfl) rfl (by kernel_rfl)) (d := 34) (v := (.pointer (some ⟨b46, 0, none⟩))) rfl (fun _ H' => (by kernel_rfl)) ?_
          refine q_val (wantsY 2 33 true rfl (by kernel_rfl) rfl (by kernel_rfl)) (d := 35) (v := (.int .i64 ((S.getD i stamp0).r))) rfl (fun _ H' => (e_load1 rfl (by kernel_rfl) (H'.cell 3 rfl (by kernel_rfl)))) ?_
          refine q_val (wantsY 2 33 true rfl (by kernel_rfl) rfl (by kernel_rfl)) (d := 36) (v := (.pointer (some ⟨b6, 37, none⟩))) rfl (fun _ H' => (by kernel_rfl)) ?_
          refine q_val (wantsY 2 33 true rfl (by kernel_rfl) rfl (by kernel_rfl)) (d := 37) (v := (.slice sa S.length sc)) rfl (fun _ H' => (e_load1 rfl (by kernel_rfl) (H'.cell 2 rfl (by kernel_rfl)))) ?_
          refine q_val (wantsY 2 33 true rfl (by kernel_rfl) rfl (by kernel_rfl)) (d := 38) (v := (.int .i64 ((i : Int)))) rfl (fun _ H' => (by kernel_rfl)) ?_
          refine q_val (wantsY 2 33 true rfl (by kernel_rfl) rfl (by kernel_rfl)) (d := 39) (v := (.int .i64 ((i : Int) - 1))) rfl (fun _ H' => (e_int (z := (i : Int) - 1) (by kernel_rfl) (IntWalk.i64_in _ (by omega)))) ?_
          obtain ⟨g56, o57, c58, e59, R60⟩ := SliceOf.atD hS stamp0 (show ((i : Int) - 1).toNat < S.length by omega)
          refine q_val (wantsY 2 33 true rfl (by kernel_rfl) rfl (by kernel_rfl)) (d := 40) (v := (.pointer (some ⟨g56, o57 + ((i : Int) - 1).toNat * 38, none⟩))) rfl (fun _ H' => (e_indexAddrW (E := 49) (by kernel_rfl) (by kernel_rfl) (Nat.le_of_ble_eq_true rfl) rfl e59 rfl (by omega) (by omega))) ?_
          refine q_val (wantsY 2 33 true rfl (by kernel_rfl) rfl (by kernel_rfl)) (d := 41) (v := (.pointer (some ⟨g56, o57 + ((i : Int) - 1).toNat * 38, none⟩))) rfl (fun _ H' => (by kernel_rfl)) ?_
          refine q_val (wantsY 2 33 true rfl (by kernel_rfl) rfl (by kernel_rfl)) (d := 42) (v := (.int .i64 ((S.getD ((i : Int) - 1).toNat stamp0).r))) rfl (fun _ H' => (e_load1 rfl (by kernel_rfl) (H'.cellR 0 rfl (cells_at R60 0 (by kernel_rfl) (show o57 + ((i : Int) - 1).toNat * 38 = o57 + ((i : Int) - 1).toNat * 38 + 0 by omega)) (fun h => h)))) ?_
          refine q_val (wantsY 2 33 true rfl (by kernel_rfl) rfl (by kernel_rfl)) (d := 43) (v := (.bool (decide (((S.getD i stamp0).r) ≤ ((S.getD ((i : Int) - 1).toNat stamp0).r))))) rfl (fun _ H' => (by kernel_rfl)) ?_
          refine q_val (wants0 rfl) (d := 44) (v := (.bool (decide (((S.getD i stamp0).r) ≤ ((S.getD ((i : Int) - 1).toNat stamp0).r))))) rfl (fun _ H' => (by kernel_rfl)) ?_
          refine q_end ?_
          intro w61 H62
          refine then_normal ?_
          refine (bsplit (decide (((S.getD i stamp0).r) ≤ ((S.getD ((i : Int) - 1).toNat stamp0).r)))).elim (fun b63 => ?_) (fun b63 => ?_)
          · have g64 := of_decide_eq_true b63
            refine wp_know 44 (.bool true) (congrArg Value.bool b63) ?_
            have g65 := of_decide_eq_true b63
            refine wp_ift rfl ?_
            refine w_seq ?_
            refine w_lit ?_
            refine wl_pure (wants0 rfl) (d := 6) (v := (.bool false)) rfl (by kernel_rfl) ?_
            refine w_nil ?_
            refine then_normal ?_
            refine w_ret ?_
            refine then_ret ?_
            refine blk_ret ?_
            refine then_ret ?_
            refine back_ret ?_
            refine blk_ret ?_
            refine then_ret ?_
            refine end1 rfl (res_tmp (v := (.bool false)) rfl) ?_
            have e1 : ((i : Int) - 1).toNat = i - 1 := by omega
            have ho : okAt f L x S i = false := by unfold okAt sameN; rw [← e1]; simp only [b53, b63, Bool.not_true, Bool.or_false, Bool.false_and]
            exact ⟨by simp only [rightX, all_not (show i < S.length by omega) ho, Bool.and_false], H62.upd 0 rfl [] (fun _ h => h.elim)⟩
          · have g66 := of_decide_eq_false b63
            refine wp_know 44 (.bool false) (congrArg Value.bool b63) ?_
            have g67 := of_decide_eq_false b63
            refine wp_iff rfl ?_
            refine w_skip ?_
            refine then_normal ?_
            refine w_seq ?_
            refine w_lit ?_
            refine wl_pure (wants0 rfl) (d := 45) (v := (.pointer (some ⟨b46, 1, none⟩))) rfl (by kernel_rfl) ?_
            refine wl_pure (wants0 rfl) (d := 46) (v := (.agg ⟨([(.int .i64 ((S.getD i stamp0).cl)), (.int .i64 ((S.getD i stamp0).seq))] : List Value)⟩)) rfl (e_loadN (vs := ([(.int .i64 ((S.getD i stamp0).cl)), (.int .i64 ((S.getD i stamp0).seq))] : List Value)) rfl (by kernel_rfl) (by kernel_rfl) (by exact Nat.le_of_ble_eq_true (by kernel_rfl)) (H62.at 3 rfl) (by kernel_rfl)) ?_
            refine wl_pure (wants0 rfl) (d := 47) (v := (.pointer (some ⟨b6, 0, none⟩))) rfl (by kernel_rfl) ?_
            refine wl_pure (wants0 rfl) (d := 48) (v := (.pointer (some ⟨b6, 0, none⟩))) rfl (by kernel_rfl) ?_
            refine wl_pure (wants0 rfl) (d := 49) (v := (.agg ⟨([(.int .i64 (x.cl)), (.int .i64 (x.seq))] : List Value)⟩)) rfl (e_loadN (vs := ([(.int .i64 (x.cl)), (.int .i64 (x.seq))] : List Value)) rfl (by kernel_rfl) (by kernel_rfl) (by exact Nat.le_of_ble_eq_true (by kernel_rfl)) (H62.at 2 rfl) (by kernel_rfl)) ?_
            refine wl_pure (wants0 rfl) (d := 50) (v := (.bool (!(decide (((S.getD i stamp0).cl) = x.cl ∧ ((S.getD i stamp0).seq) = x.seq))))) rfl (e_neqName ((S.getD i stamp0).cl) ((S.getD i stamp0).seq) x.cl x.seq rfl rfl) ?_
            refine wl_pure (wants0 rfl) (d := 51) (v := (.bool (!(decide (((S.getD i stamp0).cl) = x.cl ∧ ((S.getD i stamp0).seq) = x.seq))))) rfl (by kernel_rfl) ?_
            refine (bsplit (!(decide (((S.getD i stamp0).cl) = x.cl ∧ ((S.getD i stamp0).seq) = x.seq)))).elim (fun b68 => ?_) (fun b68 => ?_)
            · have g69 := bnot_true b68
              refine wl_know 51 (.bool true) (congrArg Value.bool b68) ?_
              have g70 := bnot_true b68
              refine wl_pass (wantsN 6 51 false rfl (by kernel_rfl) rfl (by kernel_rfl)) rfl ?_
              refine wl_pass (wantsN 6 51 false rfl (by kernel_rfl) rfl (by kernel_rfl)) rfl ?_
              refine wl_pass (wantsN 6 51 false rfl (by kernel_rfl) rfl (by kernel_rfl)) rfl ?_
              refine wl_pass (wantsN 6 51 false rfl (by kernel_rfl) rfl (by kernel_rfl)) rfl ?_
              refine wl_pass (wantsN 6 51 false rfl (by kernel_rfl) rfl (by kernel_rfl)) rfl ?_
              refine wl_pass (wantsN 6 51 false rfl (by kernel_rfl) rfl (by kernel_rfl)) rfl ?_
              refine wl_pure (wants0 rfl) (d := 58) (v := (.bool true)) rfl (by kernel_rfl) ?_
              refine wl_pure (wants0 rfl) (d := 59) (v := (.bool true)) rfl (by kernel_rfl) ?_
              refine wl_pass (wantsN 14 59 false rfl (by kernel_rfl) rfl (by kernel_rfl)) rfl ?_
              refine wl_pass (wantsN 14 59 false rfl (by kernel_rfl) rfl (by kernel_rfl)) rfl ?_
              refine wl_pass (wantsN 14 59 false rfl (by kernel_rfl) rfl (by kernel_rfl)) rfl ?_
              refine wl_pass (wantsN 14 59 false rfl (by kernel_rfl) rfl (by kernel_rfl)) rfl ?_
              refine wl_pass (wantsN 14 59 false rfl (by kernel_rfl) rfl (by kernel_rfl)) rfl ?_
              refine wl_pure (wants0 rfl) (d := 65) (v := (.bool true)) rfl (by kernel_rfl) ?_
              refine w_nil ?_
              refine then_normal ?_
              refine wp_ift rfl ?_
              refine w_seq ?_
              refine w_lit ?_
              refine wl_pure (wants0 rfl) (d := 6) (v := (.bool false)) rfl (by kernel_rfl) ?_
              refine w_nil ?_
              refine then_normal ?_
              refine w_ret ?_
              refine blk_ret ?_
              refine then_ret ?_
              refine back_ret ?_
              refine blk_ret ?_
              refine then_ret ?_
              refine end1 rfl (res_tmp (v := (.bool false)) rfl) ?_
              have n71 := bnot_true b68
              have e1 : ((i : Int) - 1).toNat = i - 1 := by omega
              have ho : okAt f L x S i = false := by unfold okAt sameN; rw [← e1]; simp only [b53, b63, n71, Bool.not_true, Bool.not_false, Bool.or_true, Bool.and_false, Bool.false_and]
              exact ⟨by simp only [rightX, all_not (show i < S.length by omega) ho, Bool.and_false], H62.upd 0 rfl [] (fun _ h => h.elim)⟩
            · have g72 := bnot_false b68
              refine wl_know 51 (.bool false) (congrArg Value.bool b68) ?_
              have g73 := bnot_false b68
              refine wl_pure (wantsY 6 51 false rfl (by kernel_rfl) rfl (by kernel_rfl)) (d := 52) (v := (.pointer (some ⟨b46, 3, none⟩))) rfl (by kernel_rfl) ?_
              refine wl_pure (wantsY 6 51 false rfl (by kernel_rfl) rfl (by kernel_rfl)) (d := 53) (v := (.agg ⟨(hc (S.getD i stamp0).h)⟩)) rfl (e_loadN (vs := (hc (S.getD i stamp0).h)) rfl (by kernel_rfl) (by kernel_rfl) (by exact Nat.le_of_ble_eq_true (by kernel_rfl)) (H62.at 3 rfl) (by kernel_rfl)) ?_
              refine wl_pure (wantsY 6 51 false rfl (by kernel_rfl) rfl (by kernel_rfl)) (d := 54) (v := (.pointer (some ⟨b6, 0, none⟩))) rfl (by kernel_rfl) ?_
              refine wl_pure (wantsY 6 51 false rfl (by kernel_rfl) rfl (by kernel_rfl)) (d := 55) (v := (.pointer (some ⟨b6, 2, none⟩))) rfl (by kernel_rfl) ?_
              refine wl_pure (wantsY 6 51 false rfl (by kernel_rfl) rfl (by kernel_rfl)) (d := 56) (v := (.agg ⟨(hc x.h)⟩)) rfl (e_loadN (vs := (hc x.h)) rfl (by kernel_rfl) (by kernel_rfl) (by exact Nat.le_of_ble_eq_true (by kernel_rfl)) (H62.at 2 rfl) (by kernel_rfl)) ?_
              refine wl_pure (wantsY 6 51 false rfl (by kernel_rfl) rfl (by kernel_rfl)) (d := 57) (v := (.bool (!(decide (((S.getD i stamp0).h) = x.h))))) rfl (e_neHash ((S.getD i stamp0).h) x.h rfl rfl) ?_
              refine wl_pure (wants0 rfl) (d := 58) (v := (.bool (!(decide (((S.getD i stamp0).h) = x.h))))) rfl (by kernel_rfl) ?_
              refine wl_pure (wants0 rfl) (d := 59) (v := (.bool (!(decide (((S.getD i stamp0).h) = x.h))))) rfl (by kernel_rfl) ?_
              refine (bsplit (!(decide (((S.getD i stamp0).h) = x.h)))).elim (fun b74 => ?_) (fun b74 => ?_)
              · have g75 := bnot_true b74
                have g76 := of_decide_eq_false g75
                refine wl_know 59 (.bool true) (congrArg Value.bool b74) ?_
                have g77 := bnot_true b74
                have g78 := of_decide_eq_false g77
                refine wl_pass (wantsN 14 59 false rfl (by kernel_rfl) rfl (by kernel_rfl)) rfl ?_
                refine wl_pass (wantsN 14 59 false rfl (by kernel_rfl) rfl (by kernel_rfl)) rfl ?_
                refine wl_pass (wantsN 14 59 false rfl (by kernel_rfl) rfl (by kernel_rfl)) rfl ?_
                refine wl_pass (wantsN 14 59 false rfl (by kernel_rfl) rfl (by kernel_rfl)) rfl ?_
                refine wl_pass (wantsN 14 59 false rfl (by kernel_rfl) rfl (by kernel_rfl)) rfl ?_
                refine wl_pure (wants0 rfl) (d := 65) (v := (.bool true)) rfl (by kernel_rfl) ?_
                refine w_nil ?_
                refine then_normal ?_
                refine wp_ift rfl ?_
                refine w_seq ?_
                refine w_lit ?_
                refine wl_pure (wants0 rfl) (d := 6) (v := (.bool false)) rfl (by kernel_rfl) ?_
                refine w_nil ?_
                refine then_normal ?_
                refine w_ret ?_
                refine blk_ret ?_
                refine then_ret ?_
                refine back_ret ?_
                refine blk_ret ?_
                refine then_ret ?_
                refine end1 rfl (res_tmp (v := (.bool false)) rfl) ?_
                have n79 := bnot_false b68
                have n80 := bnot_true b74
                have e1 : ((i : Int) - 1).toNat = i - 1 := by omega
                have ho : okAt f L x S i = false := by unfold okAt sameN; rw [← e1]; simp only [b53, b63, n79, n80, Bool.not_true, Bool.not_false, Bool.or_true, Bool.and_false, Bool.false_and]
                exact ⟨by simp only [rightX, all_not (show i < S.length by omega) ho, Bool.and_false], H62.upd 0 rfl [] (fun _ h => h.elim)⟩
              · have g81 := bnot_false b74
                have g82 := of_decide_eq_true g81
                refine wl_know 59 (.bool false) (congrArg Value.bool b74) ?_
                have g83 := bnot_false b74
                have g84 := of_decide_eq_true g83
                refine wl_pure (wantsY 14 59 false rfl (by kernel_rfl) rfl (by kernel_rfl)) (d := 60) (v := (.agg ⟨([(.int .i64 (f)), (.int .i64 (cn))] : List Value)⟩)) rfl (e_loadN (vs := ([(.int .i64 (f)), (.int .i64 (cn))] : List Value)) rfl (by kernel_rfl) (by kernel_rfl) (by exact Nat.le_of_ble_eq_true (by kernel_rfl)) (H62.at 1 rfl) (by kernel_rfl)) ?_
                refine wl_pure (wantsY 14 59 false rfl (by kernel_rfl) rfl (by kernel_rfl)) (d := 61) (v := (.pointer (some ⟨b, 0, none⟩))) rfl (by kernel_rfl) ?_
                refine wl_pure (wantsY 14 59 false rfl (by kernel_rfl) rfl (by kernel_rfl)) (d := 62) (v := (.agg ⟨(([(.int .i64 ((S.getD i stamp0).r)), (.int .i64 ((S.getD i stamp0).cl)), (.int .i64 ((S.getD i stamp0).seq))] : List Value) ++ hc (S.getD i stamp0).h ++ ([(.int .u64 ((S.getD i stamp0).t)), (.int .i64 ((S.getD i stamp0).sb)), (.int .i64 ((S.getD i stamp0).sm))] : List Value))⟩)) rfl (e_loadN (vs := (([(.int .i64 ((S.getD i stamp0).r)), (.int .i64 ((S.getD i stamp0).cl)), (.int .i64 ((S.getD i stamp0).seq))] : List Value) ++ hc (S.getD i stamp0).h ++ ([(.int .u64 ((S.getD i stamp0).t)), (.int .i64 ((S.getD i stamp0).sb)), (.int .i64 ((S.getD i stamp0).sm))] : List Value))) rfl (by kernel_rfl) (by kernel_rfl) (by exact Nat.le_of_ble_eq_true (by kernel_rfl)) (H62.at 3 rfl) (by kernel_rfl)) ?_
                refine wl_do (wantsY 14 59 false rfl (by kernel_rfl) rfl (by kernel_rfl)) (fun K85 hK85 => ?_)
                refine d_call (d := 63) rfl (by kernel_rfl) (wRightS_any w61 f cn (by omega) b mb L (H62.roCk 0 rfl hb (fun _ _ h => h)) (H62.roMap 0 rfl hm (fun h => h)) (S.getD i stamp0) (hok _ (by omega))) ?_
                rintro _ w86 ⟨rfl, u88⟩
                have H87 := H62.keepU u88
                refine ⟨_, rfl, ?_⟩
                refine hK85 _ _ ?_
                clear hK85 K85
                refine wl_pure (wantsY 14 59 false rfl (by kernel_rfl) rfl (by kernel_rfl)) (d := 64) (v := (.bool (!(rightS f L (S.getD i stamp0))))) rfl (by kernel_rfl) ?_
                refine wl_pure (wants0 rfl) (d := 65) (v := (.bool (!(rightS f L (S.getD i stamp0))))) rfl (by kernel_rfl) ?_
                refine w_nil ?_
                refine then_normal ?_
                refine (bsplit (!(rightS f L (S.getD i stamp0)))).elim (fun b89 => ?_) (fun b89 => ?_)
                · have g90 := bnot_true b89
                  refine wp_know 65 (.bool true) (congrArg Value.bool b89) ?_
                  have g91 := bnot_true b89
                  refine wp_ift rfl ?_
                  refine w_seq ?_
                  refine w_lit ?_
                  refine wl_pure (wants0 rfl) (d := 6) (v := (.bool false)) rfl (by kernel_rfl) ?_
                  refine w_nil ?_
                  refine then_normal ?_
                  refine w_ret ?_
                  refine blk_ret ?_
                  refine then_ret ?_
                  refine back_ret ?_
                  refine blk_ret ?_
                  refine then_ret ?_
                  refine end1 rfl (res_tmp (v := (.bool false)) rfl) ?_
                  have n92 := bnot_false b68
                  have n93 := bnot_false b74
                  have n94 := bnot_true b89
                  have e1 : ((i : Int) - 1).toNat = i - 1 := by omega
                  have ho : okAt f L x S i = false := by unfold okAt sameN; rw [← e1]; simp only [b53, b63, n92, n93, n94, Bool.not_true, Bool.not_false, Bool.or_true, Bool.and_true, Bool.and_false]
                  exact ⟨by simp only [rightX, all_not (show i < S.length by omega) ho, Bool.and_false], H87.upd 0 rfl [] (fun _ h => h.elim)⟩
                · have g95 := bnot_false b89
                  refine wp_know 65 (.bool false) (congrArg Value.bool b89) ?_
                  have g96 := bnot_false b89
                  refine wp_iff rfl ?_
                  refine w_skip ?_
                  refine blk_normal ?_
                  refine then_normal ?_
                  refine w_lit ?_
                  refine wl_pure (wants0 rfl) (d := 66) (v := (.int .i64 ((i : Int) + 1))) rfl (e_int (z := (i : Int) + 1) (by kernel_rfl) (IntWalk.i64_in _ (by omega))) ?_
                  refine wl_pure (wants0 rfl) (d := 26) (v := (.int .i64 ((i : Int) + 1))) rfl (by kernel_rfl) ?_
                  refine w_nil ?_
                  have n97 := bnot_false b68
                  have n98 := bnot_false b74
                  have n99 := bnot_false b89
                  have e1 : ((i : Int) - 1).toNat = i - 1 := by omega
                  have ho : okAt f L x S i = true := by unfold okAt sameN; rw [← e1]; simp only [b53, b63, n97, n98, n99, Bool.not_true, Bool.not_false, Bool.or_true, Bool.and_true]
                  have H100 : Sat w [restC w (fun _ => False), cellC b2 36 ([(.int .i64 (f)), (.int .i64 (cn))] : List Value), cellC b6 47 (([(.int .i64 (x.cl)), (.int .i64 (x.seq))] : List Value) ++ hc x.h ++ ([(.int .i64 (x.len)), (.int .i64 (x.sb)), (.int .i64 (x.sm)), (.slice sa S.length sc)] : List Value))] w86 := H87.pick [0, 1, 2] (by decide)
                  refine round_back ?_ _ ⟨(i + 1), (show ((.int .i64 ((i : Int) + 1)) : Value) = _ by first | rfl | go_num), (by omega), (fun j hj => by rcases Nat.lt_or_ge j i with h | h; exact hall j h; rw [show j = i by omega]; exact ho), H100, rfl⟩ (by omega)
                  exact (same_upd rfl (same_upd rfl (same_upd rfl (same_upd rfl (same_upd rfl (same_upd rfl (same_upd rfl (same_upd rfl (same_upd rfl (same_upd rfl (same_upd rfl (same_upd rfl (same_upd rfl (same_upd rfl (same_upd rfl (same_upd rfl (same_upd rfl (same_upd rfl (same_upd rfl (same_upd rfl (same_upd rfl (same_upd rfl (same_upd rfl (same_upd rfl (same_upd rfl (same_upd rfl (same_upd rfl (same_upd rfl (same_upd rfl (same_upd rfl (same_upd rfl (same_upd rfl (same_upd rfl (same_upd rfl (same_upd rfl (same_upd rfl (same_upd rfl (same_upd rfl (same_upd rfl (same_upd rfl (same_upd rfl (same_upd rfl (same_upd rfl (same_upd rfl (same_upd rfl (same_upd rfl (same_upd rfl (same_upd rfl (same_upd rfl (same_upd rfl (same_ovr)))))))))))))))))))))))))))))))))))))))))))))))))))
        · have g101 := of_decide_eq_false b53
          refine q_know 33 (.bool false) (congrArg Value.bool b53) ?_
          have g102 := of_decide_eq_false b53
          refine q_pass (wantsN 2 33 true rfl (by kernel_rfl) rfl (by kernel_rfl)) rfl ?_
          refine q_pass (wantsN 2 33 true rfl (by kernel_rfl) rfl (by kernel_rfl)) rfl ?_
          refine q_pass (wantsN 2 33 true rfl (by kernel_rfl) rfl (by kernel_rfl)) rfl ?_
          refine q_pass (wantsN 2 33 true rfl (by kernel_rfl) rfl (by kernel_rfl)) rfl ?_
          refine q_pass (wantsN 2 33 true rfl (by kernel_rfl) rfl (by kernel_rfl)) rfl ?_
          refine q_pass (wantsN 2 33 true rfl (by kernel_rfl) rfl (by kernel_rfl)) rfl ?_
          refine q_pass (wantsN 2 33 true rfl (by kernel_rfl) rfl (by kernel_rfl)) rfl ?_
          refine q_pass (wantsN 2 33 true rfl (by kernel_rfl) rfl (by kernel_rfl)) rfl ?_
          refine q_pass (wantsN 2 33 true rfl (by kernel_rfl) rfl (by kernel_rfl)) rfl ?_
          refine q_pass (wantsN 2 33 true rfl (by kernel_rfl) rfl (by kernel_rfl)) rfl ?_
          refine q_val (wants0 rfl) (d := 44) (v := (.bool false)) rfl (fun _ H' => (by kernel_rfl)) ?_
          refine q_end ?_
          intro w103 H104
          refine then_normal ?_
          refine wp_iff rfl ?_
          refine w_skip ?_
          refine then_normal ?_
          refine w_seq ?_
          refine w_lit ?_
          refine wl_pure (wants0 rfl) (d := 45) (v := (.pointer (some ⟨b46, 1, none⟩))) rfl (by kernel_rfl) ?_
          refine wl_pure (wants0 rfl) (d := 46) (v := (.agg ⟨([(.int .i64 ((S.getD i stamp0).cl)), (.int .i64 ((S.getD i stamp0).seq))] : List Value)⟩)) rfl (e_loadN (vs := ([(.int .i64 ((S.getD i stamp0).cl)), (.int .i64 ((S.getD i stamp0).seq))] : List Value)) rfl (by kernel_rfl) (by kernel_rfl) (by exact Nat.le_of_ble_eq_true (by kernel_rfl)) (H104.at 3 rfl) (by kernel_rfl)) ?_
          refine wl_pure (wants0 rfl) (d := 47) (v := (.pointer (some ⟨b6, 0, none⟩))) rfl (by kernel_rfl) ?_
          refine wl_pure (wants0 rfl) (d := 48) (v := (.pointer (some ⟨b6, 0, none⟩))) rfl (by kernel_rfl) ?_
          refine wl_pure (wants0 rfl) (d := 49) (v := (.agg ⟨([(.int .i64 (x.cl)), (.int .i64 (x.seq))] : List Value)⟩)) rfl (e_loadN (vs := ([(.int .i64 (x.cl)), (.int .i64 (x.seq))] : List Value)) rfl (by kernel_rfl) (by kernel_rfl) (by exact Nat.le_of_ble_eq_true (by kernel_rfl)) (H104.at 2 rfl) (by kernel_rfl)) ?_
          refine wl_pure (wants0 rfl) (d := 50) (v := (.bool (!(decide (((S.getD i stamp0).cl) = x.cl ∧ ((S.getD i stamp0).seq) = x.seq))))) rfl (e_neqName ((S.getD i stamp0).cl) ((S.getD i stamp0).seq) x.cl x.seq rfl rfl) ?_
          refine wl_pure (wants0 rfl) (d := 51) (v := (.bool (!(decide (((S.getD i stamp0).cl) = x.cl ∧ ((S.getD i stamp0).seq) = x.seq))))) rfl (by kernel_rfl) ?_
          refine (bsplit (!(decide (((S.getD i stamp0).cl) = x.cl ∧ ((S.getD i stamp0).seq) = x.seq)))).elim (fun b105 => ?_) (fun b105 => ?_)
          · have g106 := bnot_true b105
            refine wl_know 51 (.bool true) (congrArg Value.bool b105) ?_
            have g107 := bnot_true b105
            refine wl_pass (wantsN 6 51 false rfl (by kernel_rfl) rfl (by kernel_rfl)) rfl ?_
            refine wl_pass (wantsN 6 51 false rfl (by kernel_rfl) rfl (by kernel_rfl)) rfl ?_
            refine wl_pass (wantsN 6 51 false rfl (by kernel_rfl) rfl (by kernel_rfl)) rfl ?_
            refine wl_pass (wantsN 6 51 false rfl (by kernel_rfl) rfl (by kernel_rfl)) rfl ?_
            refine wl_pass (wantsN 6 51 false rfl (by kernel_rfl) rfl (by kernel_rfl)) rfl ?_
            refine wl_pass (wantsN 6 51 false rfl (by kernel_rfl) rfl (by kernel_rfl)) rfl ?_
            refine wl_pure (wants0 rfl) (d := 58) (v := (.bool true)) rfl (by kernel_rfl) ?_
            refine wl_pure (wants0 rfl) (d := 59) (v := (.bool true)) rfl (by kernel_rfl) ?_
            refine wl_pass (wantsN 14 59 false rfl (by kernel_rfl) rfl (by kernel_rfl)) rfl ?_
            refine wl_pass (wantsN 14 59 false rfl (by kernel_rfl) rfl (by kernel_rfl)) rfl ?_
            refine wl_pass (wantsN 14 59 false rfl (by kernel_rfl) rfl (by kernel_rfl)) rfl ?_
            refine wl_pass (wantsN 14 59 false rfl (by kernel_rfl) rfl (by kernel_rfl)) rfl ?_
            refine wl_pass (wantsN 14 59 false rfl (by kernel_rfl) rfl (by kernel_rfl)) rfl ?_
            refine wl_pure (wants0 rfl) (d := 65) (v := (.bool true)) rfl (by kernel_rfl) ?_
            refine w_nil ?_
            refine then_normal ?_
            refine wp_ift rfl ?_
            refine w_seq ?_
            refine w_lit ?_
            refine wl_pure (wants0 rfl) (d := 6) (v := (.bool false)) rfl (by kernel_rfl) ?_
            refine w_nil ?_
            refine then_normal ?_
            refine w_ret ?_
            refine blk_ret ?_
            refine then_ret ?_
            refine back_ret ?_
            refine blk_ret ?_
            refine then_ret ?_
            refine end1 rfl (res_tmp (v := (.bool false)) rfl) ?_
            have n108 := bnot_true b105
            have e1 : ((i : Int) - 1).toNat = i - 1 := by omega
            have ho : okAt f L x S i = false := by unfold okAt sameN; rw [← e1]; simp only [b53, n108, Bool.not_false, Bool.true_or, Bool.and_false, Bool.false_and]
            exact ⟨by simp only [rightX, all_not (show i < S.length by omega) ho, Bool.and_false], H104.upd 0 rfl [] (fun _ h => h.elim)⟩
          · have g109 := bnot_false b105
            refine wl_know 51 (.bool false) (congrArg Value.bool b105) ?_
            have g110 := bnot_false b105
            refine wl_pure (wantsY 6 51 false rfl (by kernel_rfl) rfl (by kernel_rfl)) (d := 52) (v := (.pointer (some ⟨b46, 3, none⟩))) rfl (by kernel_rfl) ?_
            refine wl_pure (wantsY 6 51 false rfl (by kernel_rfl) rfl (by kernel_rfl)) (d := 53) (v := (.agg ⟨(hc (S.getD i stamp0).h)⟩)) rfl (e_loadN (vs := (hc (S.getD i stamp0).h)) rfl (by kernel_rfl) (by kernel_rfl) (by exact Nat.le_of_ble_eq_true (by kernel_rfl)) (H104.at 3 rfl) (by kernel_rfl)) ?_
            refine wl_pure (wantsY 6 51 false rfl (by kernel_rfl) rfl (by kernel_rfl)) (d := 54) (v := (.pointer (some ⟨b6, 0, none⟩))) rfl (by kernel_rfl) ?_
            refine wl_pure (wantsY 6 51 false rfl (by kernel_rfl) rfl (by kernel_rfl)) (d := 55) (v := (.pointer (some ⟨b6, 2, none⟩))) rfl (by kernel_rfl) ?_
            refine wl_pure (wantsY 6 51 false rfl (by kernel_rfl) rfl (by kernel_rfl)) (d := 56) (v := (.agg ⟨(hc x.h)⟩)) rfl (e_loadN (vs := (hc x.h)) rfl (by kernel_rfl) (by kernel_rfl) (by exact Nat.le_of_ble_eq_true (by kernel_rfl)) (H104.at 2 rfl) (by kernel_rfl)) ?_
            refine wl_pure (wantsY 6 51 false rfl (by kernel_rfl) rfl (by kernel_rfl)) (d := 57) (v := (.bool (!(decide (((S.getD i stamp0).h) = x.h))))) rfl (e_neHash ((S.getD i stamp0).h) x.h rfl rfl) ?_
            refine wl_pure (wants0 rfl) (d := 58) (v := (.bool (!(decide (((S.getD i stamp0).h) = x.h))))) rfl (by kernel_rfl) ?_
            refine wl_pure (wants0 rfl) (d := 59) (v := (.bool (!(decide (((S.getD i stamp0).h) = x.h))))) rfl (by kernel_rfl) ?_
            refine (bsplit (!(decide (((S.getD i stamp0).h) = x.h)))).elim (fun b111 => ?_) (fun b111 => ?_)
            · have g112 := bnot_true b111
              have g113 := of_decide_eq_false g112
              refine wl_know 59 (.bool true) (congrArg Value.bool b111) ?_
              have g114 := bnot_true b111
              have g115 := of_decide_eq_false g114
              refine wl_pass (wantsN 14 59 false rfl (by kernel_rfl) rfl (by kernel_rfl)) rfl ?_
              refine wl_pass (wantsN 14 59 false rfl (by kernel_rfl) rfl (by kernel_rfl)) rfl ?_
              refine wl_pass (wantsN 14 59 false rfl (by kernel_rfl) rfl (by kernel_rfl)) rfl ?_
              refine wl_pass (wantsN 14 59 false rfl (by kernel_rfl) rfl (by kernel_rfl)) rfl ?_
              refine wl_pass (wantsN 14 59 false rfl (by kernel_rfl) rfl (by kernel_rfl)) rfl ?_
              refine wl_pure (wants0 rfl) (d := 65) (v := (.bool true)) rfl (by kernel_rfl) ?_
              refine w_nil ?_
              refine then_normal ?_
              refine wp_ift rfl ?_
              refine w_seq ?_
              refine w_lit ?_
              refine wl_pure (wants0 rfl) (d := 6) (v := (.bool false)) rfl (by kernel_rfl) ?_
              refine w_nil ?_
              refine then_normal ?_
              refine w_ret ?_
              refine blk_ret ?_
              refine then_ret ?_
              refine back_ret ?_
              refine blk_ret ?_
              refine then_ret ?_
              refine end1 rfl (res_tmp (v := (.bool false)) rfl) ?_
              have n116 := bnot_false b105
              have n117 := bnot_true b111
              have e1 : ((i : Int) - 1).toNat = i - 1 := by omega
              have ho : okAt f L x S i = false := by unfold okAt sameN; rw [← e1]; simp only [b53, n116, n117, Bool.not_false, Bool.true_or, Bool.and_false, Bool.false_and]
              exact ⟨by simp only [rightX, all_not (show i < S.length by omega) ho, Bool.and_false], H104.upd 0 rfl [] (fun _ h => h.elim)⟩
            · have g118 := bnot_false b111
              have g119 := of_decide_eq_true g118
              refine wl_know 59 (.bool false) (congrArg Value.bool b111) ?_
              have g120 := bnot_false b111
              have g121 := of_decide_eq_true g120
              refine wl_pure (wantsY 14 59 false rfl (by kernel_rfl) rfl (by kernel_rfl)) (d := 60) (v := (.agg ⟨([(.int .i64 (f)), (.int .i64 (cn))] : List Value)⟩)) rfl (e_loadN (vs := ([(.int .i64 (f)), (.int .i64 (cn))] : List Value)) rfl (by kernel_rfl) (by kernel_rfl) (by exact Nat.le_of_ble_eq_true (by kernel_rfl)) (H104.at 1 rfl) (by kernel_rfl)) ?_
              refine wl_pure (wantsY 14 59 false rfl (by kernel_rfl) rfl (by kernel_rfl)) (d := 61) (v := (.pointer (some ⟨b, 0, none⟩))) rfl (by kernel_rfl) ?_
              refine wl_pure (wantsY 14 59 false rfl (by kernel_rfl) rfl (by kernel_rfl)) (d := 62) (v := (.agg ⟨(([(.int .i64 ((S.getD i stamp0).r)), (.int .i64 ((S.getD i stamp0).cl)), (.int .i64 ((S.getD i stamp0).seq))] : List Value) ++ hc (S.getD i stamp0).h ++ ([(.int .u64 ((S.getD i stamp0).t)), (.int .i64 ((S.getD i stamp0).sb)), (.int .i64 ((S.getD i stamp0).sm))] : List Value))⟩)) rfl (e_loadN (vs := (([(.int .i64 ((S.getD i stamp0).r)), (.int .i64 ((S.getD i stamp0).cl)), (.int .i64 ((S.getD i stamp0).seq))] : List Value) ++ hc (S.getD i stamp0).h ++ ([(.int .u64 ((S.getD i stamp0).t)), (.int .i64 ((S.getD i stamp0).sb)), (.int .i64 ((S.getD i stamp0).sm))] : List Value))) rfl (by kernel_rfl) (by kernel_rfl) (by exact Nat.le_of_ble_eq_true (by kernel_rfl)) (H104.at 3 rfl) (by kernel_rfl)) ?_
              refine wl_do (wantsY 14 59 false rfl (by kernel_rfl) rfl (by kernel_rfl)) (fun K122 hK122 => ?_)
              refine d_call (d := 63) rfl (by kernel_rfl) (wRightS_any w103 f cn (by omega) b mb L (H104.roCk 0 rfl hb (fun _ _ h => h)) (H104.roMap 0 rfl hm (fun h => h)) (S.getD i stamp0) (hok _ (by omega))) ?_
              rintro _ w123 ⟨rfl, u125⟩
              have H124 := H104.keepU u125
              refine ⟨_, rfl, ?_⟩
              refine hK122 _ _ ?_
              clear hK122 K122
              refine wl_pure (wantsY 14 59 false rfl (by kernel_rfl) rfl (by kernel_rfl)) (d := 64) (v := (.bool (!(rightS f L (S.getD i stamp0))))) rfl (by kernel_rfl) ?_
              refine wl_pure (wants0 rfl) (d := 65) (v := (.bool (!(rightS f L (S.getD i stamp0))))) rfl (by kernel_rfl) ?_
              refine w_nil ?_
              refine then_normal ?_
              refine (bsplit (!(rightS f L (S.getD i stamp0)))).elim (fun b126 => ?_) (fun b126 => ?_)
              · have g127 := bnot_true b126
                refine wp_know 65 (.bool true) (congrArg Value.bool b126) ?_
                have g128 := bnot_true b126
                refine wp_ift rfl ?_
                refine w_seq ?_
                refine w_lit ?_
                refine wl_pure (wants0 rfl) (d := 6) (v := (.bool false)) rfl (by kernel_rfl) ?_
                refine w_nil ?_
                refine then_normal ?_
                refine w_ret ?_
                refine blk_ret ?_
                refine then_ret ?_
                refine back_ret ?_
                refine blk_ret ?_
                refine then_ret ?_
                refine end1 rfl (res_tmp (v := (.bool false)) rfl) ?_
                have n129 := bnot_false b105
                have n130 := bnot_false b111
                have n131 := bnot_true b126
                have e1 : ((i : Int) - 1).toNat = i - 1 := by omega
                have ho : okAt f L x S i = false := by unfold okAt sameN; rw [← e1]; simp only [b53, n129, n130, n131, Bool.not_false, Bool.true_or, Bool.and_true, Bool.and_false]
                exact ⟨by simp only [rightX, all_not (show i < S.length by omega) ho, Bool.and_false], H124.upd 0 rfl [] (fun _ h => h.elim)⟩
              · have g132 := bnot_false b126
                refine wp_know 65 (.bool false) (congrArg Value.bool b126) ?_
                have g133 := bnot_false b126
                refine wp_iff rfl ?_
                refine w_skip ?_
                refine blk_normal ?_
                refine then_normal ?_
                refine w_lit ?_
                refine wl_pure (wants0 rfl) (d := 66) (v := (.int .i64 ((i : Int) + 1))) rfl (e_int (z := (i : Int) + 1) (by kernel_rfl) (IntWalk.i64_in _ (by omega))) ?_
                refine wl_pure (wants0 rfl) (d := 26) (v := (.int .i64 ((i : Int) + 1))) rfl (by kernel_rfl) ?_
                refine w_nil ?_
                have n134 := bnot_false b105
                have n135 := bnot_false b111
                have n136 := bnot_false b126
                have e1 : ((i : Int) - 1).toNat = i - 1 := by omega
                have ho : okAt f L x S i = true := by unfold okAt sameN; rw [← e1]; simp only [b53, n134, n135, n136, Bool.not_false, Bool.true_or, Bool.and_true]
                have H137 : Sat w [restC w (fun _ => False), cellC b2 36 ([(.int .i64 (f)), (.int .i64 (cn))] : List Value), cellC b6 47 (([(.int .i64 (x.cl)), (.int .i64 (x.seq))] : List Value) ++ hc x.h ++ ([(.int .i64 (x.len)), (.int .i64 (x.sb)), (.int .i64 (x.sm)), (.slice sa S.length sc)] : List Value))] w123 := H124.pick [0, 1, 2] (by decide)
                refine round_back ?_ _ ⟨(i + 1), (show ((.int .i64 ((i : Int) + 1)) : Value) = _ by first | rfl | go_num), (by omega), (fun j hj => by rcases Nat.lt_or_ge j i with h | h; exact hall j h; rw [show j = i by omega]; exact ho), H137, rfl⟩ (by omega)
                exact (same_upd rfl (same_upd rfl (same_upd rfl (same_upd rfl (same_upd rfl (same_upd rfl (same_upd rfl (same_upd rfl (same_upd rfl (same_upd rfl (same_upd rfl (same_upd rfl (same_upd rfl (same_upd rfl (same_upd rfl (same_upd rfl (same_upd rfl (same_upd rfl (same_upd rfl (same_upd rfl (same_upd rfl (same_upd rfl (same_upd rfl (same_upd rfl (same_upd rfl (same_upd rfl (same_upd rfl (same_upd rfl (same_upd rfl (same_upd rfl (same_upd rfl (same_upd rfl (same_upd rfl (same_upd rfl (same_upd rfl (same_upd rfl (same_upd rfl (same_upd rfl (same_upd rfl (same_upd rfl (same_upd rfl (same_upd rfl (same_upd rfl (same_upd rfl (same_upd rfl (same_upd rfl (same_upd rfl (same_upd rfl (same_upd rfl (same_ovr))))))))))))))))))))))))))))))))))))))))))))))))))
      · have g138 := of_decide_eq_false b37
        refine wp_know 27 (.bool false) (congrArg Value.bool b37) ?_
        have g139 := of_decide_eq_false b37
        refine wp_iff rfl ?_
        refine w_exit ?_
        refine then_exit ?_
        refine back_exit ?_
        refine blk_hit ?_
        refine then_normal ?_
        refine w_seq ?_
        refine w_lit ?_
        refine wl_pure (wants0 rfl) (d := 6) (v := (.bool true)) rfl (by kernel_rfl) ?_
        refine w_nil ?_
        refine then_normal ?_
        refine w_ret ?_
        refine end1 rfl (res_tmp (v := (.bool true)) rfl) ?_
        have hn0 : i = S.length := by omega
        subst hn0
        exact ⟨by simp only [rightX, all_upto hall, n30, n31, Bool.and_true], H34.upd 0 rfl [] (fun _ h => h.elim)⟩

set_option maxRecDepth 100000 in
set_option maxHeartbeats 2000000 in
theorem rRightX_any (w : World) (f cn : Int) (hf : -1099511627776 ≤ f ∧ f ≤ 1099511627776) (r : Nat) (ra : Option Addr) (rc : Nat) (L : List Signed) (hb : (cellC r 88 [.slice ra L.length rc]).ok w) (hr : (rowC 120 2 (.slice ra L.length rc) L.length (L.flatMap encS)).ok w) (hn : L.Nodup) (hL : L.length ≤ 1000000) (x : CommitD) (hx : CoOk x) (sa : Option Addr) (sc : Nat) (S : List StampD) (hS : ListAt encSt 38 w (.slice sa S.length sc) S) (hok : StsOk S) (hlS : S.length ≤ 1000000) :
    Calls Try.prog 21 #[(.agg ⟨([(.int .i64 (f)), (.int .i64 (cn))] : List Value)⟩), (.pointer (some ⟨r, 0, none⟩)), (.agg ⟨(([(.int .i64 (x.cl)), (.int .i64 (x.seq))] : List Value) ++ hc x.h ++ ([(.int .i64 (x.len)), (.int .i64 (x.sb)), (.int .i64 (x.sm)), (.slice sa S.length sc)] : List Value))⟩)] w fun e w' => e = .returned (.bool (rightX f cn L x S)) ∧ Upd [] w w' := by
  have H := Sat.start0 w
  refine calls_fr Try.func21 rfl 72 rfl (Nat.le_of_ble_eq_true rfl) ?_
  refine w_seq ?_
  refine w_lit ?_
  refine wl_do (wants0 rfl) (fun K1 hK1 => ?_)
  refine d_box (vs := ([(.int .i64 (f)), (.int .i64 (cn))] : List Value)) rfl H rfl rfl ?_
  intro b2 w3 (H4 : Sat w [restC w (fun _ => False), cellC b2 36 ([(.int .i64 (f)), (.int .i64 (cn))] : List Value)] w3)
  refine hK1 _ _ ?_
  clear hK1 K1
  refine wl_do (wants0 rfl) (fun K5 hK5 => ?_)
  refine d_box (vs := (([(.int .i64 (x.cl)), (.int .i64 (x.seq))] : List Value) ++ hc x.h ++ ([(.int .i64 (x.len)), (.int .i64 (x.sb)), (.int .i64 (x.sm)), (.slice sa S.length sc)] : List Value))) rfl H4 rfl rfl ?_
  intro b6 w7 (H8 : Sat w [restC w (fun _ => False), cellC b2 36 ([(.int .i64 (f)), (.int .i64 (cn))] : List Value), cellC b6 47 (([(.int .i64 (x.cl)), (.int .i64 (x.seq))] : List Value) ++ hc x.h ++ ([(.int .i64 (x.len)), (.int .i64 (x.sb)), (.int .i64 (x.sm)), (.slice sa S.length sc)] : List Value))] w7)
  refine hK5 _ _ ?_
  clear hK5 K5
  refine wl_pure (wants0 rfl) (d := 6) (v := (.bool false)) rfl (by kernel_rfl) ?_
  refine w_nil ?_
  refine then_normal ?_
  refine w_seq ?_
  refine w_seq ?_
  refine q_start H8 (by kernel_rfl) (by kernel_rfl) ?_
  refine q_val (wants0 rfl) (d := 9) (v := (.agg ⟨([(.int .i64 (f)), (.int .i64 (cn))] : List Value)⟩)) rfl (fun _ H' => (e_loadN (vs := ([(.int .i64 (f)), (.int .i64 (cn))] : List Value)) rfl (by kernel_rfl) (by kernel_rfl) (by exact Nat.le_of_ble_eq_true (by kernel_rfl)) (H'.at 1 rfl) (by kernel_rfl))) ?_
  refine q_val (wants0 rfl) (d := 10) (v := (.pointer (some ⟨r, 0, none⟩))) rfl (fun _ H' => (by kernel_rfl)) ?_
  refine q_val (wants0 rfl) (d := 11) (v := (.pointer (some ⟨b6, 0, none⟩))) rfl (fun _ H' => (by kernel_rfl)) ?_
  refine q_val (wants0 rfl) (d := 12) (v := (.agg ⟨(([(.int .i64 (x.cl)), (.int .i64 (x.seq))] : List Value) ++ hc x.h ++ ([(.int .i64 (x.len)), (.int .i64 (x.sb)), (.int .i64 (x.sm))] : List Value))⟩)) rfl (fun _ H' => (e_loadN (vs := (([(.int .i64 (x.cl)), (.int .i64 (x.seq))] : List Value) ++ hc x.h ++ ([(.int .i64 (x.len)), (.int .i64 (x.sb)), (.int .i64 (x.sm))] : List Value))) rfl (by kernel_rfl) (by kernel_rfl) (by exact Nat.le_of_ble_eq_true (by kernel_rfl)) (H'.at 2 rfl) (by kernel_rfl))) ?_
  refine q_call (wants0 rfl) (d := 13) (v := (.bool (rightC cn L x))) rfl (fun _ _ => by kernel_rfl) (fun w' H' => (rRightC_any w' f cn (by omega) r ra rc L (H'.roCk 0 rfl hb (fun _ _ h => h)) (H'.roCk 0 rfl hr (fun _ _ h => h)) hn hL x hx).mono fun _ _ h => ⟨h.1, H'.keepU h.2⟩) ?_
  refine q_val (wants0 rfl) (d := 14) (v := (.bool (!(rightC cn L x)))) rfl (fun _ H' => (by kernel_rfl)) ?_
  refine q_val (wants0 rfl) (d := 15) (v := (.bool (!(rightC cn L x)))) rfl (fun _ H' => (by kernel_rfl)) ?_
  refine (bsplit (!(rightC cn L x))).elim (fun b9 => ?_) (fun b9 => ?_)
  · have g10 := bnot_true b9
    refine q_know 15 (.bool true) (congrArg Value.bool b9) ?_
    have g11 := bnot_true b9
    refine q_pass (wantsN 6 15 false rfl (by kernel_rfl) rfl (by kernel_rfl)) rfl ?_
    refine q_pass (wantsN 6 15 false rfl (by kernel_rfl) rfl (by kernel_rfl)) rfl ?_
    refine q_pass (wantsN 6 15 false rfl (by kernel_rfl) rfl (by kernel_rfl)) rfl ?_
    refine q_pass (wantsN 6 15 false rfl (by kernel_rfl) rfl (by kernel_rfl)) rfl ?_
    refine q_pass (wantsN 6 15 false rfl (by kernel_rfl) rfl (by kernel_rfl)) rfl ?_
    refine q_pass (wantsN 6 15 false rfl (by kernel_rfl) rfl (by kernel_rfl)) rfl ?_
    refine q_val (wants0 rfl) (d := 22) (v := (.bool true)) rfl (fun _ H' => (by kernel_rfl)) ?_
    refine q_end ?_
    intro w12 H13
    refine then_normal ?_
    refine wp_ift rfl ?_
    refine w_seq ?_
    refine w_lit ?_
    refine wl_pure (wants0 rfl) (d := 6) (v := (.bool false)) rfl (by kernel_rfl) ?_
    refine w_nil ?_
    refine then_normal ?_
    refine w_ret ?_
    refine then_ret ?_
    refine end1 rfl (res_tmp (v := (.bool false)) rfl) ?_
    have n14 := bnot_true b9
    exact ⟨by simp only [rightX, n14, Bool.false_and], H13.upd 0 rfl [] (fun _ h => h.elim)⟩
  · have g15 := bnot_false b9
    refine q_know 15 (.bool false) (congrArg Value.bool b9) ?_
    have g16 := bnot_false b9
    refine q_val (wantsY 6 15 false rfl (by kernel_rfl) rfl (by kernel_rfl)) (d := 16) (v := (.pointer (some ⟨b6, 37, none⟩))) rfl (fun _ H' => (by kernel_rfl)) ?_
    refine q_val (wantsY 6 15 false rfl (by kernel_rfl) rfl (by kernel_rfl)) (d := 17) (v := (.slice sa S.length sc)) rfl (fun _ H' => (e_load1 rfl (by kernel_rfl) (H'.cell 2 rfl (by kernel_rfl)))) ?_
    refine q_val (wantsY 6 15 false rfl (by kernel_rfl) rfl (by kernel_rfl)) (d := 18) (v := (.int .i64 ((S.length : Int)))) rfl (fun _ H' => (by kernel_rfl)) ?_
    refine q_val (wantsY 6 15 false rfl (by kernel_rfl) rfl (by kernel_rfl)) (d := 19) (v := (.agg ⟨([(.int .i64 (f)), (.int .i64 (cn))] : List Value)⟩)) rfl (fun _ H' => (e_loadN (vs := ([(.int .i64 (f)), (.int .i64 (cn))] : List Value)) rfl (by kernel_rfl) (by kernel_rfl) (by exact Nat.le_of_ble_eq_true (by kernel_rfl)) (H'.at 1 rfl) (by kernel_rfl))) ?_
    refine q_call (wantsY 6 15 false rfl (by kernel_rfl) rfl (by kernel_rfl)) (d := 20) (v := (.int .i64 (2 * f + 1))) rfl (fun _ _ => by kernel_rfl) (fun w' H' => (rQ_any w' f cn (by omega)).mono fun _ _ h => ⟨h.1, H'.keepU h.2⟩) ?_
    refine q_val (wantsY 6 15 false rfl (by kernel_rfl) rfl (by kernel_rfl)) (d := 21) (v := (.bool (!(decide ((S.length : Int) = (2 * f + 1)))))) rfl (fun _ H' => (by kernel_rfl)) ?_
    refine q_val (wants0 rfl) (d := 22) (v := (.bool (!(decide ((S.length : Int) = (2 * f + 1)))))) rfl (fun _ H' => (by kernel_rfl)) ?_
    refine q_end ?_
    intro w17 H18
    refine then_normal ?_
    refine (bsplit (!(decide ((S.length : Int) = (2 * f + 1))))).elim (fun b19 => ?_) (fun b19 => ?_)
    · have g20 := bnot_true b19
      have g21 := of_decide_eq_false g20
      refine wp_know 22 (.bool true) (congrArg Value.bool b19) ?_
      have g22 := bnot_true b19
      have g23 := of_decide_eq_false g22
      refine wp_ift rfl ?_
      refine w_seq ?_
      refine w_lit ?_
      refine wl_pure (wants0 rfl) (d := 6) (v := (.bool false)) rfl (by kernel_rfl) ?_
      refine w_nil ?_
      refine then_normal ?_
      refine w_ret ?_
      refine then_ret ?_
      refine end1 rfl (res_tmp (v := (.bool false)) rfl) ?_
      have n24 := bnot_false b9
      have n25 := bnot_true b19
      exact ⟨by simp only [rightX, n24, n25, Bool.and_false, Bool.false_and], H18.upd 0 rfl [] (fun _ h => h.elim)⟩
    · have g26 := bnot_false b19
      have g27 := of_decide_eq_true g26
      refine wp_know 22 (.bool false) (congrArg Value.bool b19) ?_
      have g28 := bnot_false b19
      have g29 := of_decide_eq_true g28
      refine wp_iff rfl ?_
      refine w_skip ?_
      refine then_normal ?_
      refine w_seq ?_
      refine w_seq ?_
      refine w_lit ?_
      refine wl_pure (wants0 rfl) (d := 23) (v := (.pointer (some ⟨b6, 37, none⟩))) rfl (by kernel_rfl) ?_
      refine wl_pure (wants0 rfl) (d := 24) (v := (.slice sa S.length sc)) rfl (e_load1 rfl (by kernel_rfl) (H18.cell 2 rfl (by kernel_rfl))) ?_
      refine wl_pure (wants0 rfl) (d := 25) (v := (.int .i64 ((S.length : Int)))) rfl (by kernel_rfl) ?_
      refine wl_pure (wants0 rfl) (d := 26) (v := (.int .i64 (0))) rfl (by kernel_rfl) ?_
      refine w_nil ?_
      refine then_normal ?_
      refine w_block ?_
      have n30 := bnot_false b9
      have n31 := bnot_false b19
      refine wp_round [6, 7, 8, 26, 27, 28, 29, 30, 31, 32, 33, 34, 35, 36, 37, 38, 39, 40, 41, 42, 43, 44, 45, 46, 47, 48, 49, 50, 51, 52, 53, 54, 55, 56, 57, 58, 59, 60, 61, 62, 63, 64, 65, 66, 67, 68, 69, 70, 71] (fun F_ W_ m_ => ∃ (i : Nat), F_ 26 = (.int .i64 ((i : Int))) ∧ (i ≤ S.length) ∧ (∀ j, j < i → okAt f L x S j = true) ∧ Sat w [restC w (fun _ => False), cellC b2 36 ([(.int .i64 (f)), (.int .i64 (cn))] : List Value), cellC b6 47 (([(.int .i64 (x.cl)), (.int .i64 (x.seq))] : List Value) ++ hc x.h ++ ([(.int .i64 (x.len)), (.int .i64 (x.sb)), (.int .i64 (x.sm)), (.slice sa S.length sc)] : List Value))] W_ ∧ m_ = S.length - i) _ ⟨0, (show ((.int .i64 (0)) : Value) = _ by first | rfl | go_num), (Nat.zero_le _), (fun _ h => absurd h (Nat.not_lt_zero _)), H18, rfl⟩ ?_
      rintro g32 w33 _ ⟨i, v35, hi, hall, H34, rfl⟩
      refine wp_know 26 _ v35 ?_
      refine w_seq ?_
      refine w_lit ?_
      refine wl_pure (wants0 rfl) (d := 27) (v := (.bool (decide ((i : Int) < (S.length : Int))))) rfl (by kernel_rfl) ?_
      refine w_nil ?_
      refine then_normal ?_
      refine w_seq ?_
      refine (bsplit (decide ((i : Int) < (S.length : Int)))).elim (fun b37 => ?_) (fun b37 => ?_)
      · have g38 := of_decide_eq_true b37
        refine wp_know 27 (.bool true) (congrArg Value.bool b37) ?_
        have g39 := of_decide_eq_true b37
        refine wp_ift rfl ?_
        refine w_skip ?_
        refine then_normal ?_
        refine w_seq ?_
        refine w_block ?_
        refine w_seq ?_
        refine w_lit ?_
        refine wl_pure (wants0 rfl) (d := 28) (v := (.int .i64 ((i : Int)))) rfl (by kernel_rfl) ?_
        refine wl_pure (wants0 rfl) (d := 7) (v := (.int .i64 ((i : Int)))) rfl (by kernel_rfl) ?_
        refine w_nil ?_
        refine then_normal ?_
        refine w_seq ?_
        refine w_lit ?_
        refine wl_pure (wants0 rfl) (d := 29) (v := (.pointer (some ⟨b6, 37, none⟩))) rfl (by kernel_rfl) ?_
        refine wl_pure (wants0 rfl) (d := 30) (v := (.slice sa S.length sc)) rfl (e_load1 rfl (by kernel_rfl) (H34.cell 2 rfl (by kernel_rfl))) ?_
        refine wl_pure (wants0 rfl) (d := 31) (v := (.int .i64 ((i : Int)))) rfl (by kernel_rfl) ?_
        obtain ⟨g40, o41, c42, e43, R44⟩ := SliceOf.atD hS stamp0 (show i < S.length by omega)
        refine wl_pure (wants0 rfl) (d := 32) (v := (.pointer (some ⟨g40, o41 + ((i : Int)).toNat * 38, none⟩))) rfl (e_indexAddrW (E := 49) (by kernel_rfl) (by kernel_rfl) (Nat.le_of_ble_eq_true rfl) rfl e43 rfl (by omega) (by omega)) ?_
        refine wl_pure (wants0 rfl) (d := 33) (v := (.agg ⟨(([(.int .i64 ((S.getD i stamp0).r)), (.int .i64 ((S.getD i stamp0).cl)), (.int .i64 ((S.getD i stamp0).seq))] : List Value) ++ hc (S.getD i stamp0).h ++ ([(.int .u64 ((S.getD i stamp0).t)), (.int .i64 ((S.getD i stamp0).sb)), (.int .i64 ((S.getD i stamp0).sm))] : List Value))⟩)) rfl (e_loadRun (vs := (([(.int .i64 ((S.getD i stamp0).r)), (.int .i64 ((S.getD i stamp0).cl)), (.int .i64 ((S.getD i stamp0).seq))] : List Value) ++ hc (S.getD i stamp0).h ++ ([(.int .u64 ((S.getD i stamp0).t)), (.int .i64 ((S.getD i stamp0).sb)), (.int .i64 ((S.getD i stamp0).sm))] : List Value))) rfl (by kernel_rfl) (by kernel_rfl) (Nat.le_of_ble_eq_true (by kernel_rfl)) (H34.runR 0 rfl (cells_run R44 0 (by kernel_rfl) (show o41 + ((i : Int)).toNat * 38 = o41 + i * 38 + 0 by omega)) (fun h => h))) ?_
        refine wl_do (wants0 rfl) (fun K45 hK45 => ?_)
        refine d_alloc (zs := (([(.int .i64 (0)), (.int .i64 (0)), (.int .i64 (0))] : List Value) ++ hc hash0 ++ ([(.int .u64 (0)), (.int .i64 (0)), (.int .i64 (0))] : List Value))) (z := (.agg ⟨(([(.int .i64 (0)), (.int .i64 (0)), (.int .i64 (0))] : List Value) ++ hc hash0 ++ ([(.int .u64 (0)), (.int .i64 (0)), (.int .i64 (0))] : List Value))⟩)) rfl H34 (by kernel_rfl) (by kernel_rfl) ?_
        intro b46 w47 (H48 : Sat w [restC w (fun _ => False), cellC b2 36 ([(.int .i64 (f)), (.int .i64 (cn))] : List Value), cellC b6 47 (([(.int .i64 (x.cl)), (.int .i64 (x.seq))] : List Value) ++ hc x.h ++ ([(.int .i64 (x.len)), (.int .i64 (x.sb)), (.int .i64 (x.sm)), (.slice sa S.length sc)] : List Value)), cellC b46 49 (([(.int .i64 (0)), (.int .i64 (0)), (.int .i64 (0))] : List Value) ++ hc hash0 ++ ([(.int .u64 (0)), (.int .i64 (0)), (.int .i64 (0))] : List Value))] w47)
        refine hK45 _ _ ?_
        clear hK45 K45
        refine wl_do (wants0 rfl) (fun K49 hK49 => ?_)
        refine d_storeX (vs := (([(.int .i64 ((S.getD i stamp0).r)), (.int .i64 ((S.getD i stamp0).cl)), (.int .i64 ((S.getD i stamp0).seq))] : List Value) ++ hc (S.getD i stamp0).h ++ ([(.int .u64 ((S.getD i stamp0).t)), (.int .i64 ((S.getD i stamp0).sb)), (.int .i64 ((S.getD i stamp0).sm))] : List Value))) (cs' := (([(.int .i64 ((S.getD i stamp0).r)), (.int .i64 ((S.getD i stamp0).cl)), (.int .i64 ((S.getD i stamp0).seq))] : List Value) ++ hc (S.getD i stamp0).h ++ ([(.int .u64 ((S.getD i stamp0).t)), (.int .i64 ((S.getD i stamp0).sb)), (.int .i64 ((S.getD i stamp0).sm))] : List Value))) rfl H48 3 rfl rfl rfl rfl (by kernel_rfl) (Nat.le_of_ble_eq_true (by kernel_rfl)) (Nat.le_of_ble_eq_true (by kernel_rfl)) (by kernel_rfl) (by kernel_rfl) ?_
        intro w50 (H51 : Sat w [restC w (fun _ => False), cellC b2 36 ([(.int .i64 (f)), (.int .i64 (cn))] : List Value), cellC b6 47 (([(.int .i64 (x.cl)), (.int .i64 (x.seq))] : List Value) ++ hc x.h ++ ([(.int .i64 (x.len)), (.int .i64 (x.sb)), (.int .i64 (x.sm)), (.slice sa S.length sc)] : List Value)), cellC b46 49 (([(.int .i64 ((S.getD i stamp0).r)), (.int .i64 ((S.getD i stamp0).cl)), (.int .i64 ((S.getD i stamp0).seq))] : List Value) ++ hc (S.getD i stamp0).h ++ ([(.int .u64 ((S.getD i stamp0).t)), (.int .i64 ((S.getD i stamp0).sb)), (.int .i64 ((S.getD i stamp0).sm))] : List Value))] w50)
        refine hK49 _ _ ?_
        clear hK49 K49
        refine w_nil ?_
        refine then_normal ?_
        refine w_seq ?_
        refine q_start H51 (by kernel_rfl) (by kernel_rfl) ?_
        refine q_val (wants0 rfl) (d := 34) (v := (.int .i64 ((i : Int)))) rfl (fun _ H' => (by kernel_rfl)) ?_
        refine q_val (wants0 rfl) (d := 35) (v := (.bool (decide ((i : Int) > 0)))) rfl (fun _ H' => (by kernel_rfl)) ?_
        refine q_val (wants0 rfl) (d := 36) (v := (.bool (decide ((i : Int) > 0)))) rfl (fun _ H' => (by kernel_rfl)) ?_
        refine (bsplit (decide ((i : Int) > 0))).elim (fun b53 => ?_) (fun b53 => ?_)
        · have g54 := of_decide_eq_true b53
          refine q_know 36 (.bool true) (congrArg Value.bool b53) ?_
          have g55 := of_decide_eq_true b53
          refine q_val (wantsY 2 36 true rfl (by kernel_rfl) rfl (by kernel_rfl)) (d := 37) (v := (.pointer (some ⟨b46, 0, none⟩))) rfl (fun _ H' => (by kernel_rfl)) ?_
          refine q_val (wantsY 2 36 true rfl (by kernel_rfl) rfl (by kernel_rfl)) (d := 38) (v := (.int .i64 ((S.getD i stamp0).r))) rfl (fun _ H' => (e_load1 rfl (by kernel_rfl) (H'.cell 3 rfl (by kernel_rfl)))) ?_
          refine q_val (wantsY 2 36 true rfl (by kernel_rfl) rfl (by kernel_rfl)) (d := 39) (v := (.pointer (some ⟨b6, 37, none⟩))) rfl (fun _ H' => (by kernel_rfl)) ?_
          refine q_val (wantsY 2 36 true rfl (by kernel_rfl) rfl (by kernel_rfl)) (d := 40) (v := (.slice sa S.length sc)) rfl (fun _ H' => (e_load1 rfl (by kernel_rfl) (H'.cell 2 rfl (by kernel_rfl)))) ?_
          refine q_val (wantsY 2 36 true rfl (by kernel_rfl) rfl (by kernel_rfl)) (d := 41) (v := (.int .i64 ((i : Int)))) rfl (fun _ H' => (by kernel_rfl)) ?_
          refine q_val (wantsY 2 36 true rfl (by kernel_rfl) rfl (by kernel_rfl)) (d := 42) (v := (.int .i64 ((i : Int) - 1))) rfl (fun _ H' => (e_int (z := (i : Int) - 1) (by kernel_rfl) (IntWalk.i64_in _ (by omega)))) ?_
          obtain ⟨g56, o57, c58, e59, R60⟩ := SliceOf.atD hS stamp0 (show ((i : Int) - 1).toNat < S.length by omega)
          refine q_val (wantsY 2 36 true rfl (by kernel_rfl) rfl (by kernel_rfl)) (d := 43) (v := (.pointer (some ⟨g56, o57 + ((i : Int) - 1).toNat * 38, none⟩))) rfl (fun _ H' => (e_indexAddrW (E := 49) (by kernel_rfl) (by kernel_rfl) (Nat.le_of_ble_eq_true rfl) rfl e59 rfl (by omega) (by omega))) ?_
          refine q_val (wantsY 2 36 true rfl (by kernel_rfl) rfl (by kernel_rfl)) (d := 44) (v := (.pointer (some ⟨g56, o57 + ((i : Int) - 1).toNat * 38, none⟩))) rfl (fun _ H' => (by kernel_rfl)) ?_
          refine q_val (wantsY 2 36 true rfl (by kernel_rfl) rfl (by kernel_rfl)) (d := 45) (v := (.int .i64 ((S.getD ((i : Int) - 1).toNat stamp0).r))) rfl (fun _ H' => (e_load1 rfl (by kernel_rfl) (H'.cellR 0 rfl (cells_at R60 0 (by kernel_rfl) (show o57 + ((i : Int) - 1).toNat * 38 = o57 + ((i : Int) - 1).toNat * 38 + 0 by omega)) (fun h => h)))) ?_
          refine q_val (wantsY 2 36 true rfl (by kernel_rfl) rfl (by kernel_rfl)) (d := 46) (v := (.bool (decide (((S.getD i stamp0).r) ≤ ((S.getD ((i : Int) - 1).toNat stamp0).r))))) rfl (fun _ H' => (by kernel_rfl)) ?_
          refine q_val (wants0 rfl) (d := 47) (v := (.bool (decide (((S.getD i stamp0).r) ≤ ((S.getD ((i : Int) - 1).toNat stamp0).r))))) rfl (fun _ H' => (by kernel_rfl)) ?_
          refine q_val (wants0 rfl) (d := 48) (v := (.bool (decide (((S.getD i stamp0).r) ≤ ((S.getD ((i : Int) - 1).toNat stamp0).r))))) rfl (fun _ H' => (by kernel_rfl)) ?_
          refine (bsplit (decide (((S.getD i stamp0).r) ≤ ((S.getD ((i : Int) - 1).toNat stamp0).r)))).elim (fun b61 => ?_) (fun b61 => ?_)
          · have g62 := of_decide_eq_true b61
            refine q_know 48 (.bool true) (congrArg Value.bool b61) ?_
            have g63 := of_decide_eq_true b61
            refine q_pass (wantsN 14 48 false rfl (by kernel_rfl) rfl (by kernel_rfl)) rfl ?_
            refine q_pass (wantsN 14 48 false rfl (by kernel_rfl) rfl (by kernel_rfl)) rfl ?_
            refine q_pass (wantsN 14 48 false rfl (by kernel_rfl) rfl (by kernel_rfl)) rfl ?_
            refine q_pass (wantsN 14 48 false rfl (by kernel_rfl) rfl (by kernel_rfl)) rfl ?_
            refine q_pass (wantsN 14 48 false rfl (by kernel_rfl) rfl (by kernel_rfl)) rfl ?_
            refine q_pass (wantsN 14 48 false rfl (by kernel_rfl) rfl (by kernel_rfl)) rfl ?_
            refine q_val (wants0 rfl) (d := 55) (v := (.bool true)) rfl (fun _ H' => (by kernel_rfl)) ?_
            refine q_val (wants0 rfl) (d := 56) (v := (.bool true)) rfl (fun _ H' => (by kernel_rfl)) ?_
            refine q_pass (wantsN 22 56 false rfl (by kernel_rfl) rfl (by kernel_rfl)) rfl ?_
            refine q_pass (wantsN 22 56 false rfl (by kernel_rfl) rfl (by kernel_rfl)) rfl ?_
            refine q_pass (wantsN 22 56 false rfl (by kernel_rfl) rfl (by kernel_rfl)) rfl ?_
            refine q_pass (wantsN 22 56 false rfl (by kernel_rfl) rfl (by kernel_rfl)) rfl ?_
            refine q_pass (wantsN 22 56 false rfl (by kernel_rfl) rfl (by kernel_rfl)) rfl ?_
            refine q_pass (wantsN 22 56 false rfl (by kernel_rfl) rfl (by kernel_rfl)) rfl ?_
            refine q_val (wants0 rfl) (d := 63) (v := (.bool true)) rfl (fun _ H' => (by kernel_rfl)) ?_
            refine q_val (wants0 rfl) (d := 64) (v := (.bool true)) rfl (fun _ H' => (by kernel_rfl)) ?_
            refine q_pass (wantsN 30 64 false rfl (by kernel_rfl) rfl (by kernel_rfl)) rfl ?_
            refine q_pass (wantsN 30 64 false rfl (by kernel_rfl) rfl (by kernel_rfl)) rfl ?_
            refine q_pass (wantsN 30 64 false rfl (by kernel_rfl) rfl (by kernel_rfl)) rfl ?_
            refine q_pass (wantsN 30 64 false rfl (by kernel_rfl) rfl (by kernel_rfl)) rfl ?_
            refine q_pass (wantsN 30 64 false rfl (by kernel_rfl) rfl (by kernel_rfl)) rfl ?_
            refine q_val (wants0 rfl) (d := 70) (v := (.bool true)) rfl (fun _ H' => (by kernel_rfl)) ?_
            refine q_end ?_
            intro w64 H65
            refine then_normal ?_
            refine wp_ift rfl ?_
            refine w_seq ?_
            refine w_lit ?_
            refine wl_pure (wants0 rfl) (d := 6) (v := (.bool false)) rfl (by kernel_rfl) ?_
            refine w_nil ?_
            refine then_normal ?_
            refine w_ret ?_
            refine blk_ret ?_
            refine then_ret ?_
            refine back_ret ?_
            refine blk_ret ?_
            refine then_ret ?_
            refine end1 rfl (res_tmp (v := (.bool false)) rfl) ?_
            have e1 : ((i : Int) - 1).toNat = i - 1 := by omega
            have ho : okAt f L x S i = false := by unfold okAt sameN; rw [← e1]; simp only [b53, b61, Bool.not_true, Bool.or_false, Bool.false_and]
            exact ⟨by simp only [rightX, all_not (show i < S.length by omega) ho, Bool.and_false], H65.upd 0 rfl [] (fun _ h => h.elim)⟩
          · have g66 := of_decide_eq_false b61
            refine q_know 48 (.bool false) (congrArg Value.bool b61) ?_
            have g67 := of_decide_eq_false b61
            refine q_val (wantsY 14 48 false rfl (by kernel_rfl) rfl (by kernel_rfl)) (d := 49) (v := (.pointer (some ⟨b46, 1, none⟩))) rfl (fun _ H' => (by kernel_rfl)) ?_
            refine q_val (wantsY 14 48 false rfl (by kernel_rfl) rfl (by kernel_rfl)) (d := 50) (v := (.agg ⟨([(.int .i64 ((S.getD i stamp0).cl)), (.int .i64 ((S.getD i stamp0).seq))] : List Value)⟩)) rfl (fun _ H' => (e_loadN (vs := ([(.int .i64 ((S.getD i stamp0).cl)), (.int .i64 ((S.getD i stamp0).seq))] : List Value)) rfl (by kernel_rfl) (by kernel_rfl) (by exact Nat.le_of_ble_eq_true (by kernel_rfl)) (H'.at 3 rfl) (by kernel_rfl))) ?_
            refine q_val (wantsY 14 48 false rfl (by kernel_rfl) rfl (by kernel_rfl)) (d := 51) (v := (.pointer (some ⟨b6, 0, none⟩))) rfl (fun _ H' => (by kernel_rfl)) ?_
            refine q_val (wantsY 14 48 false rfl (by kernel_rfl) rfl (by kernel_rfl)) (d := 52) (v := (.pointer (some ⟨b6, 0, none⟩))) rfl (fun _ H' => (by kernel_rfl)) ?_
            refine q_val (wantsY 14 48 false rfl (by kernel_rfl) rfl (by kernel_rfl)) (d := 53) (v := (.agg ⟨([(.int .i64 (x.cl)), (.int .i64 (x.seq))] : List Value)⟩)) rfl (fun _ H' => (e_loadN (vs := ([(.int .i64 (x.cl)), (.int .i64 (x.seq))] : List Value)) rfl (by kernel_rfl) (by kernel_rfl) (by exact Nat.le_of_ble_eq_true (by kernel_rfl)) (H'.at 2 rfl) (by kernel_rfl))) ?_
            refine q_val (wantsY 14 48 false rfl (by kernel_rfl) rfl (by kernel_rfl)) (d := 54) (v := (.bool (!(decide (((S.getD i stamp0).cl) = x.cl ∧ ((S.getD i stamp0).seq) = x.seq))))) rfl (fun _ H' => (e_neqName ((S.getD i stamp0).cl) ((S.getD i stamp0).seq) x.cl x.seq rfl rfl)) ?_
            refine q_val (wants0 rfl) (d := 55) (v := (.bool (!(decide (((S.getD i stamp0).cl) = x.cl ∧ ((S.getD i stamp0).seq) = x.seq))))) rfl (fun _ H' => (by kernel_rfl)) ?_
            refine q_val (wants0 rfl) (d := 56) (v := (.bool (!(decide (((S.getD i stamp0).cl) = x.cl ∧ ((S.getD i stamp0).seq) = x.seq))))) rfl (fun _ H' => (by kernel_rfl)) ?_
            refine (bsplit (!(decide (((S.getD i stamp0).cl) = x.cl ∧ ((S.getD i stamp0).seq) = x.seq)))).elim (fun b68 => ?_) (fun b68 => ?_)
            · have g69 := bnot_true b68
              refine q_know 56 (.bool true) (congrArg Value.bool b68) ?_
              have g70 := bnot_true b68
              refine q_pass (wantsN 22 56 false rfl (by kernel_rfl) rfl (by kernel_rfl)) rfl ?_
              refine q_pass (wantsN 22 56 false rfl (by kernel_rfl) rfl (by kernel_rfl)) rfl ?_
              refine q_pass (wantsN 22 56 false rfl (by kernel_rfl) rfl (by kernel_rfl)) rfl ?_
              refine q_pass (wantsN 22 56 false rfl (by kernel_rfl) rfl (by kernel_rfl)) rfl ?_
              refine q_pass (wantsN 22 56 false rfl (by kernel_rfl) rfl (by kernel_rfl)) rfl ?_
              refine q_pass (wantsN 22 56 false rfl (by kernel_rfl) rfl (by kernel_rfl)) rfl ?_
              refine q_val (wants0 rfl) (d := 63) (v := (.bool true)) rfl (fun _ H' => (by kernel_rfl)) ?_
              refine q_val (wants0 rfl) (d := 64) (v := (.bool true)) rfl (fun _ H' => (by kernel_rfl)) ?_
              refine q_pass (wantsN 30 64 false rfl (by kernel_rfl) rfl (by kernel_rfl)) rfl ?_
              refine q_pass (wantsN 30 64 false rfl (by kernel_rfl) rfl (by kernel_rfl)) rfl ?_
              refine q_pass (wantsN 30 64 false rfl (by kernel_rfl) rfl (by kernel_rfl)) rfl ?_
              refine q_pass (wantsN 30 64 false rfl (by kernel_rfl) rfl (by kernel_rfl)) rfl ?_
              refine q_pass (wantsN 30 64 false rfl (by kernel_rfl) rfl (by kernel_rfl)) rfl ?_
              refine q_val (wants0 rfl) (d := 70) (v := (.bool true)) rfl (fun _ H' => (by kernel_rfl)) ?_
              refine q_end ?_
              intro w71 H72
              refine then_normal ?_
              refine wp_ift rfl ?_
              refine w_seq ?_
              refine w_lit ?_
              refine wl_pure (wants0 rfl) (d := 6) (v := (.bool false)) rfl (by kernel_rfl) ?_
              refine w_nil ?_
              refine then_normal ?_
              refine w_ret ?_
              refine blk_ret ?_
              refine then_ret ?_
              refine back_ret ?_
              refine blk_ret ?_
              refine then_ret ?_
              refine end1 rfl (res_tmp (v := (.bool false)) rfl) ?_
              have n73 := bnot_true b68
              have e1 : ((i : Int) - 1).toNat = i - 1 := by omega
              have ho : okAt f L x S i = false := by unfold okAt sameN; rw [← e1]; simp only [b53, b61, n73, Bool.not_true, Bool.not_false, Bool.or_true, Bool.and_false, Bool.false_and]
              exact ⟨by simp only [rightX, all_not (show i < S.length by omega) ho, Bool.and_false], H72.upd 0 rfl [] (fun _ h => h.elim)⟩
            · have g74 := bnot_false b68
              refine q_know 56 (.bool false) (congrArg Value.bool b68) ?_
              have g75 := bnot_false b68
              refine q_val (wantsY 22 56 false rfl (by kernel_rfl) rfl (by kernel_rfl)) (d := 57) (v := (.pointer (some ⟨b46, 3, none⟩))) rfl (fun _ H' => (by kernel_rfl)) ?_
              refine q_val (wantsY 22 56 false rfl (by kernel_rfl) rfl (by kernel_rfl)) (d := 58) (v := (.agg ⟨(hc (S.getD i stamp0).h)⟩)) rfl (fun _ H' => (e_loadN (vs := (hc (S.getD i stamp0).h)) rfl (by kernel_rfl) (by kernel_rfl) (by exact Nat.le_of_ble_eq_true (by kernel_rfl)) (H'.at 3 rfl) (by kernel_rfl))) ?_
              refine q_val (wantsY 22 56 false rfl (by kernel_rfl) rfl (by kernel_rfl)) (d := 59) (v := (.pointer (some ⟨b6, 0, none⟩))) rfl (fun _ H' => (by kernel_rfl)) ?_
              refine q_val (wantsY 22 56 false rfl (by kernel_rfl) rfl (by kernel_rfl)) (d := 60) (v := (.pointer (some ⟨b6, 2, none⟩))) rfl (fun _ H' => (by kernel_rfl)) ?_
              refine q_val (wantsY 22 56 false rfl (by kernel_rfl) rfl (by kernel_rfl)) (d := 61) (v := (.agg ⟨(hc x.h)⟩)) rfl (fun _ H' => (e_loadN (vs := (hc x.h)) rfl (by kernel_rfl) (by kernel_rfl) (by exact Nat.le_of_ble_eq_true (by kernel_rfl)) (H'.at 2 rfl) (by kernel_rfl))) ?_
              refine q_val (wantsY 22 56 false rfl (by kernel_rfl) rfl (by kernel_rfl)) (d := 62) (v := (.bool (!(decide (((S.getD i stamp0).h) = x.h))))) rfl (fun _ H' => (e_neHash ((S.getD i stamp0).h) x.h rfl rfl)) ?_
              refine q_val (wants0 rfl) (d := 63) (v := (.bool (!(decide (((S.getD i stamp0).h) = x.h))))) rfl (fun _ H' => (by kernel_rfl)) ?_
              refine q_val (wants0 rfl) (d := 64) (v := (.bool (!(decide (((S.getD i stamp0).h) = x.h))))) rfl (fun _ H' => (by kernel_rfl)) ?_
              refine (bsplit (!(decide (((S.getD i stamp0).h) = x.h)))).elim (fun b76 => ?_) (fun b76 => ?_)
              · have g77 := bnot_true b76
                have g78 := of_decide_eq_false g77
                refine q_know 64 (.bool true) (congrArg Value.bool b76) ?_
                have g79 := bnot_true b76
                have g80 := of_decide_eq_false g79
                refine q_pass (wantsN 30 64 false rfl (by kernel_rfl) rfl (by kernel_rfl)) rfl ?_
                refine q_pass (wantsN 30 64 false rfl (by kernel_rfl) rfl (by kernel_rfl)) rfl ?_
                refine q_pass (wantsN 30 64 false rfl (by kernel_rfl) rfl (by kernel_rfl)) rfl ?_
                refine q_pass (wantsN 30 64 false rfl (by kernel_rfl) rfl (by kernel_rfl)) rfl ?_
                refine q_pass (wantsN 30 64 false rfl (by kernel_rfl) rfl (by kernel_rfl)) rfl ?_
                refine q_val (wants0 rfl) (d := 70) (v := (.bool true)) rfl (fun _ H' => (by kernel_rfl)) ?_
                refine q_end ?_
                intro w81 H82
                refine then_normal ?_
                refine wp_ift rfl ?_
                refine w_seq ?_
                refine w_lit ?_
                refine wl_pure (wants0 rfl) (d := 6) (v := (.bool false)) rfl (by kernel_rfl) ?_
                refine w_nil ?_
                refine then_normal ?_
                refine w_ret ?_
                refine blk_ret ?_
                refine then_ret ?_
                refine back_ret ?_
                refine blk_ret ?_
                refine then_ret ?_
                refine end1 rfl (res_tmp (v := (.bool false)) rfl) ?_
                have n83 := bnot_false b68
                have n84 := bnot_true b76
                have e1 : ((i : Int) - 1).toNat = i - 1 := by omega
                have ho : okAt f L x S i = false := by unfold okAt sameN; rw [← e1]; simp only [b53, b61, n83, n84, Bool.not_true, Bool.not_false, Bool.or_true, Bool.and_false, Bool.false_and]
                exact ⟨by simp only [rightX, all_not (show i < S.length by omega) ho, Bool.and_false], H82.upd 0 rfl [] (fun _ h => h.elim)⟩
              · have g85 := bnot_false b76
                have g86 := of_decide_eq_true g85
                refine q_know 64 (.bool false) (congrArg Value.bool b76) ?_
                have g87 := bnot_false b76
                have g88 := of_decide_eq_true g87
                refine q_val (wantsY 30 64 false rfl (by kernel_rfl) rfl (by kernel_rfl)) (d := 65) (v := (.agg ⟨([(.int .i64 (f)), (.int .i64 (cn))] : List Value)⟩)) rfl (fun _ H' => (e_loadN (vs := ([(.int .i64 (f)), (.int .i64 (cn))] : List Value)) rfl (by kernel_rfl) (by kernel_rfl) (by exact Nat.le_of_ble_eq_true (by kernel_rfl)) (H'.at 1 rfl) (by kernel_rfl))) ?_
                refine q_val (wantsY 30 64 false rfl (by kernel_rfl) rfl (by kernel_rfl)) (d := 66) (v := (.pointer (some ⟨r, 0, none⟩))) rfl (fun _ H' => (by kernel_rfl)) ?_
                refine q_val (wantsY 30 64 false rfl (by kernel_rfl) rfl (by kernel_rfl)) (d := 67) (v := (.agg ⟨(([(.int .i64 ((S.getD i stamp0).r)), (.int .i64 ((S.getD i stamp0).cl)), (.int .i64 ((S.getD i stamp0).seq))] : List Value) ++ hc (S.getD i stamp0).h ++ ([(.int .u64 ((S.getD i stamp0).t)), (.int .i64 ((S.getD i stamp0).sb)), (.int .i64 ((S.getD i stamp0).sm))] : List Value))⟩)) rfl (fun _ H' => (e_loadN (vs := (([(.int .i64 ((S.getD i stamp0).r)), (.int .i64 ((S.getD i stamp0).cl)), (.int .i64 ((S.getD i stamp0).seq))] : List Value) ++ hc (S.getD i stamp0).h ++ ([(.int .u64 ((S.getD i stamp0).t)), (.int .i64 ((S.getD i stamp0).sb)), (.int .i64 ((S.getD i stamp0).sm))] : List Value))) rfl (by kernel_rfl) (by kernel_rfl) (by exact Nat.le_of_ble_eq_true (by kernel_rfl)) (H'.at 3 rfl) (by kernel_rfl))) ?_
                refine q_call (wantsY 30 64 false rfl (by kernel_rfl) rfl (by kernel_rfl)) (d := 68) (v := (.bool (rightS f L (S.getD i stamp0)))) rfl (fun _ _ => by kernel_rfl) (fun w' H' => (rRightS_any w' f cn (by omega) r ra rc L (H'.roCk 0 rfl hb (fun _ _ h => h)) (H'.roCk 0 rfl hr (fun _ _ h => h)) hn hL (S.getD i stamp0) (hok _ (by omega))).mono fun _ _ h => ⟨h.1, H'.keepU h.2⟩) ?_
                refine q_val (wantsY 30 64 false rfl (by kernel_rfl) rfl (by kernel_rfl)) (d := 69) (v := (.bool (!(rightS f L (S.getD i stamp0))))) rfl (fun _ H' => (by kernel_rfl)) ?_
                refine q_val (wants0 rfl) (d := 70) (v := (.bool (!(rightS f L (S.getD i stamp0))))) rfl (fun _ H' => (by kernel_rfl)) ?_
                refine q_end ?_
                intro w89 H90
                refine then_normal ?_
                refine (bsplit (!(rightS f L (S.getD i stamp0)))).elim (fun b91 => ?_) (fun b91 => ?_)
                · have g92 := bnot_true b91
                  refine wp_know 70 (.bool true) (congrArg Value.bool b91) ?_
                  have g93 := bnot_true b91
                  refine wp_ift rfl ?_
                  refine w_seq ?_
                  refine w_lit ?_
                  refine wl_pure (wants0 rfl) (d := 6) (v := (.bool false)) rfl (by kernel_rfl) ?_
                  refine w_nil ?_
                  refine then_normal ?_
                  refine w_ret ?_
                  refine blk_ret ?_
                  refine then_ret ?_
                  refine back_ret ?_
                  refine blk_ret ?_
                  refine then_ret ?_
                  refine end1 rfl (res_tmp (v := (.bool false)) rfl) ?_
                  have n94 := bnot_false b68
                  have n95 := bnot_false b76
                  have n96 := bnot_true b91
                  have e1 : ((i : Int) - 1).toNat = i - 1 := by omega
                  have ho : okAt f L x S i = false := by unfold okAt sameN; rw [← e1]; simp only [b53, b61, n94, n95, n96, Bool.not_true, Bool.not_false, Bool.or_true, Bool.and_true, Bool.and_false]
                  exact ⟨by simp only [rightX, all_not (show i < S.length by omega) ho, Bool.and_false], H90.upd 0 rfl [] (fun _ h => h.elim)⟩
                · have g97 := bnot_false b91
                  refine wp_know 70 (.bool false) (congrArg Value.bool b91) ?_
                  have g98 := bnot_false b91
                  refine wp_iff rfl ?_
                  refine w_skip ?_
                  refine blk_normal ?_
                  refine then_normal ?_
                  refine w_lit ?_
                  refine wl_pure (wants0 rfl) (d := 71) (v := (.int .i64 ((i : Int) + 1))) rfl (e_int (z := (i : Int) + 1) (by kernel_rfl) (IntWalk.i64_in _ (by omega))) ?_
                  refine wl_pure (wants0 rfl) (d := 26) (v := (.int .i64 ((i : Int) + 1))) rfl (by kernel_rfl) ?_
                  refine w_nil ?_
                  have n99 := bnot_false b68
                  have n100 := bnot_false b76
                  have n101 := bnot_false b91
                  have e1 : ((i : Int) - 1).toNat = i - 1 := by omega
                  have ho : okAt f L x S i = true := by unfold okAt sameN; rw [← e1]; simp only [b53, b61, n99, n100, n101, Bool.not_true, Bool.not_false, Bool.or_true, Bool.and_true]
                  have H102 : Sat w [restC w (fun _ => False), cellC b2 36 ([(.int .i64 (f)), (.int .i64 (cn))] : List Value), cellC b6 47 (([(.int .i64 (x.cl)), (.int .i64 (x.seq))] : List Value) ++ hc x.h ++ ([(.int .i64 (x.len)), (.int .i64 (x.sb)), (.int .i64 (x.sm)), (.slice sa S.length sc)] : List Value))] w89 := H90.pick [0, 1, 2] (by decide)
                  refine round_back ?_ _ ⟨(i + 1), (show ((.int .i64 ((i : Int) + 1)) : Value) = _ by first | rfl | go_num), (by omega), (fun j hj => by rcases Nat.lt_or_ge j i with h | h; exact hall j h; rw [show j = i by omega]; exact ho), H102, rfl⟩ (by omega)
                  exact (same_upd rfl (same_upd rfl (same_upd rfl (same_upd rfl (same_upd rfl (same_upd rfl (same_upd rfl (same_upd rfl (same_upd rfl (same_upd rfl (same_upd rfl (same_upd rfl (same_upd rfl (same_upd rfl (same_upd rfl (same_upd rfl (same_upd rfl (same_upd rfl (same_upd rfl (same_upd rfl (same_upd rfl (same_upd rfl (same_upd rfl (same_upd rfl (same_upd rfl (same_upd rfl (same_upd rfl (same_upd rfl (same_upd rfl (same_upd rfl (same_upd rfl (same_upd rfl (same_upd rfl (same_upd rfl (same_upd rfl (same_upd rfl (same_upd rfl (same_upd rfl (same_upd rfl (same_upd rfl (same_upd rfl (same_upd rfl (same_upd rfl (same_upd rfl (same_upd rfl (same_upd rfl (same_upd rfl (same_upd rfl (same_upd rfl (same_upd rfl (same_upd rfl (same_upd rfl (same_upd rfl (same_upd rfl (same_upd rfl (same_ovr))))))))))))))))))))))))))))))))))))))))))))))))))))))))
        · have g103 := of_decide_eq_false b53
          refine q_know 36 (.bool false) (congrArg Value.bool b53) ?_
          have g104 := of_decide_eq_false b53
          refine q_pass (wantsN 2 36 true rfl (by kernel_rfl) rfl (by kernel_rfl)) rfl ?_
          refine q_pass (wantsN 2 36 true rfl (by kernel_rfl) rfl (by kernel_rfl)) rfl ?_
          refine q_pass (wantsN 2 36 true rfl (by kernel_rfl) rfl (by kernel_rfl)) rfl ?_
          refine q_pass (wantsN 2 36 true rfl (by kernel_rfl) rfl (by kernel_rfl)) rfl ?_
          refine q_pass (wantsN 2 36 true rfl (by kernel_rfl) rfl (by kernel_rfl)) rfl ?_
          refine q_pass (wantsN 2 36 true rfl (by kernel_rfl) rfl (by kernel_rfl)) rfl ?_
          refine q_pass (wantsN 2 36 true rfl (by kernel_rfl) rfl (by kernel_rfl)) rfl ?_
          refine q_pass (wantsN 2 36 true rfl (by kernel_rfl) rfl (by kernel_rfl)) rfl ?_
          refine q_pass (wantsN 2 36 true rfl (by kernel_rfl) rfl (by kernel_rfl)) rfl ?_
          refine q_pass (wantsN 2 36 true rfl (by kernel_rfl) rfl (by kernel_rfl)) rfl ?_
          refine q_val (wants0 rfl) (d := 47) (v := (.bool false)) rfl (fun _ H' => (by kernel_rfl)) ?_
          refine q_val (wants0 rfl) (d := 48) (v := (.bool false)) rfl (fun _ H' => (by kernel_rfl)) ?_
          refine q_val (wantsY 14 48 false rfl (by kernel_rfl) rfl (by kernel_rfl)) (d := 49) (v := (.pointer (some ⟨b46, 1, none⟩))) rfl (fun _ H' => (by kernel_rfl)) ?_
          refine q_val (wantsY 14 48 false rfl (by kernel_rfl) rfl (by kernel_rfl)) (d := 50) (v := (.agg ⟨([(.int .i64 ((S.getD i stamp0).cl)), (.int .i64 ((S.getD i stamp0).seq))] : List Value)⟩)) rfl (fun _ H' => (e_loadN (vs := ([(.int .i64 ((S.getD i stamp0).cl)), (.int .i64 ((S.getD i stamp0).seq))] : List Value)) rfl (by kernel_rfl) (by kernel_rfl) (by exact Nat.le_of_ble_eq_true (by kernel_rfl)) (H'.at 3 rfl) (by kernel_rfl))) ?_
          refine q_val (wantsY 14 48 false rfl (by kernel_rfl) rfl (by kernel_rfl)) (d := 51) (v := (.pointer (some ⟨b6, 0, none⟩))) rfl (fun _ H' => (by kernel_rfl)) ?_
          refine q_val (wantsY 14 48 false rfl (by kernel_rfl) rfl (by kernel_rfl)) (d := 52) (v := (.pointer (some ⟨b6, 0, none⟩))) rfl (fun _ H' => (by kernel_rfl)) ?_
          refine q_val (wantsY 14 48 false rfl (by kernel_rfl) rfl (by kernel_rfl)) (d := 53) (v := (.agg ⟨([(.int .i64 (x.cl)), (.int .i64 (x.seq))] : List Value)⟩)) rfl (fun _ H' => (e_loadN (vs := ([(.int .i64 (x.cl)), (.int .i64 (x.seq))] : List Value)) rfl (by kernel_rfl) (by kernel_rfl) (by exact Nat.le_of_ble_eq_true (by kernel_rfl)) (H'.at 2 rfl) (by kernel_rfl))) ?_
          refine q_val (wantsY 14 48 false rfl (by kernel_rfl) rfl (by kernel_rfl)) (d := 54) (v := (.bool (!(decide (((S.getD i stamp0).cl) = x.cl ∧ ((S.getD i stamp0).seq) = x.seq))))) rfl (fun _ H' => (e_neqName ((S.getD i stamp0).cl) ((S.getD i stamp0).seq) x.cl x.seq rfl rfl)) ?_
          refine q_val (wants0 rfl) (d := 55) (v := (.bool (!(decide (((S.getD i stamp0).cl) = x.cl ∧ ((S.getD i stamp0).seq) = x.seq))))) rfl (fun _ H' => (by kernel_rfl)) ?_
          refine q_val (wants0 rfl) (d := 56) (v := (.bool (!(decide (((S.getD i stamp0).cl) = x.cl ∧ ((S.getD i stamp0).seq) = x.seq))))) rfl (fun _ H' => (by kernel_rfl)) ?_
          refine (bsplit (!(decide (((S.getD i stamp0).cl) = x.cl ∧ ((S.getD i stamp0).seq) = x.seq)))).elim (fun b105 => ?_) (fun b105 => ?_)
          · have g106 := bnot_true b105
            refine q_know 56 (.bool true) (congrArg Value.bool b105) ?_
            have g107 := bnot_true b105
            refine q_pass (wantsN 22 56 false rfl (by kernel_rfl) rfl (by kernel_rfl)) rfl ?_
            refine q_pass (wantsN 22 56 false rfl (by kernel_rfl) rfl (by kernel_rfl)) rfl ?_
            refine q_pass (wantsN 22 56 false rfl (by kernel_rfl) rfl (by kernel_rfl)) rfl ?_
            refine q_pass (wantsN 22 56 false rfl (by kernel_rfl) rfl (by kernel_rfl)) rfl ?_
            refine q_pass (wantsN 22 56 false rfl (by kernel_rfl) rfl (by kernel_rfl)) rfl ?_
            refine q_pass (wantsN 22 56 false rfl (by kernel_rfl) rfl (by kernel_rfl)) rfl ?_
            refine q_val (wants0 rfl) (d := 63) (v := (.bool true)) rfl (fun _ H' => (by kernel_rfl)) ?_
            refine q_val (wants0 rfl) (d := 64) (v := (.bool true)) rfl (fun _ H' => (by kernel_rfl)) ?_
            refine q_pass (wantsN 30 64 false rfl (by kernel_rfl) rfl (by kernel_rfl)) rfl ?_
            refine q_pass (wantsN 30 64 false rfl (by kernel_rfl) rfl (by kernel_rfl)) rfl ?_
            refine q_pass (wantsN 30 64 false rfl (by kernel_rfl) rfl (by kernel_rfl)) rfl ?_
            refine q_pass (wantsN 30 64 false rfl (by kernel_rfl) rfl (by kernel_rfl)) rfl ?_
            refine q_pass (wantsN 30 64 false rfl (by kernel_rfl) rfl (by kernel_rfl)) rfl ?_
            refine q_val (wants0 rfl) (d := 70) (v := (.bool true)) rfl (fun _ H' => (by kernel_rfl)) ?_
            refine q_end ?_
            intro w108 H109
            refine then_normal ?_
            refine wp_ift rfl ?_
            refine w_seq ?_
            refine w_lit ?_
            refine wl_pure (wants0 rfl) (d := 6) (v := (.bool false)) rfl (by kernel_rfl) ?_
            refine w_nil ?_
            refine then_normal ?_
            refine w_ret ?_
            refine blk_ret ?_
            refine then_ret ?_
            refine back_ret ?_
            refine blk_ret ?_
            refine then_ret ?_
            refine end1 rfl (res_tmp (v := (.bool false)) rfl) ?_
            have n110 := bnot_true b105
            have e1 : ((i : Int) - 1).toNat = i - 1 := by omega
            have ho : okAt f L x S i = false := by unfold okAt sameN; rw [← e1]; simp only [b53, n110, Bool.not_false, Bool.true_or, Bool.and_false, Bool.false_and]
            exact ⟨by simp only [rightX, all_not (show i < S.length by omega) ho, Bool.and_false], H109.upd 0 rfl [] (fun _ h => h.elim)⟩
          · have g111 := bnot_false b105
            refine q_know 56 (.bool false) (congrArg Value.bool b105) ?_
            have g112 := bnot_false b105
            refine q_val (wantsY 22 56 false rfl (by kernel_rfl) rfl (by kernel_rfl)) (d := 57) (v := (.pointer (some ⟨b46, 3, none⟩))) rfl (fun _ H' => (by kernel_rfl)) ?_
            refine q_val (wantsY 22 56 false rfl (by kernel_rfl) rfl (by kernel_rfl)) (d := 58) (v := (.agg ⟨(hc (S.getD i stamp0).h)⟩)) rfl (fun _ H' => (e_loadN (vs := (hc (S.getD i stamp0).h)) rfl (by kernel_rfl) (by kernel_rfl) (by exact Nat.le_of_ble_eq_true (by kernel_rfl)) (H'.at 3 rfl) (by kernel_rfl))) ?_
            refine q_val (wantsY 22 56 false rfl (by kernel_rfl) rfl (by kernel_rfl)) (d := 59) (v := (.pointer (some ⟨b6, 0, none⟩))) rfl (fun _ H' => (by kernel_rfl)) ?_
            refine q_val (wantsY 22 56 false rfl (by kernel_rfl) rfl (by kernel_rfl)) (d := 60) (v := (.pointer (some ⟨b6, 2, none⟩))) rfl (fun _ H' => (by kernel_rfl)) ?_
            refine q_val (wantsY 22 56 false rfl (by kernel_rfl) rfl (by kernel_rfl)) (d := 61) (v := (.agg ⟨(hc x.h)⟩)) rfl (fun _ H' => (e_loadN (vs := (hc x.h)) rfl (by kernel_rfl) (by kernel_rfl) (by exact Nat.le_of_ble_eq_true (by kernel_rfl)) (H'.at 2 rfl) (by kernel_rfl))) ?_
            refine q_val (wantsY 22 56 false rfl (by kernel_rfl) rfl (by kernel_rfl)) (d := 62) (v := (.bool (!(decide (((S.getD i stamp0).h) = x.h))))) rfl (fun _ H' => (e_neHash ((S.getD i stamp0).h) x.h rfl rfl)) ?_
            refine q_val (wants0 rfl) (d := 63) (v := (.bool (!(decide (((S.getD i stamp0).h) = x.h))))) rfl (fun _ H' => (by kernel_rfl)) ?_
            refine q_val (wants0 rfl) (d := 64) (v := (.bool (!(decide (((S.getD i stamp0).h) = x.h))))) rfl (fun _ H' => (by kernel_rfl)) ?_
            refine (bsplit (!(decide (((S.getD i stamp0).h) = x.h)))).elim (fun b113 => ?_) (fun b113 => ?_)
            · have g114 := bnot_true b113
              have g115 := of_decide_eq_false g114
              refine q_know 64 (.bool true) (congrArg Value.bool b113) ?_
              have g116 := bnot_true b113
              have g117 := of_decide_eq_false g116
              refine q_pass (wantsN 30 64 false rfl (by kernel_rfl) rfl (by kernel_rfl)) rfl ?_
              refine q_pass (wantsN 30 64 false rfl (by kernel_rfl) rfl (by kernel_rfl)) rfl ?_
              refine q_pass (wantsN 30 64 false rfl (by kernel_rfl) rfl (by kernel_rfl)) rfl ?_
              refine q_pass (wantsN 30 64 false rfl (by kernel_rfl) rfl (by kernel_rfl)) rfl ?_
              refine q_pass (wantsN 30 64 false rfl (by kernel_rfl) rfl (by kernel_rfl)) rfl ?_
              refine q_val (wants0 rfl) (d := 70) (v := (.bool true)) rfl (fun _ H' => (by kernel_rfl)) ?_
              refine q_end ?_
              intro w118 H119
              refine then_normal ?_
              refine wp_ift rfl ?_
              refine w_seq ?_
              refine w_lit ?_
              refine wl_pure (wants0 rfl) (d := 6) (v := (.bool false)) rfl (by kernel_rfl) ?_
              refine w_nil ?_
              refine then_normal ?_
              refine w_ret ?_
              refine blk_ret ?_
              refine then_ret ?_
              refine back_ret ?_
              refine blk_ret ?_
              refine then_ret ?_
              refine end1 rfl (res_tmp (v := (.bool false)) rfl) ?_
              have n120 := bnot_false b105
              have n121 := bnot_true b113
              have e1 : ((i : Int) - 1).toNat = i - 1 := by omega
              have ho : okAt f L x S i = false := by unfold okAt sameN; rw [← e1]; simp only [b53, n120, n121, Bool.not_false, Bool.true_or, Bool.and_false, Bool.false_and]
              exact ⟨by simp only [rightX, all_not (show i < S.length by omega) ho, Bool.and_false], H119.upd 0 rfl [] (fun _ h => h.elim)⟩
            · have g122 := bnot_false b113
              have g123 := of_decide_eq_true g122
              refine q_know 64 (.bool false) (congrArg Value.bool b113) ?_
              have g124 := bnot_false b113
              have g125 := of_decide_eq_true g124
              refine q_val (wantsY 30 64 false rfl (by kernel_rfl) rfl (by kernel_rfl)) (d := 65) (v := (.agg ⟨([(.int .i64 (f)), (.int .i64 (cn))] : List Value)⟩)) rfl (fun _ H' => (e_loadN (vs := ([(.int .i64 (f)), (.int .i64 (cn))] : List Value)) rfl (by kernel_rfl) (by kernel_rfl) (by exact Nat.le_of_ble_eq_true (by kernel_rfl)) (H'.at 1 rfl) (by kernel_rfl))) ?_
              refine q_val (wantsY 30 64 false rfl (by kernel_rfl) rfl (by kernel_rfl)) (d := 66) (v := (.pointer (some ⟨r, 0, none⟩))) rfl (fun _ H' => (by kernel_rfl)) ?_
              refine q_val (wantsY 30 64 false rfl (by kernel_rfl) rfl (by kernel_rfl)) (d := 67) (v := (.agg ⟨(([(.int .i64 ((S.getD i stamp0).r)), (.int .i64 ((S.getD i stamp0).cl)), (.int .i64 ((S.getD i stamp0).seq))] : List Value) ++ hc (S.getD i stamp0).h ++ ([(.int .u64 ((S.getD i stamp0).t)), (.int .i64 ((S.getD i stamp0).sb)), (.int .i64 ((S.getD i stamp0).sm))] : List Value))⟩)) rfl (fun _ H' => (e_loadN (vs := (([(.int .i64 ((S.getD i stamp0).r)), (.int .i64 ((S.getD i stamp0).cl)), (.int .i64 ((S.getD i stamp0).seq))] : List Value) ++ hc (S.getD i stamp0).h ++ ([(.int .u64 ((S.getD i stamp0).t)), (.int .i64 ((S.getD i stamp0).sb)), (.int .i64 ((S.getD i stamp0).sm))] : List Value))) rfl (by kernel_rfl) (by kernel_rfl) (by exact Nat.le_of_ble_eq_true (by kernel_rfl)) (H'.at 3 rfl) (by kernel_rfl))) ?_
              refine q_call (wantsY 30 64 false rfl (by kernel_rfl) rfl (by kernel_rfl)) (d := 68) (v := (.bool (rightS f L (S.getD i stamp0)))) rfl (fun _ _ => by kernel_rfl) (fun w' H' => (rRightS_any w' f cn (by omega) r ra rc L (H'.roCk 0 rfl hb (fun _ _ h => h)) (H'.roCk 0 rfl hr (fun _ _ h => h)) hn hL (S.getD i stamp0) (hok _ (by omega))).mono fun _ _ h => ⟨h.1, H'.keepU h.2⟩) ?_
              refine q_val (wantsY 30 64 false rfl (by kernel_rfl) rfl (by kernel_rfl)) (d := 69) (v := (.bool (!(rightS f L (S.getD i stamp0))))) rfl (fun _ H' => (by kernel_rfl)) ?_
              refine q_val (wants0 rfl) (d := 70) (v := (.bool (!(rightS f L (S.getD i stamp0))))) rfl (fun _ H' => (by kernel_rfl)) ?_
              refine q_end ?_
              intro w126 H127
              refine then_normal ?_
              refine (bsplit (!(rightS f L (S.getD i stamp0)))).elim (fun b128 => ?_) (fun b128 => ?_)
              · have g129 := bnot_true b128
                refine wp_know 70 (.bool true) (congrArg Value.bool b128) ?_
                have g130 := bnot_true b128
                refine wp_ift rfl ?_
                refine w_seq ?_
                refine w_lit ?_
                refine wl_pure (wants0 rfl) (d := 6) (v := (.bool false)) rfl (by kernel_rfl) ?_
                refine w_nil ?_
                refine then_normal ?_
                refine w_ret ?_
                refine blk_ret ?_
                refine then_ret ?_
                refine back_ret ?_
                refine blk_ret ?_
                refine then_ret ?_
                refine end1 rfl (res_tmp (v := (.bool false)) rfl) ?_
                have n131 := bnot_false b105
                have n132 := bnot_false b113
                have n133 := bnot_true b128
                have e1 : ((i : Int) - 1).toNat = i - 1 := by omega
                have ho : okAt f L x S i = false := by unfold okAt sameN; rw [← e1]; simp only [b53, n131, n132, n133, Bool.not_false, Bool.true_or, Bool.and_true, Bool.and_false]
                exact ⟨by simp only [rightX, all_not (show i < S.length by omega) ho, Bool.and_false], H127.upd 0 rfl [] (fun _ h => h.elim)⟩
              · have g134 := bnot_false b128
                refine wp_know 70 (.bool false) (congrArg Value.bool b128) ?_
                have g135 := bnot_false b128
                refine wp_iff rfl ?_
                refine w_skip ?_
                refine blk_normal ?_
                refine then_normal ?_
                refine w_lit ?_
                refine wl_pure (wants0 rfl) (d := 71) (v := (.int .i64 ((i : Int) + 1))) rfl (e_int (z := (i : Int) + 1) (by kernel_rfl) (IntWalk.i64_in _ (by omega))) ?_
                refine wl_pure (wants0 rfl) (d := 26) (v := (.int .i64 ((i : Int) + 1))) rfl (by kernel_rfl) ?_
                refine w_nil ?_
                have n136 := bnot_false b105
                have n137 := bnot_false b113
                have n138 := bnot_false b128
                have e1 : ((i : Int) - 1).toNat = i - 1 := by omega
                have ho : okAt f L x S i = true := by unfold okAt sameN; rw [← e1]; simp only [b53, n136, n137, n138, Bool.not_false, Bool.true_or, Bool.and_true]
                have H139 : Sat w [restC w (fun _ => False), cellC b2 36 ([(.int .i64 (f)), (.int .i64 (cn))] : List Value), cellC b6 47 (([(.int .i64 (x.cl)), (.int .i64 (x.seq))] : List Value) ++ hc x.h ++ ([(.int .i64 (x.len)), (.int .i64 (x.sb)), (.int .i64 (x.sm)), (.slice sa S.length sc)] : List Value))] w126 := H127.pick [0, 1, 2] (by decide)
                refine round_back ?_ _ ⟨(i + 1), (show ((.int .i64 ((i : Int) + 1)) : Value) = _ by first | rfl | go_num), (by omega), (fun j hj => by rcases Nat.lt_or_ge j i with h | h; exact hall j h; rw [show j = i by omega]; exact ho), H139, rfl⟩ (by omega)
                exact (same_upd rfl (same_upd rfl (same_upd rfl (same_upd rfl (same_upd rfl (same_upd rfl (same_upd rfl (same_upd rfl (same_upd rfl (same_upd rfl (same_upd rfl (same_upd rfl (same_upd rfl (same_upd rfl (same_upd rfl (same_upd rfl (same_upd rfl (same_upd rfl (same_upd rfl (same_upd rfl (same_upd rfl (same_upd rfl (same_upd rfl (same_upd rfl (same_upd rfl (same_upd rfl (same_upd rfl (same_upd rfl (same_upd rfl (same_upd rfl (same_upd rfl (same_upd rfl (same_upd rfl (same_upd rfl (same_upd rfl (same_upd rfl (same_upd rfl (same_upd rfl (same_upd rfl (same_upd rfl (same_upd rfl (same_upd rfl (same_upd rfl (same_upd rfl (same_upd rfl (same_upd rfl (same_upd rfl (same_upd rfl (same_upd rfl (same_upd rfl (same_upd rfl (same_upd rfl (same_upd rfl (same_upd rfl (same_ovr)))))))))))))))))))))))))))))))))))))))))))))))))))))))
      · have g140 := of_decide_eq_false b37
        refine wp_know 27 (.bool false) (congrArg Value.bool b37) ?_
        have g141 := of_decide_eq_false b37
        refine wp_iff rfl ?_
        refine w_exit ?_
        refine then_exit ?_
        refine back_exit ?_
        refine blk_hit ?_
        refine then_normal ?_
        refine w_seq ?_
        refine w_lit ?_
        refine wl_pure (wants0 rfl) (d := 6) (v := (.bool true)) rfl (by kernel_rfl) ?_
        refine w_nil ?_
        refine then_normal ?_
        refine w_ret ?_
        refine end1 rfl (res_tmp (v := (.bool true)) rfl) ?_
        have hn0 : i = S.length := by omega
        subst hn0
        exact ⟨by simp only [rightX, all_upto hall, n30, n31, Bool.and_true], H34.upd 0 rfl [] (fun _ h => h.elim)⟩

end Go.Proofs.Ytbpeofcoceaahaa
