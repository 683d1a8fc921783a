/- WHAT IS PROVED: cert.Make: a contract. Conditions: stated with each. -/
import Derived.Test.YtbpeofcoceaahaaRightD
import Derived.Test.YtbpeofcoceaahaaNumsS
import Derived.Test.YtbpeofcoceaahaaSort10
import Derived.Test.YtbpeofcoceaahaaCmp10
namespace Go.Proofs.Ytbpeofcoceaahaa
open Go.RowKit

set_option maxRecDepth 100000 in
set_option maxHeartbeats 400000 in
theorem zwN_any (w : World) (f cn : Int) (hf : -1099511627776 ≤ f ∧ f ≤ 1099511627776) :
    Calls Try.prog 64 #[(.agg ⟨([(.int .i64 (f)), (.int .i64 (cn))] : List Value)⟩)] w fun e w' => e = .returned (.int .i64 (3 * f + 1)) ∧ Upd [] w w' := by
  have H := Sat.start0 w
  refine calls_fr Try.func64 rfl 7 rfl (Nat.le_of_ble_eq_true rfl) ?_
  refine w_seq ?_
  refine w_lit ?_
  refine wl_do (wants0 rfl) (fun K1 hK1 => ?_)
  refine d_box (vs := ([(.int .i64 (f)), (.int .i64 (cn))] : List Value)) rfl H rfl rfl ?_
  intro b2 w3 (H4 : Sat w [restC w (fun _ => False), cellC b2 36 ([(.int .i64 (f)), (.int .i64 (cn))] : List Value)] w3)
  refine hK1 _ _ ?_
  clear hK1 K1
  refine wl_pure (wants0 rfl) (d := 2) (v := (.int .i64 (0))) rfl (by kernel_rfl) ?_
  refine w_nil ?_
  refine then_normal ?_
  refine w_seq ?_
  refine w_lit ?_
  refine wl_pure (wants0 rfl) (d := 3) (v := (.pointer (some ⟨b2, 0, none⟩))) rfl (by kernel_rfl) ?_
  refine wl_pure (wants0 rfl) (d := 4) (v := (.int .i64 (f))) rfl (e_load1 rfl (by kernel_rfl) (H4.cell 1 rfl rfl)) ?_
  refine wl_pure (wants0 rfl) (d := 5) (v := (.int .i64 (3 * f))) rfl (e_int (z := 3 * f) (by kernel_rfl) (IntWalk.i64_in _ (by omega))) ?_
  refine wl_pure (wants0 rfl) (d := 6) (v := (.int .i64 ((3 * f) + 1))) rfl (e_int (z := (3 * f) + 1) (by kernel_rfl) (IntWalk.i64_in _ (by omega))) ?_
  refine wl_pure (wants0 rfl) (d := 2) (v := (.int .i64 ((3 * f) + 1))) rfl (by kernel_rfl) ?_
  refine w_nil ?_
  refine then_normal ?_
  refine w_ret ?_
  refine end1 rfl (res_tmp (v := (.int .i64 ((3 * f) + 1))) rfl) ?_
  exact ⟨rfl, H4.upd 0 rfl [] (fun _ h => h.elim)⟩

set_option maxRecDepth 100000 in
set_option maxHeartbeats 400000 in
theorem zwQ_any (w : World) (f cn : Int) (hf : -1099511627776 ≤ f ∧ f ≤ 1099511627776) :
    Calls Try.prog 39 #[(.agg ⟨([(.int .i64 (f)), (.int .i64 (cn))] : List Value)⟩)] w fun e w' => e = .returned (.int .i64 (2 * f + 1)) ∧ Upd [] w w' := by
  have H := Sat.start0 w
  refine calls_fr Try.func39 rfl 7 rfl (Nat.le_of_ble_eq_true rfl) ?_
  refine w_seq ?_
  refine w_lit ?_
  refine wl_do (wants0 rfl) (fun K1 hK1 => ?_)
  refine d_box (vs := ([(.int .i64 (f)), (.int .i64 (cn))] : List Value)) rfl H rfl rfl ?_
  intro b2 w3 (H4 : Sat w [restC w (fun _ => False), cellC b2 36 ([(.int .i64 (f)), (.int .i64 (cn))] : List Value)] w3)
  refine hK1 _ _ ?_
  clear hK1 K1
  refine wl_pure (wants0 rfl) (d := 2) (v := (.int .i64 (0))) rfl (by kernel_rfl) ?_
  refine w_nil ?_
  refine then_normal ?_
  refine w_seq ?_
  refine w_lit ?_
  refine wl_pure (wants0 rfl) (d := 3) (v := (.pointer (some ⟨b2, 0, none⟩))) rfl (by kernel_rfl) ?_
  refine wl_pure (wants0 rfl) (d := 4) (v := (.int .i64 (f))) rfl (e_load1 rfl (by kernel_rfl) (H4.cell 1 rfl rfl)) ?_
  refine wl_pure (wants0 rfl) (d := 5) (v := (.int .i64 (2 * f))) rfl (e_int (z := 2 * f) (by kernel_rfl) (IntWalk.i64_in _ (by omega))) ?_
  refine wl_pure (wants0 rfl) (d := 6) (v := (.int .i64 ((2 * f) + 1))) rfl (e_int (z := (2 * f) + 1) (by kernel_rfl) (IntWalk.i64_in _ (by omega))) ?_
  refine wl_pure (wants0 rfl) (d := 2) (v := (.int .i64 ((2 * f) + 1))) rfl (by kernel_rfl) ?_
  refine w_nil ?_
  refine then_normal ?_
  refine w_ret ?_
  refine end1 rfl (res_tmp (v := (.int .i64 ((2 * f) + 1))) rfl) ?_
  exact ⟨rfl, H4.upd 0 rfl [] (fun _ h => h.elim)⟩

set_option maxRecDepth 100000 in
set_option maxHeartbeats 400000 in
theorem zrN_any (w : World) (f cn : Int) (hf : -1099511627776 ≤ f ∧ f ≤ 1099511627776) :
    Calls Try.prog 30 #[(.agg ⟨([(.int .i64 (f)), (.int .i64 (cn))] : List Value)⟩)] w fun e w' => e = .returned (.int .i64 (3 * f + 1)) ∧ Upd [] w w' := by
  have H := Sat.start0 w
  refine calls_fr Try.func30 rfl 7 rfl (Nat.le_of_ble_eq_true rfl) ?_
  refine w_seq ?_
  refine w_lit ?_
  refine wl_do (wants0 rfl) (fun K1 hK1 => ?_)
  refine d_box (vs := ([(.int .i64 (f)), (.int .i64 (cn))] : List Value)) rfl H rfl rfl ?_
  intro b2 w3 (H4 : Sat w [restC w (fun _ => False), cellC b2 36 ([(.int .i64 (f)), (.int .i64 (cn))] : List Value)] w3)
  refine hK1 _ _ ?_
  clear hK1 K1
  refine wl_pure (wants0 rfl) (d := 2) (v := (.int .i64 (0))) rfl (by kernel_rfl) ?_
  refine w_nil ?_
  refine then_normal ?_
  refine w_seq ?_
  refine w_lit ?_
  refine wl_pure (wants0 rfl) (d := 3) (v := (.pointer (some ⟨b2, 0, none⟩))) rfl (by kernel_rfl) ?_
  refine wl_pure (wants0 rfl) (d := 4) (v := (.int .i64 (f))) rfl (e_load1 rfl (by kernel_rfl) (H4.cell 1 rfl rfl)) ?_
  refine wl_pure (wants0 rfl) (d := 5) (v := (.int .i64 (3 * f))) rfl (e_int (z := 3 * f) (by kernel_rfl) (IntWalk.i64_in _ (by omega))) ?_
  refine wl_pure (wants0 rfl) (d := 6) (v := (.int .i64 ((3 * f) + 1))) rfl (e_int (z := (3 * f) + 1) (by kernel_rfl) (IntWalk.i64_in _ (by omega))) ?_
  refine wl_pure (wants0 rfl) (d := 2) (v := (.int .i64 ((3 * f) + 1))) rfl (by kernel_rfl) ?_
  refine w_nil ?_
  refine then_normal ?_
  refine w_ret ?_
  refine end1 rfl (res_tmp (v := (.int .i64 ((3 * f) + 1))) rfl) ?_
  exact ⟨rfl, H4.upd 0 rfl [] (fun _ h => h.elim)⟩

set_option maxRecDepth 100000 in
set_option maxHeartbeats 400000 in
theorem zrQ_any (w : World) (f cn : Int) (hf : -1099511627776 ≤ f ∧ f ≤ 1099511627776) :
    Calls Try.prog 41 #[(.agg ⟨([(.int .i64 (f)), (.int .i64 (cn))] : List Value)⟩)] w fun e w' => e = .returned (.int .i64 (2 * f + 1)) ∧ Upd [] w w' := by
  have H := Sat.start0 w
  refine calls_fr Try.func41 rfl 7 rfl (Nat.le_of_ble_eq_true rfl) ?_
  refine w_seq ?_
  refine w_lit ?_
  refine wl_do (wants0 rfl) (fun K1 hK1 => ?_)
  refine d_box (vs := ([(.int .i64 (f)), (.int .i64 (cn))] : List Value)) rfl H rfl rfl ?_
  intro b2 w3 (H4 : Sat w [restC w (fun _ => False), cellC b2 36 ([(.int .i64 (f)), (.int .i64 (cn))] : List Value)] w3)
  refine hK1 _ _ ?_
  clear hK1 K1
  refine wl_pure (wants0 rfl) (d := 2) (v := (.int .i64 (0))) rfl (by kernel_rfl) ?_
  refine w_nil ?_
  refine then_normal ?_
  refine w_seq ?_
  refine w_lit ?_
  refine wl_pure (wants0 rfl) (d := 3) (v := (.pointer (some ⟨b2, 0, none⟩))) rfl (by kernel_rfl) ?_
  refine wl_pure (wants0 rfl) (d := 4) (v := (.int .i64 (f))) rfl (e_load1 rfl (by kernel_rfl) (H4.cell 1 rfl rfl)) ?_
  refine wl_pure (wants0 rfl) (d := 5) (v := (.int .i64 (2 * f))) rfl (e_int (z := 2 * f) (by kernel_rfl) (IntWalk.i64_in _ (by omega))) ?_
  refine wl_pure (wants0 rfl) (d := 6) (v := (.int .i64 ((2 * f) + 1))) rfl (e_int (z := (2 * f) + 1) (by kernel_rfl) (IntWalk.i64_in _ (by omega))) ?_
  refine wl_pure (wants0 rfl) (d := 2) (v := (.int .i64 ((2 * f) + 1))) rfl (by kernel_rfl) ?_
  refine w_nil ?_
  refine then_normal ?_
  refine w_ret ?_
  refine end1 rfl (res_tmp (v := (.int .i64 ((2 * f) + 1))) rfl) ?_
  exact ⟨rfl, H4.upd 0 rfl [] (fun _ h => h.elim)⟩

set_option maxRecDepth 100000 in
set_option maxHeartbeats 400000 in
theorem zwIn_any (w : World) (f cn r : Int) (hf : -1099511627776 ≤ f ∧ f ≤ 1099511627776) :
    Calls Try.prog 42 #[(.agg ⟨([(.int .i64 (f)), (.int .i64 (cn))] : List Value)⟩), (.int .i64 (r))] w fun e w' => e = .returned (.bool (inB f r)) ∧ Upd [] w w' := by
  have H := Sat.start0 w
  refine calls_fr Try.func42 rfl 13 rfl (Nat.le_of_ble_eq_true rfl) ?_
  refine w_seq ?_
  refine w_lit ?_
  refine wl_do (wants0 rfl) (fun K1 hK1 => ?_)
  refine d_box (vs := ([(.int .i64 (f)), (.int .i64 (cn))] : List Value)) rfl H rfl rfl ?_
  intro b2 w3 (H4 : Sat w [restC w (fun _ => False), cellC b2 36 ([(.int .i64 (f)), (.int .i64 (cn))] : List Value)] w3)
  refine hK1 _ _ ?_
  clear hK1 K1
  refine wl_pure (wants0 rfl) (d := 4) (v := (.bool false)) rfl (by kernel_rfl) ?_
  refine w_nil ?_
  refine then_normal ?_
  refine wp_meetR [4, 5, 6, 7, 8, 9, 10, 11, 12] (fun G_ W_ => G_ 4 = (.bool (inB f r)) ∧ Sat w [restC w (fun _ => False), cellC b2 36 ([(.int .i64 (f)), (.int .i64 (cn))] : List Value)] W_) ?_ ?_
  · refine w_lit ?_
    refine wl_pure (wants0 rfl) (d := 5) (v := (.int .i64 (r))) rfl (by kernel_rfl) ?_
    refine wl_pure (wants0 rfl) (d := 6) (v := (.bool (decide (r ≥ 0)))) rfl (by kernel_rfl) ?_
    refine wl_pure (wants0 rfl) (d := 7) (v := (.bool (decide (r ≥ 0)))) rfl (by kernel_rfl) ?_
    refine (bsplit (decide (r ≥ 0))).elim (fun b6 => ?_) (fun b6 => ?_)
    · have g7 := of_decide_eq_true b6
      refine wl_know 7 (.bool true) (congrArg Value.bool b6) ?_
      refine wl_pure (wantsY 2 7 true rfl (by kernel_rfl) rfl (by kernel_rfl)) (d := 8) (v := (.int .i64 (r))) rfl (by kernel_rfl) ?_
      refine wl_pure (wantsY 2 7 true rfl (by kernel_rfl) rfl (by kernel_rfl)) (d := 9) (v := (.agg ⟨([(.int .i64 (f)), (.int .i64 (cn))] : List Value)⟩)) rfl (e_loadN (vs := ([(.int .i64 (f)), (.int .i64 (cn))] : List Value)) rfl (by kernel_rfl) (by kernel_rfl) (by exact Nat.le_of_ble_eq_true (by kernel_rfl)) (H4.at 1 rfl) (by kernel_rfl)) ?_
      refine wl_do (wantsY 2 7 true rfl (by kernel_rfl) rfl (by kernel_rfl)) (fun K8 hK8 => ?_)
      refine d_call (d := 10) rfl (by kernel_rfl) (zwN_any w3 f cn (by omega)) ?_
      rintro _ w9 ⟨rfl, u11⟩
      have H10 := H4.keepU u11
      refine ⟨_, rfl, ?_⟩
      refine hK8 _ _ ?_
      clear hK8 K8
      refine wl_pure (wantsY 2 7 true rfl (by kernel_rfl) rfl (by kernel_rfl)) (d := 11) (v := (.bool (decide (r < (3 * f + 1))))) rfl (by kernel_rfl) ?_
      refine wl_pure (wants0 rfl) (d := 12) (v := (.bool (decide (r < (3 * f + 1))))) rfl (by kernel_rfl) ?_
      refine wl_pure (wants0 rfl) (d := 4) (v := (.bool (decide (r < (3 * f + 1))))) rfl (by kernel_rfl) ?_
      refine w_nil ?_
      refine meetR_at ?_ ⟨(congrArg Value.bool (show (decide (r < (3 * f + 1))) = (inB f r) by simp [inB, b6])), H10⟩
      exact (same_upd rfl (same_upd rfl (same_upd rfl (same_upd rfl (same_upd rfl (same_upd rfl (same_upd rfl (same_upd rfl (same_upd rfl (same_upd rfl (same_refl)))))))))))
    · have g12 := of_decide_eq_false b6
      refine wl_know 7 (.bool false) (congrArg Value.bool b6) ?_
      refine wl_pass (wantsN 2 7 true rfl (by kernel_rfl) rfl (by kernel_rfl)) rfl ?_
      refine wl_pass (wantsN 2 7 true rfl (by kernel_rfl) rfl (by kernel_rfl)) rfl ?_
      refine wl_pass (wantsN 2 7 true rfl (by kernel_rfl) rfl (by kernel_rfl)) rfl ?_
      refine wl_pass (wantsN 2 7 true rfl (by kernel_rfl) rfl (by kernel_rfl)) rfl ?_
      refine wl_pure (wants0 rfl) (d := 12) (v := (.bool false)) rfl (by kernel_rfl) ?_
      refine wl_pure (wants0 rfl) (d := 4) (v := (.bool false)) rfl (by kernel_rfl) ?_
      refine w_nil ?_
      refine meetR_at ?_ ⟨(congrArg Value.bool (show false = (inB f r) by simp [inB, b6])), H4⟩
      exact (same_upd rfl (same_upd rfl (same_upd rfl (same_upd rfl (same_upd rfl (same_upd rfl (same_upd rfl (same_upd rfl (same_upd rfl (same_upd rfl (same_refl)))))))))))
  · rintro f13 w14 ⟨v16, H15⟩
    refine wp_know 4 _ v16 ?_
    refine w_ret ?_
    refine end1 rfl (res_tmp (v := (.bool (inB f r))) rfl) ?_
    exact ⟨rfl, H15.upd 0 rfl [] (fun _ h => h.elim)⟩

end Go.Proofs.Ytbpeofcoceaahaa
namespace Go.Proofs.Ytbpeofcoceaahaa
open Go.RowKit

def commit0 : CommitD := ⟨0, 0, hash0, 0, 0, 0⟩

theorem zwQ_anyG (w : World) (f cn : Int) (hf : 1 ≤ f ∧ f ≤ 5) (Q : Nat) (hQ : (Q : Int) = 2 * f + 1) : Calls Try.prog 39 #[.agg ⟨[.int .i64 f, .int .i64 cn]⟩] w fun e w' => e = .returned (.int .i64 (Q : Int)) ∧ Upd [] w w' := by
  rw [hQ]; exact zwQ_any w f cn (by omega)
set_option maxRecDepth 100000 in
set_option maxHeartbeats 2000000 in
theorem wMakeG_any (w : World) (f cn : Int) (x : CommitD) (N Q : Nat) (hN : (N : Int) = 3 * f + 1) (hQ : (Q : Int) = 2 * f + 1) (hf : 1 ≤ f ∧ f ≤ 5) (sa : Option Addr) (sc : Nat) (S : List StampD) (hS : ListAt encSt 38 w (.slice sa S.length sc) S) (hlS : S.length ≤ 1000) (hlo : (outS f x S).length ≤ 12) :
    Calls Try.prog 31 #[(.agg ⟨([(.int .i64 (f)), (.int .i64 (cn))] : List Value)⟩), (.agg ⟨(([(.int .i64 (x.cl)), (.int .i64 (x.seq))] : List Value) ++ hc x.h ++ ([(.int .i64 (x.len)), (.int .i64 (x.sb)), (.int .i64 (x.sm))] : List Value))⟩), (.slice sa S.length sc)] w fun e w' => (e = .returned (.tuple #[.agg ⟨encCo commit0 ++ [.slice none 0 0]⟩, .int .i64 8]) ∧ (refS x S N).length < Q ∧ Upd [] w w') ∨ ∃ g c, e = .returned (.tuple #[.agg ⟨encCo x ++ [.slice (some ⟨g, 0, none⟩) Q c]⟩, .int .i64 0]) ∧ Q ≤ (refS x S N).length ∧ (rowC 49 38 (.slice (some ⟨g, 0, none⟩) (refS x S N).length c) (refS x S N).length ((refS x S N).flatMap encSt)).ok w' ∧ Upd [] w w' ∧ w.heap.size ≤ g := by
  have H := Sat.start0 w
  refine calls_fr Try.func31 rfl 62 rfl (Nat.le_of_ble_eq_true rfl) ?_
  refine w_seq ?_
  refine w_lit ?_
  refine wl_do (wants0 rfl) (fun K1 hK1 => ?_)
  refine d_box (vs := ([(.int .i64 (f)), (.int .i64 (cn))] : List Value)) rfl H rfl rfl ?_
  intro b2 w3 (H4 : Sat w [restC w (fun _ => False), cellC b2 36 ([(.int .i64 (f)), (.int .i64 (cn))] : List Value)] w3)
  refine hK1 _ _ ?_
  clear hK1 K1
  refine wl_do (wants0 rfl) (fun K5 hK5 => ?_)
  refine d_box (vs := (([(.int .i64 (x.cl)), (.int .i64 (x.seq))] : List Value) ++ hc x.h ++ ([(.int .i64 (x.len)), (.int .i64 (x.sb)), (.int .i64 (x.sm))] : List Value))) rfl H4 rfl rfl ?_
  intro b6 w7 (H8 : Sat w [restC w (fun _ => False), cellC b2 36 ([(.int .i64 (f)), (.int .i64 (cn))] : List Value), cellC b6 44 (([(.int .i64 (x.cl)), (.int .i64 (x.seq))] : List Value) ++ hc x.h ++ ([(.int .i64 (x.len)), (.int .i64 (x.sb)), (.int .i64 (x.sm))] : List Value))] w7)
  refine hK5 _ _ ?_
  clear hK5 K5
  refine wl_do (wants0 rfl) (fun K9 hK9 => ?_)
  refine d_alloc (zs := (([(.int .i64 (0)), (.int .i64 (0))] : List Value) ++ hc hash0 ++ ([(.int .i64 (0)), (.int .i64 (0)), (.int .i64 (0)), (.slice none 0 0)] : List Value))) (z := (.agg ⟨(([(.int .i64 (0)), (.int .i64 (0))] : List Value) ++ hc hash0 ++ ([(.int .i64 (0)), (.int .i64 (0)), (.int .i64 (0)), (.slice none 0 0)] : List Value))⟩)) rfl H8 (by kernel_rfl) (by kernel_rfl) ?_
  intro b10 w11 (H12 : Sat w [restC w (fun _ => False), cellC b2 36 ([(.int .i64 (f)), (.int .i64 (cn))] : List Value), cellC b6 44 (([(.int .i64 (x.cl)), (.int .i64 (x.seq))] : List Value) ++ hc x.h ++ ([(.int .i64 (x.len)), (.int .i64 (x.sb)), (.int .i64 (x.sm))] : List Value)), cellC b10 47 (([(.int .i64 (0)), (.int .i64 (0))] : List Value) ++ hc hash0 ++ ([(.int .i64 (0)), (.int .i64 (0)), (.int .i64 (0)), (.slice none 0 0)] : List Value))] w11)
  refine hK9 _ _ ?_
  clear hK9 K9
  refine wl_pure (wants0 rfl) (d := 7) (v := (.int .i64 (0))) rfl (by kernel_rfl) ?_
  refine w_nil ?_
  refine then_normal ?_
  refine w_seq ?_
  refine w_lit ?_
  refine wl_pure (wants0 rfl) (d := 8) (v := (.slice none 0 0)) rfl (by kernel_rfl) ?_
  refine w_nil ?_
  refine then_normal ?_
  refine w_seq ?_
  refine w_seq ?_
  refine w_lit ?_
  refine wl_pure (wants0 rfl) (d := 12) (v := (.slice sa S.length sc)) rfl (by kernel_rfl) ?_
  refine wl_pure (wants0 rfl) (d := 13) (v := (.int .i64 ((S.length : Int)))) rfl (by kernel_rfl) ?_
  refine wl_pure (wants0 rfl) (d := 14) (v := (.int .i64 (0))) rfl (by kernel_rfl) ?_
  refine w_nil ?_
  refine then_normal ?_
  refine w_block ?_
  have H13 := H12.addNil 49 38
  refine wp_round [8, 10, 11, 14, 15, 16, 17, 18, 19, 20, 21, 22, 23, 24, 25, 26, 27, 28, 29, 30, 31, 32, 33, 34, 35, 36, 37, 38, 39, 40, 41, 42, 43, 44, 45, 46, 47] (fun F_ W_ m_ => ∃ (i : Nat) (a : Option Addr) (c : Nat) (D : List StampD), F_ 14 = (.int .i64 ((i : Int))) ∧ F_ 8 = (.slice a D.length c) ∧ (i ≤ S.length) ∧ (D = outS f x (S.take i)) ∧ Sat w [restC w (fun _ => False), cellC b2 36 ([(.int .i64 (f)), (.int .i64 (cn))] : List Value), cellC b6 44 (([(.int .i64 (x.cl)), (.int .i64 (x.seq))] : List Value) ++ hc x.h ++ ([(.int .i64 (x.len)), (.int .i64 (x.sb)), (.int .i64 (x.sm))] : List Value)), cellC b10 47 (([(.int .i64 (0)), (.int .i64 (0))] : List Value) ++ hc hash0 ++ ([(.int .i64 (0)), (.int .i64 (0)), (.int .i64 (0)), (.slice none 0 0)] : List Value)), rowC 49 38 (.slice a D.length c) D.length (D.flatMap encSt)] W_ ∧ m_ = S.length - i) _ ⟨0, none, 0, [], (show ((.int .i64 (0)) : Value) = _ by first | rfl | go_num), (by first | rfl | go_num), (Nat.zero_le _), rfl, H13, rfl⟩ ?_
  rintro g14 w15 _ ⟨i, a, c, D, v17, v18, hi, hD, H16, rfl⟩
  refine wp_know 14 _ v17 ?_
  refine wp_know 8 _ v18 ?_
  have hDl : D.length ≤ i := by rw [hD]; have := outS_len f x (S.take i); rw [List.length_take] at this; omega
  refine w_seq ?_
  refine w_lit ?_
  refine wl_pure (wants0 rfl) (d := 15) (v := (.bool (decide ((i : Int) < (S.length : Int))))) rfl (by kernel_rfl) ?_
  refine w_nil ?_
  refine then_normal ?_
  refine w_seq ?_
  refine (bsplit (decide ((i : Int) < (S.length : Int)))).elim (fun b20 => ?_) (fun b20 => ?_)
  · have g21 := of_decide_eq_true b20
    refine wp_know 15 (.bool true) (congrArg Value.bool b20) ?_
    have g22 := of_decide_eq_true b20
    refine wp_ift rfl ?_
    refine w_skip ?_
    refine then_normal ?_
    refine w_seq ?_
    refine w_block ?_
    refine w_seq ?_
    refine w_lit ?_
    obtain ⟨g23, o24, c25, e26, R27⟩ := SliceOf.atD hS stamp0 (show i < S.length by omega)
    refine wl_pure (wants0 rfl) (d := 16) (v := (.pointer (some ⟨g23, o24 + ((i : Int)).toNat * 38, none⟩))) rfl (e_indexAddrW (E := 49) (by kernel_rfl) (by kernel_rfl) (Nat.le_of_ble_eq_true rfl) rfl e26 rfl (by omega) (by omega)) ?_
    refine wl_pure (wants0 rfl) (d := 17) (v := (.agg ⟨(([(.int .i64 ((S.getD i stamp0).r)), (.int .i64 ((S.getD i stamp0).cl)), (.int .i64 ((S.getD i stamp0).seq))] : List Value) ++ hc (S.getD i stamp0).h ++ ([(.int .u64 ((S.getD i stamp0).t)), (.int .i64 ((S.getD i stamp0).sb)), (.int .i64 ((S.getD i stamp0).sm))] : List Value))⟩)) rfl (e_loadRun (vs := (([(.int .i64 ((S.getD i stamp0).r)), (.int .i64 ((S.getD i stamp0).cl)), (.int .i64 ((S.getD i stamp0).seq))] : List Value) ++ hc (S.getD i stamp0).h ++ ([(.int .u64 ((S.getD i stamp0).t)), (.int .i64 ((S.getD i stamp0).sb)), (.int .i64 ((S.getD i stamp0).sm))] : List Value))) rfl (by kernel_rfl) (by kernel_rfl) (Nat.le_of_ble_eq_true (by kernel_rfl)) (H16.runR 0 rfl (cells_run R27 0 (by kernel_rfl) (show o24 + ((i : Int)).toNat * 38 = o24 + i * 38 + 0 by omega)) (fun h => h))) ?_
    refine wl_do (wants0 rfl) (fun K28 hK28 => ?_)
    refine d_alloc (zs := (([(.int .i64 (0)), (.int .i64 (0)), (.int .i64 (0))] : List Value) ++ hc hash0 ++ ([(.int .u64 (0)), (.int .i64 (0)), (.int .i64 (0))] : List Value))) (z := (.agg ⟨(([(.int .i64 (0)), (.int .i64 (0)), (.int .i64 (0))] : List Value) ++ hc hash0 ++ ([(.int .u64 (0)), (.int .i64 (0)), (.int .i64 (0))] : List Value))⟩)) rfl H16 (by kernel_rfl) (by kernel_rfl) ?_
    intro b29 w30 (H31 : Sat w [restC w (fun _ => False), cellC b2 36 ([(.int .i64 (f)), (.int .i64 (cn))] : List Value), cellC b6 44 (([(.int .i64 (x.cl)), (.int .i64 (x.seq))] : List Value) ++ hc x.h ++ ([(.int .i64 (x.len)), (.int .i64 (x.sb)), (.int .i64 (x.sm))] : List Value)), cellC b10 47 (([(.int .i64 (0)), (.int .i64 (0))] : List Value) ++ hc hash0 ++ ([(.int .i64 (0)), (.int .i64 (0)), (.int .i64 (0)), (.slice none 0 0)] : List Value)), rowC 49 38 (.slice a D.length c) D.length (D.flatMap encSt), cellC b29 49 (([(.int .i64 (0)), (.int .i64 (0)), (.int .i64 (0))] : List Value) ++ hc hash0 ++ ([(.int .u64 (0)), (.int .i64 (0)), (.int .i64 (0))] : List Value))] w30)
    refine hK28 _ _ ?_
    clear hK28 K28
    refine wl_do (wants0 rfl) (fun K32 hK32 => ?_)
    refine d_storeX (vs := (([(.int .i64 ((S.getD i stamp0).r)), (.int .i64 ((S.getD i stamp0).cl)), (.int .i64 ((S.getD i stamp0).seq))] : List Value) ++ hc (S.getD i stamp0).h ++ ([(.int .u64 ((S.getD i stamp0).t)), (.int .i64 ((S.getD i stamp0).sb)), (.int .i64 ((S.getD i stamp0).sm))] : List Value))) (cs' := (([(.int .i64 ((S.getD i stamp0).r)), (.int .i64 ((S.getD i stamp0).cl)), (.int .i64 ((S.getD i stamp0).seq))] : List Value) ++ hc (S.getD i stamp0).h ++ ([(.int .u64 ((S.getD i stamp0).t)), (.int .i64 ((S.getD i stamp0).sb)), (.int .i64 ((S.getD i stamp0).sm))] : List Value))) rfl H31 5 rfl rfl rfl rfl (by kernel_rfl) (Nat.le_of_ble_eq_true (by kernel_rfl)) (Nat.le_of_ble_eq_true (by kernel_rfl)) (by kernel_rfl) (by kernel_rfl) ?_
    intro w33 (H34 : Sat w [restC w (fun _ => False), cellC b2 36 ([(.int .i64 (f)), (.int .i64 (cn))] : List Value), cellC b6 44 (([(.int .i64 (x.cl)), (.int .i64 (x.seq))] : List Value) ++ hc x.h ++ ([(.int .i64 (x.len)), (.int .i64 (x.sb)), (.int .i64 (x.sm))] : List Value)), cellC b10 47 (([(.int .i64 (0)), (.int .i64 (0))] : List Value) ++ hc hash0 ++ ([(.int .i64 (0)), (.int .i64 (0)), (.int .i64 (0)), (.slice none 0 0)] : List Value)), rowC 49 38 (.slice a D.length c) D.length (D.flatMap encSt), cellC b29 49 (([(.int .i64 ((S.getD i stamp0).r)), (.int .i64 ((S.getD i stamp0).cl)), (.int .i64 ((S.getD i stamp0).seq))] : List Value) ++ hc (S.getD i stamp0).h ++ ([(.int .u64 ((S.getD i stamp0).t)), (.int .i64 ((S.getD i stamp0).sb)), (.int .i64 ((S.getD i stamp0).sm))] : List Value))] w33)
    refine hK32 _ _ ?_
    clear hK32 K32
    refine w_nil ?_
    refine then_normal ?_
    refine w_seq ?_
    refine w_lit ?_
    refine wl_pure (wants0 rfl) (d := 18) (v := (.func (.func 52) #[] #[(.pointer (some ⟨b29, 0, none⟩))])) rfl (by kernel_rfl) ?_
    refine wl_pure (wants0 rfl) (d := 11) (v := (.func (.func 52) #[] #[(.pointer (some ⟨b29, 0, none⟩))])) rfl (by kernel_rfl) ?_
    refine w_nil ?_
    refine then_normal ?_
    refine wp_meetR [19, 20, 21, 22, 23, 24, 25, 26, 27, 28, 29, 30, 31, 32, 33, 34, 35, 36, 37, 38, 39, 40, 41, 42] (fun G_ W_ => G_ 42 = (.bool (mayS f x (S.getD i stamp0) && !hasR D (S.getD i stamp0).r)) ∧ Sat w [restC w (fun _ => False), cellC b2 36 ([(.int .i64 (f)), (.int .i64 (cn))] : List Value), cellC b6 44 (([(.int .i64 (x.cl)), (.int .i64 (x.seq))] : List Value) ++ hc x.h ++ ([(.int .i64 (x.len)), (.int .i64 (x.sb)), (.int .i64 (x.sm))] : List Value)), cellC b10 47 (([(.int .i64 (0)), (.int .i64 (0))] : List Value) ++ hc hash0 ++ ([(.int .i64 (0)), (.int .i64 (0)), (.int .i64 (0)), (.slice none 0 0)] : List Value)), rowC 49 38 (.slice a D.length c) D.length (D.flatMap encSt), cellC b29 49 (([(.int .i64 ((S.getD i stamp0).r)), (.int .i64 ((S.getD i stamp0).cl)), (.int .i64 ((S.getD i stamp0).seq))] : List Value) ++ hc (S.getD i stamp0).h ++ ([(.int .u64 ((S.getD i stamp0).t)), (.int .i64 ((S.getD i stamp0).sb)), (.int .i64 ((S.getD i stamp0).sm))] : List Value))] W_) ?_ ?_
    · refine w_lit ?_
      refine wl_pure (wants0 rfl) (d := 19) (v := (.agg ⟨([(.int .i64 (f)), (.int .i64 (cn))] : List Value)⟩)) rfl (e_loadN (vs := ([(.int .i64 (f)), (.int .i64 (cn))] : List Value)) rfl (by kernel_rfl) (by kernel_rfl) (by exact Nat.le_of_ble_eq_true (by kernel_rfl)) (H34.at 1 rfl) (by kernel_rfl)) ?_
      refine wl_pure (wants0 rfl) (d := 20) (v := (.pointer (some ⟨b29, 0, none⟩))) rfl (by kernel_rfl) ?_
      refine wl_pure (wants0 rfl) (d := 21) (v := (.int .i64 ((S.getD i stamp0).r))) rfl (e_load1 rfl (by kernel_rfl) (H34.cell 5 rfl (by kernel_rfl))) ?_
      refine wl_do (wants0 rfl) (fun K37 hK37 => ?_)
      refine d_call (d := 22) rfl (by kernel_rfl) (zwIn_any w33 f cn ((S.getD i stamp0).r) (by omega)) ?_
      rintro _ w38 ⟨rfl, u40⟩
      have H39 := H34.keepU u40
      refine ⟨_, rfl, ?_⟩
      refine hK37 _ _ ?_
      clear hK37 K37
      refine wl_pure (wants0 rfl) (d := 23) (v := (.bool (inB f ((S.getD i stamp0).r)))) rfl (by kernel_rfl) ?_
      refine (bsplit (inB f ((S.getD i stamp0).r))).elim (fun b41 => ?_) (fun b41 => ?_)
      · refine wl_know 23 (.bool true) (congrArg Value.bool b41) ?_
        refine wl_pure (wantsY 4 23 true rfl (by kernel_rfl) rfl (by kernel_rfl)) (d := 24) (v := (.pointer (some ⟨b29, 1, none⟩))) rfl (by kernel_rfl) ?_
        refine wl_pure (wantsY 4 23 true rfl (by kernel_rfl) rfl (by kernel_rfl)) (d := 25) (v := (.agg ⟨([(.int .i64 ((S.getD i stamp0).cl)), (.int .i64 ((S.getD i stamp0).seq))] : List Value)⟩)) rfl (e_loadN (vs := ([(.int .i64 ((S.getD i stamp0).cl)), (.int .i64 ((S.getD i stamp0).seq))] : List Value)) rfl (by kernel_rfl) (by kernel_rfl) (by exact Nat.le_of_ble_eq_true (by kernel_rfl)) (H39.at 5 rfl) (by kernel_rfl)) ?_
        refine wl_pure (wantsY 4 23 true rfl (by kernel_rfl) rfl (by kernel_rfl)) (d := 26) (v := (.pointer (some ⟨b6, 0, none⟩))) rfl (by kernel_rfl) ?_
        refine wl_pure (wantsY 4 23 true rfl (by kernel_rfl) rfl (by kernel_rfl)) (d := 27) (v := (.agg ⟨([(.int .i64 (x.cl)), (.int .i64 (x.seq))] : List Value)⟩)) rfl (e_loadN (vs := ([(.int .i64 (x.cl)), (.int .i64 (x.seq))] : List Value)) rfl (by kernel_rfl) (by kernel_rfl) (by exact Nat.le_of_ble_eq_true (by kernel_rfl)) (H39.at 2 rfl) (by kernel_rfl)) ?_
        refine wl_pure (wantsY 4 23 true rfl (by kernel_rfl) rfl (by kernel_rfl)) (d := 28) (v := (.bool (decide (((S.getD i stamp0).cl) = x.cl ∧ ((S.getD i stamp0).seq) = x.seq)))) rfl (e_eqName ((S.getD i stamp0).cl) ((S.getD i stamp0).seq) x.cl x.seq rfl rfl) ?_
        refine wl_pure (wants0 rfl) (d := 29) (v := (.bool (decide (((S.getD i stamp0).cl) = x.cl ∧ ((S.getD i stamp0).seq) = x.seq)))) rfl (by kernel_rfl) ?_
        refine wl_pure (wants0 rfl) (d := 30) (v := (.bool (decide (((S.getD i stamp0).cl) = x.cl ∧ ((S.getD i stamp0).seq) = x.seq)))) rfl (by kernel_rfl) ?_
        refine (bsplit (decide (((S.getD i stamp0).cl) = x.cl ∧ ((S.getD i stamp0).seq) = x.seq))).elim (fun b42 => ?_) (fun b42 => ?_)
        · refine wl_know 30 (.bool true) (congrArg Value.bool b42) ?_
          refine wl_pure (wantsY 11 30 true rfl (by kernel_rfl) rfl (by kernel_rfl)) (d := 31) (v := (.pointer (some ⟨b29, 3, none⟩))) rfl (by kernel_rfl) ?_
          refine wl_pure (wantsY 11 30 true rfl (by kernel_rfl) rfl (by kernel_rfl)) (d := 32) (v := (.agg ⟨(hc (S.getD i stamp0).h)⟩)) rfl (e_loadN (vs := (hc (S.getD i stamp0).h)) rfl (by kernel_rfl) (by kernel_rfl) (by exact Nat.le_of_ble_eq_true (by kernel_rfl)) (H39.at 5 rfl) (by kernel_rfl)) ?_
          refine wl_pure (wantsY 11 30 true rfl (by kernel_rfl) rfl (by kernel_rfl)) (d := 33) (v := (.pointer (some ⟨b6, 2, none⟩))) rfl (by kernel_rfl) ?_
          refine wl_pure (wantsY 11 30 true rfl (by kernel_rfl) rfl (by kernel_rfl)) (d := 34) (v := (.agg ⟨(hc x.h)⟩)) rfl (e_loadN (vs := (hc x.h)) rfl (by kernel_rfl) (by kernel_rfl) (by exact Nat.le_of_ble_eq_true (by kernel_rfl)) (H39.at 2 rfl) (by kernel_rfl)) ?_
          refine wl_pure (wantsY 11 30 true rfl (by kernel_rfl) rfl (by kernel_rfl)) (d := 35) (v := (.bool (decide (((S.getD i stamp0).h) = x.h)))) rfl (e_eqHash ((S.getD i stamp0).h) x.h rfl rfl) ?_
          refine wl_pure (wants0 rfl) (d := 36) (v := (.bool (decide (((S.getD i stamp0).h) = x.h)))) rfl (by kernel_rfl) ?_
          refine wl_pure (wants0 rfl) (d := 37) (v := (.bool (decide (((S.getD i stamp0).h) = x.h)))) rfl (by kernel_rfl) ?_
          refine (bsplit (decide (((S.getD i stamp0).h) = x.h))).elim (fun b43 => ?_) (fun b43 => ?_)
          · have g44 := of_decide_eq_true b43
            refine wl_know 37 (.bool true) (congrArg Value.bool b43) ?_
            have g45 := of_decide_eq_true b43
            refine wl_pure (wantsY 18 37 true rfl (by kernel_rfl) rfl (by kernel_rfl)) (d := 38) (v := (.slice a D.length c)) rfl (by kernel_rfl) ?_
            refine wl_pure (wantsY 18 37 true rfl (by kernel_rfl) rfl (by kernel_rfl)) (d := 39) (v := (.func (.func 52) #[] #[(.pointer (some ⟨b29, 0, none⟩))])) rfl (by kernel_rfl) ?_
            refine wl_do (wantsY 18 37 true rfl (by kernel_rfl) rfl (by kernel_rfl)) (fun K46 hK46 => ?_)
            refine d_call (d := 40) rfl (by kernel_rfl) (contains_any w38 b29 (S.getD i stamp0) (H39.at 5 rfl) (.slice a D.length c) D (H39.at 4 rfl) (by omega)) ?_
            rintro _ w47 ⟨rfl, u49⟩
            have H48 := H39.keepU u49
            refine ⟨_, rfl, ?_⟩
            refine hK46 _ _ ?_
            clear hK46 K46
            refine wl_pure (wantsY 18 37 true rfl (by kernel_rfl) rfl (by kernel_rfl)) (d := 41) (v := (.bool (!(hasR D (S.getD i stamp0).r)))) rfl (by kernel_rfl) ?_
            refine wl_pure (wants0 rfl) (d := 42) (v := (.bool (!(hasR D (S.getD i stamp0).r)))) rfl (by kernel_rfl) ?_
            refine w_nil ?_
            refine meetR_at ?_ ⟨(congrArg Value.bool (show (!(hasR D (S.getD i stamp0).r)) = (mayS f x (S.getD i stamp0) && !hasR D (S.getD i stamp0).r) by simp only [mayS, sameN, b41, b42, b43, Bool.and_true, Bool.true_and])), H48⟩
            exact (same_upd rfl (same_upd rfl (same_upd rfl (same_upd rfl (same_upd rfl (same_upd rfl (same_upd rfl (same_upd rfl (same_upd rfl (same_upd rfl (same_upd rfl (same_upd rfl (same_upd rfl (same_upd rfl (same_upd rfl (same_upd rfl (same_upd rfl (same_upd rfl (same_upd rfl (same_upd rfl (same_upd rfl (same_upd rfl (same_upd rfl (same_upd rfl (same_upd rfl (same_upd rfl (same_upd rfl (same_refl))))))))))))))))))))))))))))
          · have g50 := of_decide_eq_false b43
            refine wl_know 37 (.bool false) (congrArg Value.bool b43) ?_
            have g51 := of_decide_eq_false b43
            refine wl_pass (wantsN 18 37 true rfl (by kernel_rfl) rfl (by kernel_rfl)) rfl ?_
            refine wl_pass (wantsN 18 37 true rfl (by kernel_rfl) rfl (by kernel_rfl)) rfl ?_
            refine wl_pass (wantsN 18 37 true rfl (by kernel_rfl) rfl (by kernel_rfl)) rfl ?_
            refine wl_pass (wantsN 18 37 true rfl (by kernel_rfl) rfl (by kernel_rfl)) rfl ?_
            refine wl_pure (wants0 rfl) (d := 42) (v := (.bool false)) rfl (by kernel_rfl) ?_
            refine w_nil ?_
            refine meetR_at ?_ ⟨(congrArg Value.bool (show false = (mayS f x (S.getD i stamp0) && !hasR D (S.getD i stamp0).r) by simp only [mayS, sameN, b41, b42, b43, Bool.and_false, Bool.false_and])), H39⟩
            exact (same_upd rfl (same_upd rfl (same_upd rfl (same_upd rfl (same_upd rfl (same_upd rfl (same_upd rfl (same_upd rfl (same_upd rfl (same_upd rfl (same_upd rfl (same_upd rfl (same_upd rfl (same_upd rfl (same_upd rfl (same_upd rfl (same_upd rfl (same_upd rfl (same_upd rfl (same_upd rfl (same_upd rfl (same_upd rfl (same_upd rfl (same_upd rfl (same_upd rfl (same_upd rfl (same_upd rfl (same_refl))))))))))))))))))))))))))))
        · refine wl_know 30 (.bool false) (congrArg Value.bool b42) ?_
          refine wl_pass (wantsN 11 30 true rfl (by kernel_rfl) rfl (by kernel_rfl)) rfl ?_
          refine wl_pass (wantsN 11 30 true rfl (by kernel_rfl) rfl (by kernel_rfl)) rfl ?_
          refine wl_pass (wantsN 11 30 true rfl (by kernel_rfl) rfl (by kernel_rfl)) rfl ?_
          refine wl_pass (wantsN 11 30 true rfl (by kernel_rfl) rfl (by kernel_rfl)) rfl ?_
          refine wl_pass (wantsN 11 30 true rfl (by kernel_rfl) rfl (by kernel_rfl)) rfl ?_
          refine wl_pure (wants0 rfl) (d := 36) (v := (.bool false)) rfl (by kernel_rfl) ?_
          refine wl_pure (wants0 rfl) (d := 37) (v := (.bool false)) rfl (by kernel_rfl) ?_
          refine wl_pass (wantsN 18 37 true rfl (by kernel_rfl) rfl (by kernel_rfl)) rfl ?_
          refine wl_pass (wantsN 18 37 true rfl (by kernel_rfl) rfl (by kernel_rfl)) rfl ?_
          refine wl_pass (wantsN 18 37 true rfl (by kernel_rfl) rfl (by kernel_rfl)) rfl ?_
          refine wl_pass (wantsN 18 37 true rfl (by kernel_rfl) rfl (by kernel_rfl)) rfl ?_
          refine wl_pure (wants0 rfl) (d := 42) (v := (.bool false)) rfl (by kernel_rfl) ?_
          refine w_nil ?_
          refine meetR_at ?_ ⟨(congrArg Value.bool (show false = (mayS f x (S.getD i stamp0) && !hasR D (S.getD i stamp0).r) by simp only [mayS, sameN, b41, b42, Bool.and_false, Bool.false_and])), H39⟩
          exact (same_upd rfl (same_upd rfl (same_upd rfl (same_upd rfl (same_upd rfl (same_upd rfl (same_upd rfl (same_upd rfl (same_upd rfl (same_upd rfl (same_upd rfl (same_upd rfl (same_upd rfl (same_upd rfl (same_upd rfl (same_upd rfl (same_upd rfl (same_upd rfl (same_upd rfl (same_upd rfl (same_upd rfl (same_upd rfl (same_upd rfl (same_upd rfl (same_upd rfl (same_upd rfl (same_refl)))))))))))))))))))))))))))
      · refine wl_know 23 (.bool false) (congrArg Value.bool b41) ?_
        refine wl_pass (wantsN 4 23 true rfl (by kernel_rfl) rfl (by kernel_rfl)) rfl ?_
        refine wl_pass (wantsN 4 23 true rfl (by kernel_rfl) rfl (by kernel_rfl)) rfl ?_
        refine wl_pass (wantsN 4 23 true rfl (by kernel_rfl) rfl (by kernel_rfl)) rfl ?_
        refine wl_pass (wantsN 4 23 true rfl (by kernel_rfl) rfl (by kernel_rfl)) rfl ?_
        refine wl_pass (wantsN 4 23 true rfl (by kernel_rfl) rfl (by kernel_rfl)) rfl ?_
        refine wl_pure (wants0 rfl) (d := 29) (v := (.bool false)) rfl (by kernel_rfl) ?_
        refine wl_pure (wants0 rfl) (d := 30) (v := (.bool false)) rfl (by kernel_rfl) ?_
        refine wl_pass (wantsN 11 30 true rfl (by kernel_rfl) rfl (by kernel_rfl)) rfl ?_
        refine wl_pass (wantsN 11 30 true rfl (by kernel_rfl) rfl (by kernel_rfl)) rfl ?_
        refine wl_pass (wantsN 11 30 true rfl (by kernel_rfl) rfl (by kernel_rfl)) rfl ?_
        refine wl_pass (wantsN 11 30 true rfl (by kernel_rfl) rfl (by kernel_rfl)) rfl ?_
        refine wl_pass (wantsN 11 30 true rfl (by kernel_rfl) rfl (by kernel_rfl)) rfl ?_
        refine wl_pure (wants0 rfl) (d := 36) (v := (.bool false)) rfl (by kernel_rfl) ?_
        refine wl_pure (wants0 rfl) (d := 37) (v := (.bool false)) rfl (by kernel_rfl) ?_
        refine wl_pass (wantsN 18 37 true rfl (by kernel_rfl) rfl (by kernel_rfl)) rfl ?_
        refine wl_pass (wantsN 18 37 true rfl (by kernel_rfl) rfl (by kernel_rfl)) rfl ?_
        refine wl_pass (wantsN 18 37 true rfl (by kernel_rfl) rfl (by kernel_rfl)) rfl ?_
        refine wl_pass (wantsN 18 37 true rfl (by kernel_rfl) rfl (by kernel_rfl)) rfl ?_
        refine wl_pure (wants0 rfl) (d := 42) (v := (.bool false)) rfl (by kernel_rfl) ?_
        refine w_nil ?_
        refine meetR_at ?_ ⟨(congrArg Value.bool (show false = (mayS f x (S.getD i stamp0) && !hasR D (S.getD i stamp0).r) by simp only [mayS, sameN, b41, Bool.false_and])), H39⟩
        exact (same_upd rfl (same_upd rfl (same_upd rfl (same_upd rfl (same_upd rfl (same_upd rfl (same_upd rfl (same_upd rfl (same_upd rfl (same_upd rfl (same_upd rfl (same_upd rfl (same_upd rfl (same_upd rfl (same_upd rfl (same_upd rfl (same_upd rfl (same_upd rfl (same_upd rfl (same_upd rfl (same_upd rfl (same_upd rfl (same_upd rfl (same_upd rfl (same_upd rfl (same_refl))))))))))))))))))))))))))
    · rintro f52 w53 ⟨v55, H54⟩
      refine wp_know 42 _ v55 ?_
      refine (bsplit (mayS f x (S.getD i stamp0) && !hasR D (S.getD i stamp0).r)).elim (fun b56 => ?_) (fun b56 => ?_)
      · refine wp_know 42 (.bool true) (congrArg Value.bool b56) ?_
        refine wp_ift rfl ?_
        refine w_lit ?_
        refine wl_pure (wants0 rfl) (d := 43) (v := (.slice a D.length c)) rfl (by kernel_rfl) ?_
        refine wl_pure (wants0 rfl) (d := 44) (v := (.agg ⟨(([(.int .i64 ((S.getD i stamp0).r)), (.int .i64 ((S.getD i stamp0).cl)), (.int .i64 ((S.getD i stamp0).seq))] : List Value) ++ hc (S.getD i stamp0).h ++ ([(.int .u64 ((S.getD i stamp0).t)), (.int .i64 ((S.getD i stamp0).sb)), (.int .i64 ((S.getD i stamp0).sm))] : List Value))⟩)) rfl (e_loadN (vs := (([(.int .i64 ((S.getD i stamp0).r)), (.int .i64 ((S.getD i stamp0).cl)), (.int .i64 ((S.getD i stamp0).seq))] : List Value) ++ hc (S.getD i stamp0).h ++ ([(.int .u64 ((S.getD i stamp0).t)), (.int .i64 ((S.getD i stamp0).sb)), (.int .i64 ((S.getD i stamp0).sm))] : List Value))) rfl (by kernel_rfl) (by kernel_rfl) (by exact Nat.le_of_ble_eq_true (by kernel_rfl)) (H54.at 5 rfl) (by kernel_rfl)) ?_
        refine wl_do (wants0 rfl) (fun K57 hK57 => ?_)
        refine d_buildSlice (e := 49) (size := 38) (bytes := 80) (z := (.agg ⟨(([(.int .i64 (0)), (.int .i64 (0)), (.int .i64 (0))] : List Value) ++ hc hash0 ++ ([(.int .u64 (0)), (.int .i64 (0)), (.int .i64 (0))] : List Value))⟩)) (pvs := [(0, (.agg ⟨(([(.int .i64 ((S.getD i stamp0).r)), (.int .i64 ((S.getD i stamp0).cl)), (.int .i64 ((S.getD i stamp0).seq))] : List Value) ++ hc (S.getD i stamp0).h ++ ([(.int .u64 ((S.getD i stamp0).t)), (.int .i64 ((S.getD i stamp0).sb)), (.int .i64 ((S.getD i stamp0).sm))] : List Value))⟩))]) (vs := (([(.int .i64 ((S.getD i stamp0).r)), (.int .i64 ((S.getD i stamp0).cl)), (.int .i64 ((S.getD i stamp0).seq))] : List Value) ++ hc (S.getD i stamp0).h ++ ([(.int .u64 ((S.getD i stamp0).t)), (.int .i64 ((S.getD i stamp0).sb)), (.int .i64 ((S.getD i stamp0).sm))] : List Value))) rfl H54 (by kernel_rfl) (by kernel_rfl) (by kernel_rfl) (by kernel_rfl) (by kernel_rfl) rfl rfl ?_
        intro b58 w59 (H60 : Sat w [restC w (fun _ => False), cellC b2 36 ([(.int .i64 (f)), (.int .i64 (cn))] : List Value), cellC b6 44 (([(.int .i64 (x.cl)), (.int .i64 (x.seq))] : List Value) ++ hc x.h ++ ([(.int .i64 (x.len)), (.int .i64 (x.sb)), (.int .i64 (x.sm))] : List Value)), cellC b10 47 (([(.int .i64 (0)), (.int .i64 (0))] : List Value) ++ hc hash0 ++ ([(.int .i64 (0)), (.int .i64 (0)), (.int .i64 (0)), (.slice none 0 0)] : List Value)), rowC 49 38 (.slice a D.length c) D.length (D.flatMap encSt), cellC b29 49 (([(.int .i64 ((S.getD i stamp0).r)), (.int .i64 ((S.getD i stamp0).cl)), (.int .i64 ((S.getD i stamp0).seq))] : List Value) ++ hc (S.getD i stamp0).h ++ ([(.int .u64 ((S.getD i stamp0).t)), (.int .i64 ((S.getD i stamp0).sb)), (.int .i64 ((S.getD i stamp0).sm))] : List Value)), rowC 49 38 (.slice (some ⟨b58, 0, none⟩) 1 1) 1 (([(.int .i64 ((S.getD i stamp0).r)), (.int .i64 ((S.getD i stamp0).cl)), (.int .i64 ((S.getD i stamp0).seq))] : List Value) ++ hc (S.getD i stamp0).h ++ ([(.int .u64 ((S.getD i stamp0).t)), (.int .i64 ((S.getD i stamp0).sb)), (.int .i64 ((S.getD i stamp0).sm))] : List Value))] w59)
        have H61 : Sat w [restC w (fun _ => False), cellC b2 36 ([(.int .i64 (f)), (.int .i64 (cn))] : List Value), cellC b6 44 (([(.int .i64 (x.cl)), (.int .i64 (x.seq))] : List Value) ++ hc x.h ++ ([(.int .i64 (x.len)), (.int .i64 (x.sb)), (.int .i64 (x.sm))] : List Value)), cellC b10 47 (([(.int .i64 (0)), (.int .i64 (0))] : List Value) ++ hc hash0 ++ ([(.int .i64 (0)), (.int .i64 (0)), (.int .i64 (0)), (.slice none 0 0)] : List Value)), rowC 49 38 (.slice a D.length c) D.length (D.flatMap encSt), cellC b29 49 (([(.int .i64 ((S.getD i stamp0).r)), (.int .i64 ((S.getD i stamp0).cl)), (.int .i64 ((S.getD i stamp0).seq))] : List Value) ++ hc (S.getD i stamp0).h ++ ([(.int .u64 ((S.getD i stamp0).t)), (.int .i64 ((S.getD i stamp0).sb)), (.int .i64 ((S.getD i stamp0).sm))] : List Value)), rowC 49 38 (.slice (some ⟨b58, 0, none⟩) 1 1) 1 ([(S.getD i stamp0)].flatMap encSt)] w59 := H60.cast (by rw [show ((([(.int .i64 ((S.getD i stamp0).r)), (.int .i64 ((S.getD i stamp0).cl)), (.int .i64 ((S.getD i stamp0).seq))] : List Value) ++ hc (S.getD i stamp0).h ++ ([(.int .u64 ((S.getD i stamp0).t)), (.int .i64 ((S.getD i stamp0).sb)), (.int .i64 ((S.getD i stamp0).sm))] : List Value)) : List Value) = [(S.getD i stamp0)].flatMap encSt from by simp only [List.flatMap_cons, List.flatMap_nil, List.append_nil]; rfl])
        refine hK57 _ _ ?_
        clear hK57 K57
        refine wl_do (wants0 rfl) (fun K62 hK62 => ?_)
        refine d_append (T := 45) (e := 49) (size := 38) (bytes := 80) rfl H61 (by kernel_rfl) 4 6 rfl rfl rfl rfl (flat_one encSt encSt_one [(S.getD i stamp0)]) (by omega) (by omega) ?_
        intro v63 w64 (H65 : Sat w [restC w (fun _ => False), cellC b2 36 ([(.int .i64 (f)), (.int .i64 (cn))] : List Value), cellC b6 44 (([(.int .i64 (x.cl)), (.int .i64 (x.seq))] : List Value) ++ hc x.h ++ ([(.int .i64 (x.len)), (.int .i64 (x.sb)), (.int .i64 (x.sm))] : List Value)), cellC b10 47 (([(.int .i64 (0)), (.int .i64 (0))] : List Value) ++ hc hash0 ++ ([(.int .i64 (0)), (.int .i64 (0)), (.int .i64 (0)), (.slice none 0 0)] : List Value)), rowC 49 38 v63 (D.length + 1) ((D.flatMap encSt) ++ ([(S.getD i stamp0)].flatMap encSt)), cellC b29 49 (([(.int .i64 ((S.getD i stamp0).r)), (.int .i64 ((S.getD i stamp0).cl)), (.int .i64 ((S.getD i stamp0).seq))] : List Value) ++ hc (S.getD i stamp0).h ++ ([(.int .u64 ((S.getD i stamp0).t)), (.int .i64 ((S.getD i stamp0).sb)), (.int .i64 ((S.getD i stamp0).sm))] : List Value)), rowC 49 38 (.slice (some ⟨b58, 0, none⟩) 1 1) 1 ([(S.getD i stamp0)].flatMap encSt)] w64)
        have H68 : Sat w [restC w (fun _ => False), cellC b2 36 ([(.int .i64 (f)), (.int .i64 (cn))] : List Value), cellC b6 44 (([(.int .i64 (x.cl)), (.int .i64 (x.seq))] : List Value) ++ hc x.h ++ ([(.int .i64 (x.len)), (.int .i64 (x.sb)), (.int .i64 (x.sm))] : List Value)), cellC b10 47 (([(.int .i64 (0)), (.int .i64 (0))] : List Value) ++ hc hash0 ++ ([(.int .i64 (0)), (.int .i64 (0)), (.int .i64 (0)), (.slice none 0 0)] : List Value)), rowC 49 38 v63 ((D ++ [(S.getD i stamp0)]).length) ((D ++ [(S.getD i stamp0)]).flatMap encSt), cellC b29 49 (([(.int .i64 ((S.getD i stamp0).r)), (.int .i64 ((S.getD i stamp0).cl)), (.int .i64 ((S.getD i stamp0).seq))] : List Value) ++ hc (S.getD i stamp0).h ++ ([(.int .u64 ((S.getD i stamp0).t)), (.int .i64 ((S.getD i stamp0).sb)), (.int .i64 ((S.getD i stamp0).sm))] : List Value)), rowC 49 38 (.slice (some ⟨b58, 0, none⟩) 1 1) 1 ([(S.getD i stamp0)].flatMap encSt)] w64 := H65.cast (by simp only [List.length_append, List.flatMap_append] <;> rfl)
        obtain ⟨a66, c67, rfl⟩ := ownsRow_shape (H68.at 4 rfl)
        refine hK62 _ _ ?_
        clear hK62 K62
        refine wl_pure (wants0 rfl) (d := 8) (v := (.slice a66 ((D ++ [(S.getD i stamp0)]).length) c67)) rfl (by kernel_rfl) ?_
        refine w_nil ?_
        refine blk_normal ?_
        refine then_normal ?_
        refine w_lit ?_
        refine wl_pure (wants0 rfl) (d := 47) (v := (.int .i64 ((i : Int) + 1))) rfl (e_int (z := (i : Int) + 1) (by kernel_rfl) (IntWalk.i64_in _ (by omega))) ?_
        refine wl_pure (wants0 rfl) (d := 14) (v := (.int .i64 ((i : Int) + 1))) rfl (by kernel_rfl) ?_
        refine w_nil ?_
        have H69 : Sat w [restC w (fun _ => False), cellC b2 36 ([(.int .i64 (f)), (.int .i64 (cn))] : List Value), cellC b6 44 (([(.int .i64 (x.cl)), (.int .i64 (x.seq))] : List Value) ++ hc x.h ++ ([(.int .i64 (x.len)), (.int .i64 (x.sb)), (.int .i64 (x.sm))] : List Value)), cellC b10 47 (([(.int .i64 (0)), (.int .i64 (0))] : List Value) ++ hc hash0 ++ ([(.int .i64 (0)), (.int .i64 (0)), (.int .i64 (0)), (.slice none 0 0)] : List Value)), rowC 49 38 (.slice a66 ((D ++ [(S.getD i stamp0)]).length) c67) ((D ++ [(S.getD i stamp0)]).length) ((D ++ [(S.getD i stamp0)]).flatMap encSt)] w64 := H68.pick [0, 1, 2, 3, 4] (by decide)
        refine round_back ?_ _ ⟨(i + 1), a66, c67, (D ++ [(S.getD i stamp0)]), (show ((.int .i64 ((i : Int) + 1)) : Value) = _ by first | rfl | go_num), (show ((.slice a66 ((D ++ [(S.getD i stamp0)]).length) c67) : Value) = _ by first | rfl | go_num), (by omega), (by rw [outS_step _ _ _ (by omega), ← hD]; unfold takeS; rw [if_pos b56]), H69, rfl⟩ (by omega)
        exact (same_upd rfl (same_upd rfl (same_upd rfl (same_upd rfl (same_upd rfl (same_upd rfl (same_upd rfl (same_upd rfl (same_upd rfl (same_ovr2 rfl (same_upd rfl (same_upd rfl (same_upd rfl (same_upd rfl (same_upd rfl (same_upd rfl (same_upd rfl (same_upd rfl (same_upd rfl (same_ovr))))))))))))))))))))
      · refine wp_know 42 (.bool false) (congrArg Value.bool b56) ?_
        refine wp_iff rfl ?_
        refine w_skip ?_
        refine blk_normal ?_
        refine then_normal ?_
        refine w_lit ?_
        refine wl_pure (wants0 rfl) (d := 47) (v := (.int .i64 ((i : Int) + 1))) rfl (e_int (z := (i : Int) + 1) (by kernel_rfl) (IntWalk.i64_in _ (by omega))) ?_
        refine wl_pure (wants0 rfl) (d := 14) (v := (.int .i64 ((i : Int) + 1))) rfl (by kernel_rfl) ?_
        refine w_nil ?_
        have H70 : Sat w [restC w (fun _ => False), cellC b2 36 ([(.int .i64 (f)), (.int .i64 (cn))] : List Value), cellC b6 44 (([(.int .i64 (x.cl)), (.int .i64 (x.seq))] : List Value) ++ hc x.h ++ ([(.int .i64 (x.len)), (.int .i64 (x.sb)), (.int .i64 (x.sm))] : List Value)), cellC b10 47 (([(.int .i64 (0)), (.int .i64 (0))] : List Value) ++ hc hash0 ++ ([(.int .i64 (0)), (.int .i64 (0)), (.int .i64 (0)), (.slice none 0 0)] : List Value)), rowC 49 38 (.slice a D.length c) D.length (D.flatMap encSt)] w53 := H54.pick [0, 1, 2, 3, 4] (by decide)
        refine round_back ?_ _ ⟨(i + 1), a, c, D, (show ((.int .i64 ((i : Int) + 1)) : Value) = _ by first | rfl | go_num), (show ((.slice a D.length c) : Value) = _ by first | rfl | go_num), (by omega), (by rw [outS_step _ _ _ (by omega), ← hD]; unfold takeS; rw [if_neg (by rw [b56]; exact Bool.false_ne_true)]), H70, rfl⟩ (by omega)
        exact (same_upd rfl (same_upd rfl (same_upd rfl (same_upd rfl (same_ovr2 rfl (same_upd rfl (same_upd rfl (same_upd rfl (same_upd rfl (same_upd rfl (same_upd rfl (same_upd rfl (same_upd rfl (same_upd rfl (same_ovr)))))))))))))))
  · have g71 := of_decide_eq_false b20
    refine wp_know 15 (.bool false) (congrArg Value.bool b20) ?_
    have g72 := of_decide_eq_false b20
    refine wp_iff rfl ?_
    refine w_exit ?_
    refine then_exit ?_
    refine back_exit ?_
    refine blk_hit ?_
    refine then_normal ?_
    refine w_seq ?_
    refine w_seq ?_
    have hT : D = outS f x S := by rw [hD, List.take_of_length_le (by omega)]
    have hrl : D.length = (refS x S N).length := by rw [hT]; exact ref_len hN
    have hD12 : D.length ≤ 12 := by rw [hT]; exact hlo
    refine w_lit ?_
    refine wl_pure (wants0 rfl) (d := 48) (v := (.slice a D.length c)) rfl (by kernel_rfl) ?_
    refine wl_pure (wants0 rfl) (d := 49) (v := (.int .i64 ((D.length : Int)))) rfl (by kernel_rfl) ?_
    refine wl_pure (wants0 rfl) (d := 50) (v := (.agg ⟨([(.int .i64 (f)), (.int .i64 (cn))] : List Value)⟩)) rfl (e_loadN (vs := ([(.int .i64 (f)), (.int .i64 (cn))] : List Value)) rfl (by kernel_rfl) (by kernel_rfl) (by exact Nat.le_of_ble_eq_true (by kernel_rfl)) (H16.at 1 rfl) (by kernel_rfl)) ?_
    refine wl_do (wants0 rfl) (fun K73 hK73 => ?_)
    refine d_call (d := 51) rfl (by kernel_rfl) (zwQ_anyG w15 f cn hf Q hQ) ?_
    rintro _ w74 ⟨rfl, u76⟩
    have H75 := H16.keepU u76
    refine ⟨_, rfl, ?_⟩
    refine hK73 _ _ ?_
    clear hK73 K73
    refine wl_pure (wants0 rfl) (d := 52) (v := (.bool (decide ((D.length : Int) < (Q : Int))))) rfl (by kernel_rfl) ?_
    refine w_nil ?_
    refine then_normal ?_
    refine (bsplit (decide ((D.length : Int) < (Q : Int)))).elim (fun b77 => ?_) (fun b77 => ?_)
    · have g78 := of_decide_eq_true b77
      refine wp_know 52 (.bool true) (congrArg Value.bool b77) ?_
      have g79 := of_decide_eq_true b77
      refine wp_ift rfl ?_
      refine w_seq ?_
      refine w_lit ?_
      refine wl_pure (wants0 rfl) (d := 53) (v := (.agg ⟨(([(.int .i64 (0)), (.int .i64 (0))] : List Value) ++ hc hash0 ++ ([(.int .i64 (0)), (.int .i64 (0)), (.int .i64 (0)), (.slice none 0 0)] : List Value))⟩)) rfl (by kernel_rfl) ?_
      refine wl_do (wants0 rfl) (fun K80 hK80 => ?_)
      refine d_storeX (vs := (([(.int .i64 (0)), (.int .i64 (0))] : List Value) ++ hc hash0 ++ ([(.int .i64 (0)), (.int .i64 (0)), (.int .i64 (0)), (.slice none 0 0)] : List Value))) (cs' := (([(.int .i64 (0)), (.int .i64 (0))] : List Value) ++ hc hash0 ++ ([(.int .i64 (0)), (.int .i64 (0)), (.int .i64 (0)), (.slice none 0 0)] : List Value))) rfl H75 3 rfl rfl rfl rfl (by kernel_rfl) (Nat.le_of_ble_eq_true (by kernel_rfl)) (Nat.le_of_ble_eq_true (by kernel_rfl)) (by kernel_rfl) (by kernel_rfl) ?_
      intro w81 (H82 : Sat w [restC w (fun _ => False), cellC b2 36 ([(.int .i64 (f)), (.int .i64 (cn))] : List Value), cellC b6 44 (([(.int .i64 (x.cl)), (.int .i64 (x.seq))] : List Value) ++ hc x.h ++ ([(.int .i64 (x.len)), (.int .i64 (x.sb)), (.int .i64 (x.sm))] : List Value)), cellC b10 47 (([(.int .i64 (0)), (.int .i64 (0))] : List Value) ++ hc hash0 ++ ([(.int .i64 (0)), (.int .i64 (0)), (.int .i64 (0)), (.slice none 0 0)] : List Value)), rowC 49 38 (.slice a D.length c) D.length (D.flatMap encSt)] w81)
      refine hK80 _ _ ?_
      clear hK80 K80
      refine wl_pure (wants0 rfl) (d := 7) (v := (.int .i64 (8))) rfl (by kernel_rfl) ?_
      refine w_nil ?_
      refine then_normal ?_
      refine w_ret ?_
      refine then_ret ?_
      refine end2 rfl (res_cellN (vs := (([(.int .i64 (0)), (.int .i64 (0))] : List Value) ++ hc hash0 ++ ([(.int .i64 (0)), (.int .i64 (0)), (.int .i64 (0)), (.slice none 0 0)] : List Value))) rfl (by kernel_rfl) (by kernel_rfl) (by exact Nat.le_of_ble_eq_true (by kernel_rfl)) (H82.at 3 rfl) (by kernel_rfl)) (res_tmp (v := (.int .i64 (8))) rfl) ?_
      exact .inl ⟨rfl, by omega, H82.upd 0 rfl [] (fun _ h => h.elim)⟩
    · have g84 := of_decide_eq_false b77
      refine wp_know 52 (.bool false) (congrArg Value.bool b77) ?_
      have g85 := of_decide_eq_false b77
      refine wp_iff rfl ?_
      refine w_skip ?_
      refine then_normal ?_
      refine w_seq ?_
      refine w_lit ?_
      refine wl_pure (wants0 rfl) (d := 54) (v := (.slice a D.length c)) rfl (by kernel_rfl) ?_
      refine wl_do (wants0 rfl) (fun K86 hK86 => ?_)
      obtain ⟨g87, c88, e89⟩ := row_shape (H75.at 4 rfl) (by omega)
      obtain rfl : a = some ⟨g87, 0, none⟩ := by cases e89; rfl
      refine d_call (d := 55) rfl (by kernel_rfl) (sortS_any w74 g87 c D (H75.at 4 rfl) (by omega) (fun s hs => by rw [hT] at hs; have := ((taken_all f x S).mem s).1 hs; omega)) ?_
      rintro _ w90 ⟨rfl, D91, p92, s93, k94, u95⟩
      have H96 : Sat w [restC w (fun _ => False), cellC b2 36 ([(.int .i64 (f)), (.int .i64 (cn))] : List Value), cellC b6 44 (([(.int .i64 (x.cl)), (.int .i64 (x.seq))] : List Value) ++ hc x.h ++ ([(.int .i64 (x.len)), (.int .i64 (x.sb)), (.int .i64 (x.sm))] : List Value)), cellC b10 47 (([(.int .i64 (0)), (.int .i64 (0))] : List Value) ++ hc hash0 ++ ([(.int .i64 (0)), (.int .i64 (0)), (.int .i64 (0)), (.slice none 0 0)] : List Value)), rowC 49 38 (.slice (some ⟨g87, 0, none⟩) D.length c) D.length (D91.flatMap encSt)] w90 := H75.setU u95 4 rfl (by rintro b hb; obtain rfl := List.mem_singleton.1 hb; rfl) k94 (fun b hb => .inl hb)
      have hDl := p92.length_eq
      refine ⟨_, rfl, ?_⟩
      refine hK86 _ _ ?_
      clear hK86 K86
      refine w_nil ?_
      refine then_normal ?_
      refine w_seq ?_
      have hR : D91 = refS x S N := sorted_ref (F := f) (L := S) (x := x) hN (by rw [← hT]; exact p92) s93
      have hcap : D.length ≤ c := by have q := ListAt.cap (ListAt.row (enc := encSt) (sz := 38) encSt_len (by decide) (H96.at 4 rfl)); omega
      refine h_start H96 [restC w (fun _ => False), cellC b2 36 ([(.int .i64 (f)), (.int .i64 (cn))] : List Value), cellC b6 44 (([(.int .i64 (x.cl)), (.int .i64 (x.seq))] : List Value) ++ hc x.h ++ ([(.int .i64 (x.len)), (.int .i64 (x.sb)), (.int .i64 (x.sm))] : List Value)), rowC 49 38 (.slice (some ⟨g87, 0, none⟩) D.length c) D.length (D91.flatMap encSt)] 8 rfl (by kernel_rfl) (fun Hx => (Hx.pick [0, 1, 2, 4] (by decide))) ?_
      intro w97 H98 S99
      refine h_val 0 rfl (by kernel_rfl) (by kernel_rfl) (by kernel_rfl) (fun _ _ _ h => h) S99 (wants0 rfl) (d := 56) (v := (.agg ⟨(([(.int .i64 (x.cl)), (.int .i64 (x.seq))] : List Value) ++ hc x.h ++ ([(.int .i64 (x.len)), (.int .i64 (x.sb)), (.int .i64 (x.sm))] : List Value))⟩)) rfl (fun _ H' => (e_loadN (vs := (([(.int .i64 (x.cl)), (.int .i64 (x.seq))] : List Value) ++ hc x.h ++ ([(.int .i64 (x.len)), (.int .i64 (x.sb)), (.int .i64 (x.sm))] : List Value))) rfl (by kernel_rfl) (by kernel_rfl) (by exact Nat.le_of_ble_eq_true (by kernel_rfl)) (H'.at 2 rfl) (by kernel_rfl))) ?_
      refine h_val 1 rfl (by kernel_rfl) (by kernel_rfl) (by kernel_rfl) (fun _ _ _ h => h) S99 (wants0 rfl) (d := 57) (v := (.slice (some ⟨g87, 0, none⟩) D.length c)) rfl (fun _ H' => (by kernel_rfl)) ?_
      refine h_val 2 rfl (by kernel_rfl) (by kernel_rfl) (by kernel_rfl) (fun _ _ _ h => h) S99 (wants0 rfl) (d := 58) (v := (.agg ⟨([(.int .i64 (f)), (.int .i64 (cn))] : List Value)⟩)) rfl (fun _ H' => (e_loadN (vs := ([(.int .i64 (f)), (.int .i64 (cn))] : List Value)) rfl (by kernel_rfl) (by kernel_rfl) (by exact Nat.le_of_ble_eq_true (by kernel_rfl)) (H'.at 1 rfl) (by kernel_rfl))) ?_
      refine h_do 3 rfl (by kernel_rfl) (wants0 rfl) (fun K100 hK100 => ?_)
      refine d_call (d := 59) rfl (by kernel_rfl) (zwQ_anyG w97 f cn hf Q hQ) ?_
      rintro _ w101 ⟨rfl, u103⟩
      have H102 := H98.keepU u103
      refine ⟨_, rfl, ?_⟩
      have S104 := H102.pick [0, 1, 2, 4] (by decide)
      refine hK100 _ _ S104 ?_
      clear hK100 K100
      refine h_val 4 rfl (by kernel_rfl) (by kernel_rfl) (by kernel_rfl) (fun _ _ _ h => h) S104 (wants0 rfl) (d := 60) (v := (.slice (some ⟨g87, 0, none⟩) Q c)) rfl (fun _ H' => (e_sliceHi (E := 49) (q := Q) (by kernel_rfl) (by kernel_rfl) rfl rfl (by omega) (by omega))) ?_
      refine h_val 5 rfl (by kernel_rfl) (by kernel_rfl) (by kernel_rfl) (fun _ _ _ h => h) S104 (wants0 rfl) (d := 61) (v := (.agg ⟨(([(.int .i64 (x.cl)), (.int .i64 (x.seq))] : List Value) ++ hc x.h ++ ([(.int .i64 (x.len)), (.int .i64 (x.sb)), (.int .i64 (x.sm)), (.slice (some ⟨g87, 0, none⟩) Q c)] : List Value))⟩)) rfl (fun _ H' => (by kernel_rfl)) ?_
      refine h_do 6 rfl (by kernel_rfl) (wants0 rfl) (fun K105 hK105 => ?_)
      refine d_storeX (vs := (([(.int .i64 (x.cl)), (.int .i64 (x.seq))] : List Value) ++ hc x.h ++ ([(.int .i64 (x.len)), (.int .i64 (x.sb)), (.int .i64 (x.sm)), (.slice (some ⟨g87, 0, none⟩) Q c)] : List Value))) (cs' := (([(.int .i64 (x.cl)), (.int .i64 (x.seq))] : List Value) ++ hc x.h ++ ([(.int .i64 (x.len)), (.int .i64 (x.sb)), (.int .i64 (x.sm)), (.slice (some ⟨g87, 0, none⟩) Q c)] : List Value))) rfl H102 3 rfl rfl rfl rfl (by kernel_rfl) (Nat.le_of_ble_eq_true (by kernel_rfl)) (Nat.le_of_ble_eq_true (by kernel_rfl)) (by kernel_rfl) (by kernel_rfl) ?_
      intro w106 (H107 : Sat w [restC w (fun _ => False), cellC b2 36 ([(.int .i64 (f)), (.int .i64 (cn))] : List Value), cellC b6 44 (([(.int .i64 (x.cl)), (.int .i64 (x.seq))] : List Value) ++ hc x.h ++ ([(.int .i64 (x.len)), (.int .i64 (x.sb)), (.int .i64 (x.sm))] : List Value)), cellC b10 47 (([(.int .i64 (x.cl)), (.int .i64 (x.seq))] : List Value) ++ hc x.h ++ ([(.int .i64 (x.len)), (.int .i64 (x.sb)), (.int .i64 (x.sm)), (.slice (some ⟨g87, 0, none⟩) Q c)] : List Value)), rowC 49 38 (.slice (some ⟨g87, 0, none⟩) D.length c) D.length (D91.flatMap encSt)] w106)
      have S109 := H107.pick [0, 1, 2, 4] (by decide)
      refine hK105 _ _ S109 ?_
      clear hK105 K105
      refine h_val 7 rfl (by kernel_rfl) (by kernel_rfl) (by kernel_rfl) (fun _ _ _ h => h) S109 (wants0 rfl) (d := 7) (v := (.int .i64 (0))) rfl (fun _ H' => (by kernel_rfl)) ?_
      refine h_fin (by kernel_rfl) ?_
      refine then_normal ?_
      refine w_ret ?_
      refine end2 rfl (res_cellN (vs := (([(.int .i64 (x.cl)), (.int .i64 (x.seq))] : List Value) ++ hc x.h ++ ([(.int .i64 (x.len)), (.int .i64 (x.sb)), (.int .i64 (x.sm)), (.slice (some ⟨g87, 0, none⟩) Q c)] : List Value))) rfl (by kernel_rfl) (by kernel_rfl) (by exact Nat.le_of_ble_eq_true (by kernel_rfl)) (H107.at 3 rfl) (by kernel_rfl)) (res_tmp (v := (.int .i64 (0))) rfl) ?_
      exact .inr ⟨g87, c, rfl, by omega, (by have q := H107.at 4 rfl; rw [hrl, hR] at q; exact q), H107.upd 0 rfl [] (fun _ h => h.elim), H107.fresh 0 rfl (fun _ h => h) 4 rfl rfl g87 rfl⟩

end Go.Proofs.Ytbpeofcoceaahaa
