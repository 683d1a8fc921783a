/- WHAT IS PROVED: the program's book: contracts. Conditions: stated with each. -/
import Derived.Test.YtenihpghfdcpkaaBytesD
namespace Go.Proofs.Ytenihpghfdcpkaa
open Go.RowKit
theorem optD {α : Type} (enc : α → Value) (o : Option α) (z : α) : (o.map enc).getD (enc z) = enc (o.getD z) := by cases o <;> rfl
def pbkL (b mb : Nat) (L : List Signed) (tv : Value) (tx : List UInt8) : List Ck := [cellC b 109 [.map (some mb)], mapC mb signedV (Value.int .i64) (marks L), rowC 5 1 tv tx.length (tx.flatMap encB)]

set_option maxRecDepth 100000 in
set_option maxHeartbeats 400000 in
theorem pRight_any (w : World) (b mb : Nat) (L : List Signed) (tv : Value) (tx : List UInt8) (hB : (sepC (pbkL b mb L tv tx)).ok w) (_hl : L.length ≤ 1000000) (p m : Int) :
    Calls Try.prog 38 #[(.pointer (some ⟨b, 0, none⟩)), (.agg ⟨([(.int .i64 (p)), (.int .i64 (m))] : List Value)⟩), tv] w fun e w' => e = .returned (.bool (rightB L p m tx)) ∧ Sat w [cellC b 109 [.map (some mb)], mapC mb signedV (Value.int .i64) (marks L), rowC 5 1 tv tx.length (tx.flatMap encB), restC w (sepC (pbkL b mb L tv tx)).fp] w' := by
  have H : Sat w [cellC b 109 ([(.map (some mb))] : List Value), mapC mb signedV (Value.int .i64) (marks L), rowC 5 1 tv tx.length (tx.flatMap encB), restC w (sepC (pbkL b mb L tv tx)).fp] w := Sat.start (pbkL b mb L tv tx) hB
  have hmk : (lookM (marks L) (⟨p, tx⟩ : Signed)).getD 0 = markOf L (⟨p, tx⟩ : Signed) := by rw [look_marks]; rfl
  refine calls_fr Try.func38 rfl 26 rfl (Nat.le_of_ble_eq_true rfl) ?_
  refine w_seq ?_
  refine w_lit ?_
  refine wl_do (wants0 rfl) (fun K1 hK1 => ?_)
  refine d_box (vs := ([(.int .i64 (p)), (.int .i64 (m))] : List Value)) rfl H rfl rfl ?_
  intro b2 w3 (H4 : Sat w [cellC b 109 ([(.map (some mb))] : List Value), mapC mb signedV (Value.int .i64) (marks L), rowC 5 1 tv tx.length (tx.flatMap encB), restC w (sepC (pbkL b mb L tv tx)).fp, cellC b2 31 ([(.int .i64 (p)), (.int .i64 (m))] : List Value)] w3)
  refine hK1 _ _ ?_
  clear hK1 K1
  refine wl_pure (wants0 rfl) (d := 6) (v := (.bool false)) rfl (by kernel_rfl) ?_
  refine w_nil ?_
  refine then_normal ?_
  refine w_seq ?_
  refine q_start H4 (by kernel_rfl) (by kernel_rfl) ?_
  refine q_val (wants0 rfl) (d := 8) (v := (.pointer (some ⟨b, 0, none⟩))) rfl (fun _ H' => (by kernel_rfl)) ?_
  refine q_val (wants0 rfl) (d := 9) (v := (.pointer (some ⟨b, 0, none⟩))) rfl (fun _ H' => (by kernel_rfl)) ?_
  refine q_val (wants0 rfl) (d := 10) (v := (.pointer (some ⟨b, 0, none⟩))) rfl (fun _ H' => (by kernel_rfl)) ?_
  refine q_val (wants0 rfl) (d := 11) (v := (.map (some mb))) rfl (fun _ H' => (e_load1 rfl (by kernel_rfl) (H'.cell 0 rfl rfl))) ?_
  refine q_val (wants0 rfl) (d := 12) (v := (.pointer (some ⟨b2, 0, none⟩))) rfl (fun _ H' => (by kernel_rfl)) ?_
  refine q_val (wants0 rfl) (d := 13) (v := (.int .i64 (p))) rfl (fun _ H' => (e_load1 rfl (by kernel_rfl) (H'.cell 4 rfl rfl))) ?_
  refine q_val (wants0 rfl) (d := 14) (v := tv) rfl (fun _ H' => (by kernel_rfl)) ?_
  refine q_val (wants0 rfl) (d := 15) (v := (strV tx)) rfl (fun _ H' => (e_convBytes (e := 5) (s := tx) (by kernel_rfl) (by kernel_rfl) (by kernel_rfl) rfl (list_bytes (ListAt.row (e := 5) (enc := encB) (sz := 1) (v := tv) (n := tx.length) (xs := tx) encB_len (by decide) (H'.at 2 rfl))))) ?_
  refine q_val (wants0 rfl) (d := 16) (v := (.agg ⟨([(.int .i64 (p)), (strV tx)] : List Value)⟩)) rfl (fun _ H' => (by kernel_rfl)) ?_
  refine q_val (wants0 rfl) (d := 17) (v := (.int .i64 ((lookM (marks L) (⟨p, tx⟩ : Signed)).getD 0))) rfl (fun _ H' => (e_lookup (kt := 106) (et := 3) signedK (by kernel_rfl) (fun w => by kernel_rfl) rfl (⟨p, tx⟩ : Signed) rfl (H'.at 1 rfl) (optD (Value.int .i64) _ _))) ?_
  refine q_val (wants0 rfl) (d := 7) (v := (.int .i64 ((lookM (marks L) (⟨p, tx⟩ : Signed)).getD 0))) rfl (fun _ H' => (by kernel_rfl)) ?_
  refine q_end ?_
  intro w5 H6
  refine then_normal ?_
  refine w_seq ?_
  refine w_lit ?_
  refine wl_pure (wants0 rfl) (d := 18) (v := (.int .i64 ((lookM (marks L) (⟨p, tx⟩ : Signed)).getD 0))) rfl (by kernel_rfl) ?_
  refine wl_pure (wants0 rfl) (d := 19) (v := (.bool (decide (((lookM (marks L) (⟨p, tx⟩ : Signed)).getD 0) > 0)))) rfl (by kernel_rfl) ?_
  refine wl_pure (wants0 rfl) (d := 20) (v := (.bool (decide (((lookM (marks L) (⟨p, tx⟩ : Signed)).getD 0) > 0)))) rfl (by kernel_rfl) ?_
  refine (bsplit (decide (((lookM (marks L) (⟨p, tx⟩ : Signed)).getD 0) > 0))).elim (fun b7 => ?_) (fun b7 => ?_)
  · have g8 := of_decide_eq_true b7
    refine wl_know 20 (.bool true) (congrArg Value.bool b7) ?_
    have g9 := of_decide_eq_true b7
    refine wl_pure (wantsY 2 20 true rfl (by kernel_rfl) rfl (by kernel_rfl)) (d := 21) (v := (.int .i64 ((lookM (marks L) (⟨p, tx⟩ : Signed)).getD 0))) rfl (by kernel_rfl) ?_
    refine wl_pure (wantsY 2 20 true rfl (by kernel_rfl) rfl (by kernel_rfl)) (d := 22) (v := (.pointer (some ⟨b2, 1, none⟩))) rfl (by kernel_rfl) ?_
    refine wl_pure (wantsY 2 20 true rfl (by kernel_rfl) rfl (by kernel_rfl)) (d := 23) (v := (.int .i64 (m))) rfl (e_load1 rfl (by kernel_rfl) (H6.cell 4 rfl rfl)) ?_
    refine wl_pure (wantsY 2 20 true rfl (by kernel_rfl) rfl (by kernel_rfl)) (d := 24) (v := (.bool (decide (((lookM (marks L) (⟨p, tx⟩ : Signed)).getD 0) = m)))) rfl (by kernel_rfl) ?_
    refine wl_pure (wants0 rfl) (d := 25) (v := (.bool (decide (((lookM (marks L) (⟨p, tx⟩ : Signed)).getD 0) = m)))) rfl (by kernel_rfl) ?_
    refine wl_pure (wants0 rfl) (d := 6) (v := (.bool (decide (((lookM (marks L) (⟨p, tx⟩ : Signed)).getD 0) = m)))) rfl (by kernel_rfl) ?_
    refine w_nil ?_
    refine then_normal ?_
    refine w_ret ?_
    refine end1 rfl (res_tmp (v := (.bool (decide (((lookM (marks L) (⟨p, tx⟩ : Signed)).getD 0) = m)))) rfl) ?_
    exact ⟨by unfold rightB; rw [← hmk]; simp [b7], H6.pick [0, 1, 2, 3] (by decide)⟩
  · have g10 := of_decide_eq_false b7
    refine wl_know 20 (.bool false) (congrArg Value.bool b7) ?_
    have g11 := of_decide_eq_false b7
    refine wl_pass (wantsN 2 20 true rfl (by kernel_rfl) rfl (by kernel_rfl)) rfl ?_
    refine wl_pass (wantsN 2 20 true rfl (by kernel_rfl) rfl (by kernel_rfl)) rfl ?_
    refine wl_pass (wantsN 2 20 true rfl (by kernel_rfl) rfl (by kernel_rfl)) rfl ?_
    refine wl_pass (wantsN 2 20 true rfl (by kernel_rfl) rfl (by kernel_rfl)) rfl ?_
    refine wl_pure (wants0 rfl) (d := 25) (v := (.bool false)) rfl (by kernel_rfl) ?_
    refine wl_pure (wants0 rfl) (d := 6) (v := (.bool false)) rfl (by kernel_rfl) ?_
    refine w_nil ?_
    refine then_normal ?_
    refine w_ret ?_
    refine end1 rfl (res_tmp (v := (.bool false)) rfl) ?_
    exact ⟨by unfold rightB; rw [← hmk]; simp [b7], H6.pick [0, 1, 2, 3] (by decide)⟩

set_option maxRecDepth 100000 in
set_option maxHeartbeats 400000 in
theorem pSign_any (w : World) (b mb : Nat) (L : List Signed) (tv : Value) (tx : List UInt8) (hB : (sepC (pbkL b mb L tv tx)).ok w) (_hl : L.length ≤ 1000000) (p : Int) :
    Calls Try.prog 14 #[(.pointer (some ⟨b, 0, none⟩)), (.int .i64 (p)), tv] w fun e w' => e = .returned (.agg #[.int .i64 p, .int .i64 (markOf (signL L (⟨p, tx⟩ : Signed)) (⟨p, tx⟩ : Signed))]) ∧ Sat w [cellC b 109 [.map (some mb)], mapC mb signedV (Value.int .i64) (marks (signL L (⟨p, tx⟩ : Signed))), rowC 5 1 tv tx.length (tx.flatMap encB), restC w (sepC (pbkL b mb L tv tx)).fp] w' := by
  have H : Sat w [cellC b 109 ([(.map (some mb))] : List Value), mapC mb signedV (Value.int .i64) (marks L), rowC 5 1 tv tx.length (tx.flatMap encB), restC w (sepC (pbkL b mb L tv tx)).fp] w := Sat.start (pbkL b mb L tv tx) hB
  have hmk : (lookM (marks L) (⟨p, tx⟩ : Signed)).getD 0 = markOf L (⟨p, tx⟩ : Signed) := by rw [look_marks]; rfl
  have hml := marks_len L
  refine calls_fr Try.func14 rfl 38 rfl (Nat.le_of_ble_eq_true rfl) ?_
  refine w_seq ?_
  refine w_lit ?_
  refine wl_do (wants0 rfl) (fun K1 hK1 => ?_)
  refine d_alloc (zs := ([(.int .i64 (0)), (.int .i64 (0))] : List Value)) (z := (.agg ⟨([(.int .i64 (0)), (.int .i64 (0))] : List Value)⟩)) rfl H (by kernel_rfl) (by kernel_rfl) ?_
  intro b2 w3 (H4 : Sat w [cellC b 109 ([(.map (some mb))] : List Value), mapC mb signedV (Value.int .i64) (marks L), rowC 5 1 tv tx.length (tx.flatMap encB), restC w (sepC (pbkL b mb L tv tx)).fp, cellC b2 31 ([(.int .i64 (0)), (.int .i64 (0))] : List Value)] w3)
  refine hK1 _ _ ?_
  clear hK1 K1
  refine w_nil ?_
  refine then_normal ?_
  refine w_seq ?_
  refine w_lit ?_
  refine wl_pure (wants0 rfl) (d := 8) (v := (.int .i64 (p))) rfl (by kernel_rfl) ?_
  refine wl_pure (wants0 rfl) (d := 9) (v := tv) rfl (by kernel_rfl) ?_
  refine wl_pure (wants0 rfl) (d := 10) (v := (strV tx)) rfl (e_convBytes (e := 5) (s := tx) (by kernel_rfl) (by kernel_rfl) (by kernel_rfl) rfl (list_bytes (ListAt.row (e := 5) (enc := encB) (sz := 1) (v := tv) (n := tx.length) (xs := tx) encB_len (by decide) (H4.at 2 rfl)))) ?_
  refine wl_pure (wants0 rfl) (d := 11) (v := (.agg ⟨([(.int .i64 (p)), (strV tx)] : List Value)⟩)) rfl (by kernel_rfl) ?_
  refine wl_do (wants0 rfl) (fun K5 hK5 => ?_)
  refine d_alloc (zs := ([(.int .i64 (0)), (strV ([] : List UInt8))] : List Value)) (z := (.agg ⟨([(.int .i64 (0)), (strV ([] : List UInt8))] : List Value)⟩)) rfl H4 (by kernel_rfl) (by kernel_rfl) ?_
  intro b6 w7 (H8 : Sat w [cellC b 109 ([(.map (some mb))] : List Value), mapC mb signedV (Value.int .i64) (marks L), rowC 5 1 tv tx.length (tx.flatMap encB), restC w (sepC (pbkL b mb L tv tx)).fp, cellC b2 31 ([(.int .i64 (0)), (.int .i64 (0))] : List Value), cellC b6 106 ([(.int .i64 (0)), (strV ([] : List UInt8))] : List Value)] w7)
  refine hK5 _ _ ?_
  clear hK5 K5
  refine wl_do (wants0 rfl) (fun K9 hK9 => ?_)
  refine d_store (vs := ([(.int .i64 (p)), (strV tx)] : List Value)) rfl H8 5 rfl rfl rfl rfl (by kernel_rfl) (Nat.le_of_ble_eq_true (by kernel_rfl)) (Nat.le_of_ble_eq_true (by kernel_rfl)) (by kernel_rfl) ?_
  intro w10 (H11 : Sat w [cellC b 109 ([(.map (some mb))] : List Value), mapC mb signedV (Value.int .i64) (marks L), rowC 5 1 tv tx.length (tx.flatMap encB), restC w (sepC (pbkL b mb L tv tx)).fp, cellC b2 31 ([(.int .i64 (0)), (.int .i64 (0))] : List Value), cellC b6 106 ([(.int .i64 (p)), (strV tx)] : List Value)] w10)
  refine hK9 _ _ ?_
  clear hK9 K9
  refine w_nil ?_
  refine then_normal ?_
  refine w_seq ?_
  refine w_seq ?_
  refine q_start H11 (by kernel_rfl) (by kernel_rfl) ?_
  refine q_val (wants0 rfl) (d := 12) (v := (.pointer (some ⟨b, 0, none⟩))) rfl (fun _ H' => (by kernel_rfl)) ?_
  refine q_val (wants0 rfl) (d := 13) (v := (.pointer (some ⟨b, 0, none⟩))) rfl (fun _ H' => (by kernel_rfl)) ?_
  refine q_val (wants0 rfl) (d := 14) (v := (.pointer (some ⟨b, 0, none⟩))) rfl (fun _ H' => (by kernel_rfl)) ?_
  refine q_val (wants0 rfl) (d := 15) (v := (.map (some mb))) rfl (fun _ H' => (e_load1 rfl (by kernel_rfl) (H'.cell 0 rfl rfl))) ?_
  refine q_val (wants0 rfl) (d := 16) (v := (.agg ⟨([(.int .i64 (p)), (strV tx)] : List Value)⟩)) rfl (fun _ H' => (e_loadN (vs := ([(.int .i64 (p)), (strV tx)] : List Value)) rfl (by kernel_rfl) (by kernel_rfl) (by exact Nat.le_of_ble_eq_true (by kernel_rfl)) (H'.at 5 rfl) (by kernel_rfl))) ?_
  refine q_val (wants0 rfl) (d := 17) (v := (.int .i64 ((lookM (marks L) (⟨p, tx⟩ : Signed)).getD 0))) rfl (fun _ H' => (e_lookup (kt := 106) (et := 3) signedK (by kernel_rfl) (fun w => by kernel_rfl) rfl (⟨p, tx⟩ : Signed) rfl (H'.at 1 rfl) (optD (Value.int .i64) _ _))) ?_
  refine q_val (wants0 rfl) (d := 18) (v := (.bool (decide (((lookM (marks L) (⟨p, tx⟩ : Signed)).getD 0) = 0)))) rfl (fun _ H' => (by kernel_rfl)) ?_
  refine q_end ?_
  intro w13 H14
  refine then_normal ?_
  refine (bsplit (decide (((lookM (marks L) (⟨p, tx⟩ : Signed)).getD 0) = 0))).elim (fun b15 => ?_) (fun b15 => ?_)
  · have g16 := of_decide_eq_true b15
    refine wp_know 18 (.bool true) (congrArg Value.bool b15) ?_
    have g17 := of_decide_eq_true b15
    refine wp_ift rfl ?_
    refine h_start H14 [cellC b 109 ([(.map (some mb))] : List Value), rowC 5 1 tv tx.length (tx.flatMap encB), restC w (sepC (pbkL b mb L tv tx)).fp, cellC b2 31 ([(.int .i64 (0)), (.int .i64 (0))] : List Value), cellC b6 106 ([(.int .i64 (p)), (strV tx)] : List Value)] 12 rfl (by kernel_rfl) (fun Hx => (Hx.pick [0, 2, 3, 4, 5] (by decide))) ?_
    intro w18 H19 S20
    refine h_val 0 rfl (by kernel_rfl) (by kernel_rfl) (by kernel_rfl) (fun _ _ _ h => h) S20 (wants0 rfl) (d := 19) (v := (.pointer (some ⟨b, 0, none⟩))) rfl (fun _ H' => (by kernel_rfl)) ?_
    refine h_val 1 rfl (by kernel_rfl) (by kernel_rfl) (by kernel_rfl) (fun _ _ _ h => h) S20 (wants0 rfl) (d := 20) (v := (.pointer (some ⟨b, 0, none⟩))) rfl (fun _ H' => (by kernel_rfl)) ?_
    refine h_val 2 rfl (by kernel_rfl) (by kernel_rfl) (by kernel_rfl) (fun _ _ _ h => h) S20 (wants0 rfl) (d := 21) (v := (.pointer (some ⟨b, 0, none⟩))) rfl (fun _ H' => (by kernel_rfl)) ?_
    refine h_val 3 rfl (by kernel_rfl) (by kernel_rfl) (by kernel_rfl) (fun _ _ _ h => h) S20 (wants0 rfl) (d := 22) (v := (.map (some mb))) rfl (fun _ H' => (e_load1 rfl (by kernel_rfl) (H'.cell 0 rfl rfl))) ?_
    refine h_val 4 rfl (by kernel_rfl) (by kernel_rfl) (by kernel_rfl) (fun _ _ _ h => h) S20 (wants0 rfl) (d := 23) (v := (.agg ⟨([(.int .i64 (p)), (strV tx)] : List Value)⟩)) rfl (fun _ H' => (e_loadN (vs := ([(.int .i64 (p)), (strV tx)] : List Value)) rfl (by kernel_rfl) (by kernel_rfl) (by exact Nat.le_of_ble_eq_true (by kernel_rfl)) (H'.at 4 rfl) (by kernel_rfl))) ?_
    refine h_val 5 rfl (by kernel_rfl) (by kernel_rfl) (by kernel_rfl) (fun _ _ _ h => h) S20 (wants0 rfl) (d := 24) (v := (.pointer (some ⟨b, 0, none⟩))) rfl (fun _ H' => (by kernel_rfl)) ?_
    refine h_val 6 rfl (by kernel_rfl) (by kernel_rfl) (by kernel_rfl) (fun _ _ _ h => h) S20 (wants0 rfl) (d := 25) (v := (.pointer (some ⟨b, 0, none⟩))) rfl (fun _ H' => (by kernel_rfl)) ?_
    refine h_val 7 rfl (by kernel_rfl) (by kernel_rfl) (by kernel_rfl) (fun _ _ _ h => h) S20 (wants0 rfl) (d := 26) (v := (.pointer (some ⟨b, 0, none⟩))) rfl (fun _ H' => (by kernel_rfl)) ?_
    refine h_val 8 rfl (by kernel_rfl) (by kernel_rfl) (by kernel_rfl) (fun _ _ _ h => h) S20 (wants0 rfl) (d := 27) (v := (.map (some mb))) rfl (fun _ H' => (e_load1 rfl (by kernel_rfl) (H'.cell 0 rfl rfl))) ?_
    refine h_do 9 rfl (by kernel_rfl) (wants0 rfl) (fun K21 hK21 => ?_)
    refine d_pure (d := 28) (v := (.int .i64 ((((marks L)).length : Int)))) rfl (e_len (kt := 106) (et := 3) (by kernel_rfl) (H19.at 1 rfl) rfl) ?_
    have S22 := H19.pick [0, 2, 3, 4, 5] (by decide)
    refine hK21 _ _ S22 ?_
    clear hK21 K21
    refine h_val 10 rfl (by kernel_rfl) (by kernel_rfl) (by kernel_rfl) (fun _ _ _ h => h) S22 (wants0 rfl) (d := 29) (v := (.int .i64 ((((marks L)).length : Int) + 1))) rfl (fun _ H' => (e_int (z := (((marks L)).length : Int) + 1) (by kernel_rfl) (IntWalk.i64_in _ (by omega)))) ?_
    refine h_do 11 rfl (by kernel_rfl) (wants0 rfl) (fun K23 hK23 => ?_)
    refine d_mapUpdate (kt := 106) (et := 3) rfl H19 1 rfl signedK (by kernel_rfl) rfl (⟨p, tx⟩ : Signed) rfl ((((marks L)).length : Int) + 1) rfl ?_
    intro w24 (H25 : Sat w [cellC b 109 ([(.map (some mb))] : List Value), mapC mb signedV (Value.int .i64) (putM (marks L) (⟨p, tx⟩ : Signed) ((((marks L)).length : Int) + 1)), rowC 5 1 tv tx.length (tx.flatMap encB), restC w (sepC (pbkL b mb L tv tx)).fp, cellC b2 31 ([(.int .i64 (0)), (.int .i64 (0))] : List Value), cellC b6 106 ([(.int .i64 (p)), (strV tx)] : List Value)] w24)
    have S26 := H25.pick [0, 2, 3, 4, 5] (by decide)
    refine hK23 _ _ S26 ?_
    clear hK23 K23
    refine h_fin (by kernel_rfl) ?_
    refine then_normal ?_
    refine w_seq ?_
    refine h_start H25 [cellC b 109 ([(.map (some mb))] : List Value), mapC mb signedV (Value.int .i64) (putM (marks L) (⟨p, tx⟩ : Signed) ((((marks L)).length : Int) + 1)), rowC 5 1 tv tx.length (tx.flatMap encB), restC w (sepC (pbkL b mb L tv tx)).fp, cellC b6 106 ([(.int .i64 (p)), (strV tx)] : List Value)] 9 rfl (by kernel_rfl) (fun Hx => (Hx.pick [0, 1, 2, 3, 5] (by decide))) ?_
    intro w27 H28 S29
    refine h_val 0 rfl (by kernel_rfl) (by kernel_rfl) (by kernel_rfl) (fun _ _ _ h => h) S29 (wants0 rfl) (d := 30) (v := (.int .i64 (p))) rfl (fun _ H' => (by kernel_rfl)) ?_
    refine h_val 1 rfl (by kernel_rfl) (by kernel_rfl) (by kernel_rfl) (fun _ _ _ h => h) S29 (wants0 rfl) (d := 31) (v := (.pointer (some ⟨b, 0, none⟩))) rfl (fun _ H' => (by kernel_rfl)) ?_
    refine h_val 2 rfl (by kernel_rfl) (by kernel_rfl) (by kernel_rfl) (fun _ _ _ h => h) S29 (wants0 rfl) (d := 32) (v := (.pointer (some ⟨b, 0, none⟩))) rfl (fun _ H' => (by kernel_rfl)) ?_
    refine h_val 3 rfl (by kernel_rfl) (by kernel_rfl) (by kernel_rfl) (fun _ _ _ h => h) S29 (wants0 rfl) (d := 33) (v := (.pointer (some ⟨b, 0, none⟩))) rfl (fun _ H' => (by kernel_rfl)) ?_
    refine h_val 4 rfl (by kernel_rfl) (by kernel_rfl) (by kernel_rfl) (fun _ _ _ h => h) S29 (wants0 rfl) (d := 34) (v := (.map (some mb))) rfl (fun _ H' => (e_load1 rfl (by kernel_rfl) (H'.cell 0 rfl rfl))) ?_
    refine h_val 5 rfl (by kernel_rfl) (by kernel_rfl) (by kernel_rfl) (fun _ _ _ h => h) S29 (wants0 rfl) (d := 35) (v := (.agg ⟨([(.int .i64 (p)), (strV tx)] : List Value)⟩)) rfl (fun _ H' => (e_loadN (vs := ([(.int .i64 (p)), (strV tx)] : List Value)) rfl (by kernel_rfl) (by kernel_rfl) (by exact Nat.le_of_ble_eq_true (by kernel_rfl)) (H'.at 4 rfl) (by kernel_rfl))) ?_
    refine h_val 6 rfl (by kernel_rfl) (by kernel_rfl) (by kernel_rfl) (fun _ _ _ h => h) S29 (wants0 rfl) (d := 36) (v := (.int .i64 ((lookM (putM (marks L) (⟨p, tx⟩ : Signed) ((((marks L)).length : Int) + 1)) (⟨p, tx⟩ : Signed)).getD 0))) rfl (fun _ H' => (e_lookup (kt := 106) (et := 3) signedK (by kernel_rfl) (fun w => by kernel_rfl) rfl (⟨p, tx⟩ : Signed) rfl (H'.at 1 rfl) (optD (Value.int .i64) _ _))) ?_
    refine h_val 7 rfl (by kernel_rfl) (by kernel_rfl) (by kernel_rfl) (fun _ _ _ h => h) S29 (wants0 rfl) (d := 37) (v := (.agg ⟨([(.int .i64 (p)), (.int .i64 ((lookM (putM (marks L) (⟨p, tx⟩ : Signed) ((((marks L)).length : Int) + 1)) (⟨p, tx⟩ : Signed)).getD 0))] : List Value)⟩)) rfl (fun _ H' => (by kernel_rfl)) ?_
    refine h_do 8 rfl (by kernel_rfl) (wants0 rfl) (fun K30 hK30 => ?_)
    refine d_store (vs := ([(.int .i64 (p)), (.int .i64 ((lookM (putM (marks L) (⟨p, tx⟩ : Signed) ((((marks L)).length : Int) + 1)) (⟨p, tx⟩ : Signed)).getD 0))] : List Value)) rfl H28 4 rfl rfl rfl rfl (by kernel_rfl) (Nat.le_of_ble_eq_true (by kernel_rfl)) (Nat.le_of_ble_eq_true (by kernel_rfl)) (by kernel_rfl) ?_
    intro w31 (H32 : Sat w [cellC b 109 ([(.map (some mb))] : List Value), mapC mb signedV (Value.int .i64) (putM (marks L) (⟨p, tx⟩ : Signed) ((((marks L)).length : Int) + 1)), rowC 5 1 tv tx.length (tx.flatMap encB), restC w (sepC (pbkL b mb L tv tx)).fp, cellC b2 31 ([(.int .i64 (p)), (.int .i64 ((lookM (putM (marks L) (⟨p, tx⟩ : Signed) ((((marks L)).length : Int) + 1)) (⟨p, tx⟩ : Signed)).getD 0))] : List Value), cellC b6 106 ([(.int .i64 (p)), (strV tx)] : List Value)] w31)
    have S34 := H32.pick [0, 1, 2, 3, 5] (by decide)
    refine hK30 _ _ S34 ?_
    clear hK30 K30
    refine h_fin (by kernel_rfl) ?_
    refine then_normal ?_
    refine w_ret ?_
    refine end1 rfl (res_cellN (vs := ([(.int .i64 (p)), (.int .i64 ((lookM (putM (marks L) (⟨p, tx⟩ : Signed) ((((marks L)).length : Int) + 1)) (⟨p, tx⟩ : Signed)).getD 0))] : List Value)) rfl (by kernel_rfl) (by kernel_rfl) (by exact Nat.le_of_ble_eq_true (by kernel_rfl)) (H32.at 4 rfl) (by kernel_rfl)) ?_
    have hm : (⟨p, tx⟩ : Signed) ∉ L := fun hc => by
      have q := of_decide_eq_true b15
      rw [hmk] at q
      have := (markOf_pos hc).1
      omega
    have hs : signL L (⟨p, tx⟩ : Signed) = L ++ [(⟨p, tx⟩ : Signed)] := by unfold signL; rw [if_neg hm]
    have hp : (putM (marks L) (⟨p, tx⟩ : Signed) ((((marks L)).length : Int) + 1)) = marks (L ++ [(⟨p, tx⟩ : Signed)]) := by rw [hml]; exact put_marks L _ hm
    exact ⟨by rw [hs, hp, look_marks]; rfl, by rw [hs, ← hp]; exact H32.pick [0, 1, 2, 3] (by decide)⟩
  · have g35 := of_decide_eq_false b15
    refine wp_know 18 (.bool false) (congrArg Value.bool b15) ?_
    have g36 := of_decide_eq_false b15
    refine wp_iff rfl ?_
    refine w_skip ?_
    refine then_normal ?_
    refine w_seq ?_
    refine h_start H14 [cellC b 109 ([(.map (some mb))] : List Value), mapC mb signedV (Value.int .i64) (marks L), rowC 5 1 tv tx.length (tx.flatMap encB), restC w (sepC (pbkL b mb L tv tx)).fp, cellC b6 106 ([(.int .i64 (p)), (strV tx)] : List Value)] 9 rfl (by kernel_rfl) (fun Hx => (Hx.pick [0, 1, 2, 3, 5] (by decide))) ?_
    intro w37 H38 S39
    refine h_val 0 rfl (by kernel_rfl) (by kernel_rfl) (by kernel_rfl) (fun _ _ _ h => h) S39 (wants0 rfl) (d := 30) (v := (.int .i64 (p))) rfl (fun _ H' => (by kernel_rfl)) ?_
    refine h_val 1 rfl (by kernel_rfl) (by kernel_rfl) (by kernel_rfl) (fun _ _ _ h => h) S39 (wants0 rfl) (d := 31) (v := (.pointer (some ⟨b, 0, none⟩))) rfl (fun _ H' => (by kernel_rfl)) ?_
    refine h_val 2 rfl (by kernel_rfl) (by kernel_rfl) (by kernel_rfl) (fun _ _ _ h => h) S39 (wants0 rfl) (d := 32) (v := (.pointer (some ⟨b, 0, none⟩))) rfl (fun _ H' => (by kernel_rfl)) ?_
    refine h_val 3 rfl (by kernel_rfl) (by kernel_rfl) (by kernel_rfl) (fun _ _ _ h => h) S39 (wants0 rfl) (d := 33) (v := (.pointer (some ⟨b, 0, none⟩))) rfl (fun _ H' => (by kernel_rfl)) ?_
    refine h_val 4 rfl (by kernel_rfl) (by kernel_rfl) (by kernel_rfl) (fun _ _ _ h => h) S39 (wants0 rfl) (d := 34) (v := (.map (some mb))) rfl (fun _ H' => (e_load1 rfl (by kernel_rfl) (H'.cell 0 rfl rfl))) ?_
    refine h_val 5 rfl (by kernel_rfl) (by kernel_rfl) (by kernel_rfl) (fun _ _ _ h => h) S39 (wants0 rfl) (d := 35) (v := (.agg ⟨([(.int .i64 (p)), (strV tx)] : List Value)⟩)) rfl (fun _ H' => (e_loadN (vs := ([(.int .i64 (p)), (strV tx)] : List Value)) rfl (by kernel_rfl) (by kernel_rfl) (by exact Nat.le_of_ble_eq_true (by kernel_rfl)) (H'.at 4 rfl) (by kernel_rfl))) ?_
    refine h_val 6 rfl (by kernel_rfl) (by kernel_rfl) (by kernel_rfl) (fun _ _ _ h => h) S39 (wants0 rfl) (d := 36) (v := (.int .i64 ((lookM (marks L) (⟨p, tx⟩ : Signed)).getD 0))) rfl (fun _ H' => (e_lookup (kt := 106) (et := 3) signedK (by kernel_rfl) (fun w => by kernel_rfl) rfl (⟨p, tx⟩ : Signed) rfl (H'.at 1 rfl) (optD (Value.int .i64) _ _))) ?_
    refine h_val 7 rfl (by kernel_rfl) (by kernel_rfl) (by kernel_rfl) (fun _ _ _ h => h) S39 (wants0 rfl) (d := 37) (v := (.agg ⟨([(.int .i64 (p)), (.int .i64 ((lookM (marks L) (⟨p, tx⟩ : Signed)).getD 0))] : List Value)⟩)) rfl (fun _ H' => (by kernel_rfl)) ?_
    refine h_do 8 rfl (by kernel_rfl) (wants0 rfl) (fun K40 hK40 => ?_)
    refine d_store (vs := ([(.int .i64 (p)), (.int .i64 ((lookM (marks L) (⟨p, tx⟩ : Signed)).getD 0))] : List Value)) rfl H38 4 rfl rfl rfl rfl (by kernel_rfl) (Nat.le_of_ble_eq_true (by kernel_rfl)) (Nat.le_of_ble_eq_true (by kernel_rfl)) (by kernel_rfl) ?_
    intro w41 (H42 : Sat w [cellC b 109 ([(.map (some mb))] : List Value), mapC mb signedV (Value.int .i64) (marks L), rowC 5 1 tv tx.length (tx.flatMap encB), restC w (sepC (pbkL b mb L tv tx)).fp, cellC b2 31 ([(.int .i64 (p)), (.int .i64 ((lookM (marks L) (⟨p, tx⟩ : Signed)).getD 0))] : List Value), cellC b6 106 ([(.int .i64 (p)), (strV tx)] : List Value)] w41)
    have S44 := H42.pick [0, 1, 2, 3, 5] (by decide)
    refine hK40 _ _ S44 ?_
    clear hK40 K40
    refine h_fin (by kernel_rfl) ?_
    refine then_normal ?_
    refine w_ret ?_
    refine end1 rfl (res_cellN (vs := ([(.int .i64 (p)), (.int .i64 ((lookM (marks L) (⟨p, tx⟩ : Signed)).getD 0))] : List Value)) rfl (by kernel_rfl) (by kernel_rfl) (by exact Nat.le_of_ble_eq_true (by kernel_rfl)) (H42.at 4 rfl) (by kernel_rfl)) ?_
    have hm : (⟨p, tx⟩ : Signed) ∈ L := by
      refine Decidable.not_not.1 fun hc => ?_
      have q := of_decide_eq_false b15
      rw [hmk, markOf_none hc] at q
      exact q rfl
    exact ⟨by rw [signL_of_mem hm, ← hmk], by rw [signL_of_mem hm]; exact H42.pick [0, 1, 2, 3] (by decide)⟩

end Go.Proofs.Ytenihpghfdcpkaa
