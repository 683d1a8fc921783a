/- WHAT IS PROVED: new books: contracts. Conditions: stated with each. -/
import Derived.Test.YtbpeofcoceaahaaRg1
namespace Go.Proofs.Ytbpeofcoceaahaa
open Go.RowKit

set_option maxRecDepth 100000 in
set_option maxHeartbeats 400000 in
theorem pNew_any (w : World) :
    Calls Try.prog 37 #[] w fun e w' => ∃ b mb, e = .returned (.pointer (some ⟨b, 0, none⟩)) ∧ (sepC [cellC b 107 [.map (some mb)], mapC mb signedV (Value.int .i64) (marks [])]).ok w' ∧ Upd [] w w' ∧ ∀ q_, (sepC [cellC b 107 [.map (some mb)], mapC mb signedV (Value.int .i64) (marks [])]).fp q_ → w.heap.size ≤ q_ := by
  have H := Sat.start0 w
  refine calls_fr Try.func37 rfl 4 rfl (Nat.le_of_ble_eq_true rfl) ?_
  refine w_seq ?_
  refine w_lit ?_
  refine wl_pure (wants0 rfl) (d := 0) (v := (.pointer none)) rfl (by kernel_rfl) ?_
  refine w_nil ?_
  refine then_normal ?_
  refine w_seq ?_
  refine w_lit ?_
  refine wl_do (wants0 rfl) (fun K1 hK1 => ?_)
  refine d_makeMap signedV (Value.int .i64) rfl H ?_
  intro b2 w3 (H4 : Sat w [restC w (fun _ => False), mapC b2 signedV (Value.int .i64) []] w3)
  refine hK1 _ _ ?_
  clear hK1 K1
  refine wl_pure (wants0 rfl) (d := 2) (v := (.agg ⟨([(.map (some b2))] : List Value)⟩)) rfl (by kernel_rfl) ?_
  refine wl_do (wants0 rfl) (fun K5 hK5 => ?_)
  refine d_box (vs := ([(.map (some b2))] : List Value)) rfl H4 rfl rfl ?_
  intro b6 w7 (H8 : Sat w [restC w (fun _ => False), mapC b2 signedV (Value.int .i64) [], cellC b6 107 ([(.map (some b2))] : List Value)] w7)
  refine hK5 _ _ ?_
  clear hK5 K5
  refine wl_pure (wants0 rfl) (d := 0) (v := (.pointer (some ⟨b6, 0, none⟩))) rfl (by kernel_rfl) ?_
  refine w_nil ?_
  refine then_normal ?_
  refine w_ret ?_
  refine end1 rfl (res_tmp (v := (.pointer (some ⟨b6, 0, none⟩))) rfl) ?_
  exact ⟨b6, b2, rfl, H8.fin [2, 1] (by decide) rfl, H8.upd 0 rfl [] (fun _ h => h.elim), H8.freshS 0 rfl (fun _ h => h) [2, 1] rfl rfl⟩

set_option maxRecDepth 100000 in
set_option maxHeartbeats 400000 in
theorem new10_any (w : World) :
    Calls Try.prog 19 #[] w fun e w' => ∃ b mb r, e = .returned (.tuple #[.agg #[.pointer (some ⟨b, 0, none⟩), .pointer (some ⟨r, 0, none⟩)], .bool true]) ∧ (sepC [cellC b 107 [.map (some mb)], mapC mb signedV (Value.int .i64) (marks []), cellC r 88 [.slice none 0 0]]).ok w' ∧ Upd [] w w' ∧ ∀ q_, (sepC [cellC b 107 [.map (some mb)], mapC mb signedV (Value.int .i64) (marks []), cellC r 88 [.slice none 0 0]]).fp q_ → w.heap.size ≤ q_ := by
  have H := Sat.start0 w
  refine calls_fr Try.func19 rfl 10 rfl (Nat.le_of_ble_eq_true rfl) ?_
  refine w_seq ?_
  refine w_lit ?_
  refine wl_do (wants0 rfl) (fun K1 hK1 => ?_)
  refine d_alloc (zs := ([(.pointer none), (.pointer none)] : List Value)) (z := (.agg ⟨([(.pointer none), (.pointer none)] : List Value)⟩)) rfl H (by kernel_rfl) (by kernel_rfl) ?_
  intro b2 w3 (H4 : Sat w [restC w (fun _ => False), cellC b2 54 ([(.pointer none), (.pointer none)] : List Value)] w3)
  refine hK1 _ _ ?_
  clear hK1 K1
  refine wl_pure (wants0 rfl) (d := 1) (v := (.bool false)) rfl (by kernel_rfl) ?_
  refine w_nil ?_
  refine then_normal ?_
  refine w_seq ?_
  refine w_lit ?_
  refine wl_do (wants0 rfl) (fun K5 hK5 => ?_)
  refine d_call (d := 3) rfl (by kernel_rfl) (pNew_any w3) ?_
  rintro _ w6 ⟨b7, m8, rfl, k9, p10, q11⟩
  have H12 : Sat w [restC w (fun _ => False), cellC b2 54 ([(.pointer none), (.pointer none)] : List Value), sepC [cellC b7 107 [.map (some m8)], mapC m8 signedV (Value.int .i64) (marks [])]] w6 := H4.addU p10 k9 q11
  have H13 : Sat w [restC w (fun _ => False), cellC b2 54 ([(.pointer none), (.pointer none)] : List Value), cellC b7 107 ([(.map (some m8))] : List Value), mapC m8 signedV (Value.int .i64) (marks [])] w6 := H12.open 2 rfl
  refine ⟨_, rfl, ?_⟩
  refine hK5 _ _ ?_
  clear hK5 K5
  refine wl_pure (wants0 rfl) (d := 2) (v := (.pointer (some ⟨b7, 0, none⟩))) rfl (by kernel_rfl) ?_
  refine w_nil ?_
  refine then_normal ?_
  refine w_seq ?_
  refine w_lit ?_
  refine wl_pure (wants0 rfl) (d := 4) (v := (.pointer (some ⟨b7, 0, none⟩))) rfl (by kernel_rfl) ?_
  refine wl_pure (wants0 rfl) (d := 5) (v := (.agg ⟨([(.slice none 0 0)] : List Value)⟩)) rfl (by kernel_rfl) ?_
  refine wl_do (wants0 rfl) (fun K14 hK14 => ?_)
  refine d_box (vs := ([(.slice none 0 0)] : List Value)) rfl H13 rfl rfl ?_
  intro b15 w16 (H17 : Sat w [restC w (fun _ => False), cellC b2 54 ([(.pointer none), (.pointer none)] : List Value), cellC b7 107 ([(.map (some m8))] : List Value), mapC m8 signedV (Value.int .i64) (marks []), cellC b15 88 ([(.slice none 0 0)] : List Value)] w16)
  refine hK14 _ _ ?_
  clear hK14 K14
  refine wl_pure (wants0 rfl) (d := 7) (v := (.agg ⟨([(.pointer (some ⟨b7, 0, none⟩)), (.pointer (some ⟨b15, 0, none⟩))] : List Value)⟩)) rfl (by kernel_rfl) ?_
  refine wl_pure (wants0 rfl) (d := 8) (v := (.pointer (some ⟨b7, 0, none⟩))) rfl (by kernel_rfl) ?_
  refine wl_pure (wants0 rfl) (d := 9) (v := (.bool true)) rfl (by kernel_rfl) ?_
  refine wl_do (wants0 rfl) (fun K18 hK18 => ?_)
  refine d_store (vs := ([(.pointer (some ⟨b7, 0, none⟩)), (.pointer (some ⟨b15, 0, none⟩))] : List Value)) rfl H17 1 rfl rfl rfl rfl (by kernel_rfl) (Nat.le_of_ble_eq_true (by kernel_rfl)) (Nat.le_of_ble_eq_true (by kernel_rfl)) (by kernel_rfl) ?_
  intro w19 (H20 : Sat w [restC w (fun _ => False), cellC b2 54 ([(.pointer (some ⟨b7, 0, none⟩)), (.pointer (some ⟨b15, 0, none⟩))] : List Value), cellC b7 107 ([(.map (some m8))] : List Value), mapC m8 signedV (Value.int .i64) (marks []), cellC b15 88 ([(.slice none 0 0)] : List Value)] w19)
  refine hK18 _ _ ?_
  clear hK18 K18
  refine wl_pure (wants0 rfl) (d := 1) (v := (.bool true)) rfl (by kernel_rfl) ?_
  refine w_nil ?_
  refine then_normal ?_
  refine w_ret ?_
  refine end2 rfl (res_cellN (vs := ([(.pointer (some ⟨b7, 0, none⟩)), (.pointer (some ⟨b15, 0, none⟩))] : List Value)) rfl (by kernel_rfl) (by kernel_rfl) (by exact Nat.le_of_ble_eq_true (by kernel_rfl)) (H20.at 1 rfl) (by kernel_rfl)) (res_tmp (v := (.bool true)) rfl) ?_
  exact ⟨b7, m8, b15, rfl, H20.fin [2, 3, 4] (by decide) rfl, H20.upd 0 rfl [] (fun _ h => h.elim), H20.freshS 0 rfl (fun _ h => h) [2, 3, 4] rfl rfl⟩

end Go.Proofs.Ytbpeofcoceaahaa
