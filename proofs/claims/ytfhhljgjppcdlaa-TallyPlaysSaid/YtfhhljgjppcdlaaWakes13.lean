/- WHAT IS PROVED: the document's example, which every statement of this chapter asks at its end, answers true. No condition. -/
import Derived.Test.YtfhhljgjppcdlaaTallyAbs
namespace Go.Proofs.Ytfhhljgjppcdlaa
open Go.RowKit

set_option maxRecDepth 100000 in
set_option maxHeartbeats 400000 in
theorem wakes_any (w : World) :
    Calls Try.prog 15 #[] w fun e w' => e = .returned (.bool true) ∧ Upd [] w w' := by
  have H := Sat.start0 w
  refine calls_fr Try.func15 rfl 30 rfl (Nat.le_of_ble_eq_true rfl) ?_
  refine w_seq ?_
  refine w_lit ?_
  refine wl_pure (wants0 rfl) (d := 0) (v := (.bool false)) rfl (by kernel_rfl) ?_
  refine w_nil ?_
  refine then_normal ?_
  refine w_seq ?_
  refine w_lit ?_
  refine wl_pure (wants0 rfl) (d := 4) (v := (.agg ⟨[(.int .i64 (1)), (.int .i64 (1))]⟩)) rfl (by kernel_rfl) ?_
  refine wl_do (wants0 rfl) (fun K1 hK1 => ?_)
  refine d_call (d := 5) rfl (by kernel_rfl) (talNew_any w 1 1) ?_
  rintro _ w2 (⟨_, t7, hb8, cb9, ab10, lb11, rfl, k5, u4, q6⟩ | ⟨hcf, _⟩)
  rotate_left
  · exact absurd hcf (by rw [show confB 1 1 = true by decide]; simp)
  have H3 : Sat w [restC w (fun _ => False), talC t7 hb8 cb9 ab10 lb11 1 1 []] w2 := H.addU u4 k5 q6
  refine ⟨_, rfl, ?_⟩
  refine hK1 _ _ ?_
  refine wl_pure (wants0 rfl) (d := 3) (v := (.tuple #[(.pointer (some ⟨t7, 0, none⟩)), (.int .i64 (0))])) rfl (by kernel_rfl) ?_
  refine wl_pure (wants0 rfl) (d := 6) (v := (.pointer (some ⟨t7, 0, none⟩))) rfl (by kernel_rfl) ?_
  refine wl_pure (wants0 rfl) (d := 7) (v := (.int .i64 (0))) rfl (by kernel_rfl) ?_
  refine wl_pure (wants0 rfl) (d := 1) (v := (.pointer (some ⟨t7, 0, none⟩))) rfl (by kernel_rfl) ?_
  refine wl_pure (wants0 rfl) (d := 2) (v := (.int .i64 (0))) rfl (by kernel_rfl) ?_
  refine w_nil ?_
  refine then_normal ?_
  refine w_seq ?_
  refine w_lit ?_
  refine wl_pure (wants0 rfl) (d := 8) (v := (.int .i64 (0))) rfl (by kernel_rfl) ?_
  refine wl_pure (wants0 rfl) (d := 9) (v := (.bool true)) rfl (by kernel_rfl) ?_
  refine wl_pure (wants0 rfl) (d := 10) (v := (.bool true)) rfl (by kernel_rfl) ?_
  refine wl_pure (wantsY 2 10 true rfl (by kernel_rfl) rfl (by kernel_rfl)) (d := 11) (v := (.pointer (some ⟨t7, 0, none⟩))) rfl (by kernel_rfl) ?_
  refine wl_pure (wantsY 2 10 true rfl (by kernel_rfl) rfl (by kernel_rfl)) (d := 12) (v := (.bool true)) rfl (by kernel_rfl) ?_
  refine wl_pure (wants0 rfl) (d := 13) (v := (.bool true)) rfl (by kernel_rfl) ?_
  refine wl_pure (wants0 rfl) (d := 14) (v := (.bool true)) rfl (by kernel_rfl) ?_
  refine wl_pure (wantsY 6 14 true rfl (by kernel_rfl) rfl (by kernel_rfl)) (d := 15) (v := (.pointer (some ⟨t7, 0, none⟩))) rfl (by kernel_rfl) ?_
  refine wl_do (wantsY 6 14 true rfl (by kernel_rfl) rfl (by kernel_rfl)) (fun K12 hK12 => ?_)
  refine d_call (d := 16) rfl (by kernel_rfl) (talAll_any w2 t7 hb8 cb9 ab10 lb11 1 1 [] (H3.at 1 rfl) 1 0) ?_
  rintro _ w13 ⟨rfl, u15⟩
  have H14 := H3.keepU u15
  refine ⟨_, rfl, ?_⟩
  refine hK12 _ _ ?_
  refine wl_pure (wantsY 6 14 true rfl (by kernel_rfl) rfl (by kernel_rfl)) (d := 17) (v := (.bool (decide ((allV [] 1 0) = 0)))) rfl (by kernel_rfl) ?_
  refine wl_pure (wants0 rfl) (d := 18) (v := (.bool (decide ((allV [] 1 0) = 0)))) rfl (by kernel_rfl) ?_
  refine wl_pure (wants0 rfl) (d := 19) (v := (.bool (decide ((allV [] 1 0) = 0)))) rfl (by kernel_rfl) ?_
  have b16 : (decide ((allV [] 1 0) = 0)) = true := by decide
  refine wl_know 19 (.bool true) (congrArg Value.bool b16) ?_
  refine wl_pure (wantsY 11 19 true rfl (by kernel_rfl) rfl (by kernel_rfl)) (d := 20) (v := (.pointer (some ⟨t7, 0, none⟩))) rfl (by kernel_rfl) ?_
  refine wl_pure (wantsY 11 19 true rfl (by kernel_rfl) rfl (by kernel_rfl)) (d := 21) (v := (.agg ⟨[(.int .u8 (5)), (.int .u8 (0)), (.int .u8 (0)), (.int .u8 (0)), (.int .u8 (0)), (.int .u8 (0)), (.int .u8 (0)), (.int .u8 (0)), (.int .u8 (0)), (.int .u8 (0)), (.int .u8 (0)), (.int .u8 (0)), (.int .u8 (0)), (.int .u8 (0)), (.int .u8 (0)), (.int .u8 (0)), (.int .u8 (0)), (.int .u8 (0)), (.int .u8 (0)), (.int .u8 (0)), (.int .u8 (0)), (.int .u8 (0)), (.int .u8 (0)), (.int .u8 (0)), (.int .u8 (0)), (.int .u8 (0)), (.int .u8 (0)), (.int .u8 (0)), (.int .u8 (0)), (.int .u8 (0)), (.int .u8 (0)), (.int .u8 (0))]⟩)) rfl (by kernel_rfl) ?_
  refine wl_do (wantsY 11 19 true rfl (by kernel_rfl) rfl (by kernel_rfl)) (fun K17 hK17 => ?_)
  refine d_call (d := 22) rfl (by kernel_rfl) (talAdd_any w13 t7 hb8 cb9 ab10 lb11 1 1 [] (H14.at 1 rfl) 1 0 2 (hash1 5) (by decide)) ?_
  rintro _ w18 ⟨rfl, k21, u20⟩
  have H19 : Sat w [restC w (fun _ => False), talC t7 hb8 cb9 ab10 lb11 1 1 (addV 1 [] ⟨1, 0, 2, (hash1 5)⟩)] w18 := H14.setU u20 1 rfl (fun _ hb => hb) k21 (fun _ hb => .inl hb)
  refine ⟨_, rfl, ?_⟩
  refine hK17 _ _ ?_
  refine wl_pure (wants0 rfl) (d := 23) (v := (.bool (okV 1 [] 1 0 2))) rfl (by kernel_rfl) ?_
  refine wl_pure (wants0 rfl) (d := 24) (v := (.bool (okV 1 [] 1 0 2))) rfl (by kernel_rfl) ?_
  have b22 : (okV 1 [] 1 0 2) = true := by decide
  refine wl_know 24 (.bool true) (congrArg Value.bool b22) ?_
  refine wl_pure (wantsY 16 24 true rfl (by kernel_rfl) rfl (by kernel_rfl)) (d := 25) (v := (.pointer (some ⟨t7, 0, none⟩))) rfl (by kernel_rfl) ?_
  refine wl_pure (wantsY 16 24 true rfl (by kernel_rfl) rfl (by kernel_rfl)) (d := 26) (v := (.agg ⟨[(.int .u8 (5)), (.int .u8 (0)), (.int .u8 (0)), (.int .u8 (0)), (.int .u8 (0)), (.int .u8 (0)), (.int .u8 (0)), (.int .u8 (0)), (.int .u8 (0)), (.int .u8 (0)), (.int .u8 (0)), (.int .u8 (0)), (.int .u8 (0)), (.int .u8 (0)), (.int .u8 (0)), (.int .u8 (0)), (.int .u8 (0)), (.int .u8 (0)), (.int .u8 (0)), (.int .u8 (0)), (.int .u8 (0)), (.int .u8 (0)), (.int .u8 (0)), (.int .u8 (0)), (.int .u8 (0)), (.int .u8 (0)), (.int .u8 (0)), (.int .u8 (0)), (.int .u8 (0)), (.int .u8 (0)), (.int .u8 (0)), (.int .u8 (0))]⟩)) rfl (by kernel_rfl) ?_
  refine wl_do (wantsY 16 24 true rfl (by kernel_rfl) rfl (by kernel_rfl)) (fun K23 hK23 => ?_)
  refine d_call (d := 27) rfl (by kernel_rfl) (talFor_any w18 t7 hb8 cb9 ab10 lb11 1 1 (addV 1 [] ⟨1, 0, 2, (hash1 5)⟩) (H19.at 1 rfl) 1 0 (hash1 5)) ?_
  rintro _ w24 ⟨rfl, u26⟩
  have H25 := H19.keepU u26
  refine ⟨_, rfl, ?_⟩
  refine hK23 _ _ ?_
  refine wl_pure (wantsY 16 24 true rfl (by kernel_rfl) rfl (by kernel_rfl)) (d := 28) (v := (.bool (decide ((forV (addV 1 [] ⟨1, 0, 2, (hash1 5)⟩) 1 0 (hash1 5)) = 1)))) rfl (by kernel_rfl) ?_
  refine wl_pure (wants0 rfl) (d := 29) (v := (.bool (decide ((forV (addV 1 [] ⟨1, 0, 2, (hash1 5)⟩) 1 0 (hash1 5)) = 1)))) rfl (by kernel_rfl) ?_
  refine wl_pure (wants0 rfl) (d := 0) (v := (.bool (decide ((forV (addV 1 [] ⟨1, 0, 2, (hash1 5)⟩) 1 0 (hash1 5)) = 1)))) rfl (by kernel_rfl) ?_
  refine w_nil ?_
  refine then_normal ?_
  refine w_ret ?_
  refine end1 rfl (res_tmp (v := (.bool (decide ((forV (addV 1 [] ⟨1, 0, 2, (hash1 5)⟩) 1 0 (hash1 5)) = 1)))) rfl) ?_
  exact ⟨rfl, H25.upd 0 rfl [] (fun _ h => h.elim)⟩

end Go.Proofs.Ytfhhljgjppcdlaa
