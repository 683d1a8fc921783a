/- WHAT IS PROVED: chapter 10: a statement about medians: its walk. Conditions: stated with each. -/
import Derived.Test.YtbpeofcoceaahaaNumsU
namespace Go.Proofs.Ytbpeofcoceaahaa
open Go.RowKit

set_option maxRecDepth 100000 in
set_option maxHeartbeats 400000 in
theorem medians10_all (w : World) (va : Option Addr) (vc : Nat) (xs : List Int) (hxs : ListAt encU 1 w (.slice va xs.length vc) xs) (hx : xs.length ≤ 9223372036854775807) :
    Calls Try.prog 4 #[(.slice va xs.length vc)] w fun e w' => e = .returned (.bool true) ∧ Upd [] w w' := by
  have H := Sat.start0 w
  have hl50 : (xs.take 50).length ≤ 50 := by simp only [List.length_take]; omega
  refine calls_fr Try.func4 rfl 38 rfl (Nat.le_of_ble_eq_true rfl) ?_
  refine w_seq ?_
  refine w_lit ?_
  refine wl_pure (wants0 rfl) (d := 2) (v := (.bool false)) rfl (by kernel_rfl) ?_
  refine w_nil ?_
  refine then_normal ?_
  refine w_seq ?_
  refine w_lit ?_
  refine wl_pure (wants0 rfl) (d := 8) (v := (.slice va xs.length vc)) rfl (by kernel_rfl) ?_
  refine wl_do (wants0 rfl) (fun K1 hK1 => ?_)
  refine d_call (d := 9) rfl (by kernel_rfl) (cutU_any w va vc xs (ListAt.now H 0 rfl hxs) (by omega) 50 (by omega)) ?_
  rintro _ w2 ⟨u3, rfl, k4, p5, q6⟩
  have H7 : Sat w [restC w (fun _ => False), rowC 23 1 u3 ((xs.take 50).length) ((xs.take 50).flatMap encU)] w2 := H.addU p5 k4 q6
  obtain ⟨a8, c9, rfl⟩ := ownsRow_shape (H7.at 1 rfl)
  refine ⟨_, rfl, ?_⟩
  refine hK1 _ _ ?_
  clear hK1 K1
  refine wl_pure (wants0 rfl) (d := 0) (v := (.slice a8 ((xs.take 50).length) c9)) rfl (by kernel_rfl) ?_
  refine w_nil ?_
  refine then_normal ?_
  refine w_seq ?_
  refine w_lit ?_
  refine wl_pure (wants0 rfl) (d := 10) (v := (.slice a8 ((xs.take 50).length) c9)) rfl (by kernel_rfl) ?_
  refine wl_do (wants0 rfl) (fun K10 hK10 => ?_)
  refine d_call (d := 11) rfl (by kernel_rfl) (copyU_any w2 (.slice a8 ((xs.take 50).length) c9) (xs.take 50) (ListAt.row (enc := encU) (sz := 1) encU_len (by decide) (H7.at 1 rfl)) (by first | omega | (simp only [List.length_take, List.length_drop, List.length_append]; omega))) ?_
  rintro _ w11 ⟨u12, rfl, k13, p14, q15⟩
  have H16 : Sat w [restC w (fun _ => False), rowC 23 1 (.slice a8 ((xs.take 50).length) c9) ((xs.take 50).length) ((xs.take 50).flatMap encU), rowC 23 1 u12 ((xs.take 50).length) ((xs.take 50).flatMap encU)] w11 := H7.addU p14 k13 q15
  obtain ⟨a17, c18, rfl⟩ := ownsRow_shape (H16.at 2 rfl)
  refine ⟨_, rfl, ?_⟩
  refine hK10 _ _ ?_
  clear hK10 K10
  refine wl_pure (wants0 rfl) (d := 3) (v := (.slice a17 ((xs.take 50).length) c18)) rfl (by kernel_rfl) ?_
  refine w_nil ?_
  refine then_normal ?_
  refine w_seq ?_
  refine w_lit ?_
  refine wl_pure (wants0 rfl) (d := 13) (v := (.slice a17 ((xs.take 50).length) c18)) rfl (by kernel_rfl) ?_
  refine wl_do (wants0 rfl) (fun K19 hK19 => ?_)
  refine d_call (d := 14) rfl (by kernel_rfl) (medC_any w11 (.slice a17 ((xs.take 50).length) c18) (xs.take 50) (ListAt.row (enc := encU) (sz := 1) encU_len (by decide) (H16.at 2 rfl)) (by first | omega | (simp only [List.length_take, List.length_drop, List.length_append]; omega))) ?_
  rintro _ w20 ⟨rfl, u22⟩
  have H21 := H16.keepU u22
  refine ⟨_, rfl, ?_⟩
  refine hK19 _ _ ?_
  clear hK19 K19
  refine wl_pure (wants0 rfl) (d := 12) (v := (.tuple #[(.int .u64 (medV (xs.take 50))), (.bool (decide ((xs.take 50).length % 2 = 1)))])) rfl (by kernel_rfl) ?_
  refine wl_pure (wants0 rfl) (d := 15) (v := (.int .u64 (medV (xs.take 50)))) rfl (by kernel_rfl) ?_
  refine wl_pure (wants0 rfl) (d := 16) (v := (.bool (decide ((xs.take 50).length % 2 = 1)))) rfl (by kernel_rfl) ?_
  refine wl_pure (wants0 rfl) (d := 4) (v := (.int .u64 (medV (xs.take 50)))) rfl (by kernel_rfl) ?_
  refine wl_pure (wants0 rfl) (d := 5) (v := (.bool (decide ((xs.take 50).length % 2 = 1)))) rfl (by kernel_rfl) ?_
  refine w_nil ?_
  refine then_normal ?_
  refine w_seq ?_
  refine w_lit ?_
  refine wl_pure (wants0 rfl) (d := 18) (v := (.slice a8 ((xs.take 50).length) c9)) rfl (by kernel_rfl) ?_
  refine wl_do (wants0 rfl) (fun K23 hK23 => ?_)
  refine d_call (d := 19) rfl (by kernel_rfl) (medR_any w20 (.slice a8 ((xs.take 50).length) c9) (xs.take 50) (ListAt.row (enc := encU) (sz := 1) encU_len (by decide) (H21.at 1 rfl)) (by first | omega | (simp only [List.length_take, List.length_drop, List.length_append]; omega))) ?_
  rintro _ w24 ⟨rfl, u26⟩
  have H25 := H21.keepU u26
  refine ⟨_, rfl, ?_⟩
  refine hK23 _ _ ?_
  clear hK23 K23
  refine wl_pure (wants0 rfl) (d := 17) (v := (.tuple #[(.int .u64 (medV (xs.take 50))), (.bool (decide ((xs.take 50).length % 2 = 1)))])) rfl (by kernel_rfl) ?_
  refine wl_pure (wants0 rfl) (d := 20) (v := (.int .u64 (medV (xs.take 50)))) rfl (by kernel_rfl) ?_
  refine wl_pure (wants0 rfl) (d := 21) (v := (.bool (decide ((xs.take 50).length % 2 = 1)))) rfl (by kernel_rfl) ?_
  refine wl_pure (wants0 rfl) (d := 6) (v := (.int .u64 (medV (xs.take 50)))) rfl (by kernel_rfl) ?_
  refine wl_pure (wants0 rfl) (d := 7) (v := (.bool (decide ((xs.take 50).length % 2 = 1)))) rfl (by kernel_rfl) ?_
  refine w_nil ?_
  refine then_normal ?_
  refine w_seq ?_
  refine w_lit ?_
  refine wl_pure (wants0 rfl) (d := 22) (v := (.int .u64 (medV (xs.take 50)))) rfl (by kernel_rfl) ?_
  refine wl_pure (wants0 rfl) (d := 23) (v := (.int .u64 (medV (xs.take 50)))) rfl (by kernel_rfl) ?_
  refine wl_pure (wants0 rfl) (d := 24) (v := (.bool (decide ((medV (xs.take 50)) = (medV (xs.take 50)))))) rfl (by kernel_rfl) ?_
  refine wl_pure (wants0 rfl) (d := 25) (v := (.bool (decide ((medV (xs.take 50)) = (medV (xs.take 50)))))) rfl (by kernel_rfl) ?_
  have b27 : (decide ((medV (xs.take 50)) = (medV (xs.take 50)))) = true := by simp
  refine wl_know 25 (.bool true) (congrArg Value.bool b27) ?_
  have g28 := of_decide_eq_true b27
  refine wl_pure (wantsY 3 25 true rfl (by kernel_rfl) rfl (by kernel_rfl)) (d := 26) (v := (.bool (decide ((xs.take 50).length % 2 = 1)))) rfl (by kernel_rfl) ?_
  refine wl_pure (wantsY 3 25 true rfl (by kernel_rfl) rfl (by kernel_rfl)) (d := 27) (v := (.bool (decide ((xs.take 50).length % 2 = 1)))) rfl (by kernel_rfl) ?_
  refine wl_pure (wantsY 3 25 true rfl (by kernel_rfl) rfl (by kernel_rfl)) (d := 28) (v := (.bool ((decide ((xs.take 50).length % 2 = 1)) == (decide ((xs.take 50).length % 2 = 1))))) rfl (by kernel_rfl) ?_
  refine wl_pure (wants0 rfl) (d := 29) (v := (.bool ((decide ((xs.take 50).length % 2 = 1)) == (decide ((xs.take 50).length % 2 = 1))))) rfl (by kernel_rfl) ?_
  refine wl_pure (wants0 rfl) (d := 30) (v := (.bool ((decide ((xs.take 50).length % 2 = 1)) == (decide ((xs.take 50).length % 2 = 1))))) rfl (by kernel_rfl) ?_
  have b29 : ((decide ((xs.take 50).length % 2 = 1)) == (decide ((xs.take 50).length % 2 = 1))) = true := by simp
  refine wl_know 30 (.bool true) (congrArg Value.bool b29) ?_
  refine wl_pure (wantsY 8 30 true rfl (by kernel_rfl) rfl (by kernel_rfl)) (d := 31) (v := (.slice a8 ((xs.take 50).length) c9)) rfl (by kernel_rfl) ?_
  refine wl_pure (wantsY 8 30 true rfl (by kernel_rfl) rfl (by kernel_rfl)) (d := 32) (v := (.slice a17 ((xs.take 50).length) c18)) rfl (by kernel_rfl) ?_
  refine wl_do (wantsY 8 30 true rfl (by kernel_rfl) rfl (by kernel_rfl)) (fun K30 hK30 => ?_)
  refine d_call (d := 33) rfl (by kernel_rfl) (sameU_any w24 (.slice a8 ((xs.take 50).length) c9) (.slice a17 ((xs.take 50).length) c18) (xs.take 50) (xs.take 50) (ListAt.row (enc := encU) (sz := 1) encU_len (by decide) (H25.at 1 rfl)) (ListAt.row (enc := encU) (sz := 1) encU_len (by decide) (H25.at 2 rfl)) (by first | omega | (simp only [List.length_take, List.length_drop, List.length_append]; omega))) ?_
  rintro _ w31 ⟨rfl, u33⟩
  have H32 := H25.keepU u33
  refine ⟨_, rfl, ?_⟩
  refine hK30 _ _ ?_
  clear hK30 K30
  refine wl_pure (wants0 rfl) (d := 34) (v := (.bool (decide ((xs.take 50) = (xs.take 50))))) rfl (by kernel_rfl) ?_
  refine wl_pure (wants0 rfl) (d := 35) (v := (.bool (decide ((xs.take 50) = (xs.take 50))))) rfl (by kernel_rfl) ?_
  have b34 : (decide ((xs.take 50) = (xs.take 50))) = true := by simp
  refine wl_know 35 (.bool true) (congrArg Value.bool b34) ?_
  refine wl_do (wantsY 13 35 true rfl (by kernel_rfl) rfl (by kernel_rfl)) (fun K35 hK35 => ?_)
  refine d_call (d := 36) rfl (by kernel_rfl) (wakes_any w31) ?_
  rintro _ w36 ⟨rfl, u38⟩
  have H37 := H32.keepU u38
  refine ⟨_, rfl, ?_⟩
  refine hK35 _ _ ?_
  clear hK35 K35
  refine wl_pure (wants0 rfl) (d := 37) (v := (.bool true)) rfl (by kernel_rfl) ?_
  refine wl_pure (wants0 rfl) (d := 2) (v := (.bool true)) rfl (by kernel_rfl) ?_
  refine w_nil ?_
  refine then_normal ?_
  refine w_ret ?_
  refine end1 rfl (res_tmp (v := (.bool true)) rfl) ?_
  exact ⟨rfl, H37.upd 0 rfl [] (fun _ h => h.elim)⟩

end Go.Proofs.Ytbpeofcoceaahaa
