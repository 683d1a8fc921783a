/- WHAT IS PROVED: chapter 10: a statement about medians: its walk. Conditions: stated with each. -/
import Derived.Test.YtbpeofcoceaahaaNumsU
namespace Go.Proofs.Ytbpeofcoceaahaa
open Go.RowKit

theorem turn_perm (L : List Int) (k : Nat) : (L.drop k ++ L.take k).Perm L := by
  have := List.perm_append_comm (l₁ := L.drop k) (l₂ := L.take k)
  rwa [List.take_append_drop] at this
theorem contains_step {M : List Int} {a : Int} {j : Nat} (h : j < M.length) : (M.take (j + 1)).contains a = ((M.take j).contains a || decide (M.getD j 0 = a)) := by
  rw [List.take_add_one, List.getElem?_eq_getElem h, List.getD_eq_getElem?_getD, List.getElem?_eq_getElem h, Bool.eq_iff_iff]
  simp only [List.contains_iff_mem, List.mem_append, Bool.or_eq_true, decide_eq_true_eq, Option.getD_some, Option.toList_some, List.mem_singleton]
  exact or_congr Iff.rfl ⟨fun e => e.symm, fun e => e.symm⟩
theorem getD_some0 {M : List Int} {j : Nat} {x : Int} (h : M[j]? = some x) : M.getD j 0 = x := by rw [List.getD_eq_getElem?_getD, h]; rfl

set_option maxRecDepth 100000 in
set_option maxHeartbeats 400000 in
theorem moved10_all (w : World) (va : Option Addr) (vc : Nat) (xs : List Int) (hxs : ListAt encU 1 w (.slice va xs.length vc) xs) (hx : xs.length ≤ 9223372036854775807) (hbd : ∀ x ∈ xs, 0 ≤ x ∧ x ≤ 18446744073709551615) (turn at_ by_ : Int) (hby : 0 ≤ by_ ∧ by_ ≤ 18446744073709551615) :
    Calls Try.prog 3 #[(.slice va xs.length vc), (.int .i64 (turn)), (.int .i64 (at_)), (.int .u64 (by_))] w fun e w' => e = .returned (.bool true) ∧ Upd [] w w' := by
  have H := Sat.start0 w
  have hl31 : (xs.take 31).length ≤ 31 := by simp only [List.length_take]; omega
  have hb31 : ∀ i, i < (xs.take 31).length → 0 ≤ (xs.take 31).getD i 0 ∧ (xs.take 31).getD i 0 ≤ 18446744073709551615 := fun i hi => hbd _ (List.mem_of_mem_take (getD_mem0 hi))
  have hbx31 : ∀ (i : Nat) (x : Int), (xs.take 31)[i]? = some x → 0 ≤ x ∧ x ≤ 18446744073709551615 := fun i x hx => hbd _ (List.mem_of_mem_take (List.mem_of_getElem? hx))
  refine calls_fr Try.func3 rfl 121 rfl (Nat.le_of_ble_eq_true rfl) ?_
  refine w_seq ?_
  refine w_lit ?_
  refine wl_pure (wants0 rfl) (d := 8) (v := (.bool false)) rfl (by kernel_rfl) ?_
  refine w_nil ?_
  refine then_normal ?_
  refine w_seq ?_
  refine w_lit ?_
  refine wl_pure (wants0 rfl) (d := 22) (v := (.slice va xs.length vc)) rfl (by kernel_rfl) ?_
  refine wl_do (wants0 rfl) (fun K1 hK1 => ?_)
  refine d_call (d := 23) rfl (by kernel_rfl) (cutU_any w va vc xs (ListAt.now H 0 rfl hxs) (by omega) 31 (by omega)) ?_
  rintro _ w2 ⟨u3, rfl, k4, p5, q6⟩
  have H7 : Sat w [restC w (fun _ => False), rowC 23 1 u3 ((xs.take 31).length) ((xs.take 31).flatMap encU)] w2 := H.addU p5 k4 q6
  obtain ⟨a8, c9, rfl⟩ := ownsRow_shape (H7.at 1 rfl)
  refine ⟨_, rfl, ?_⟩
  refine hK1 _ _ ?_
  clear hK1 K1
  refine wl_pure (wants0 rfl) (d := 0) (v := (.slice a8 ((xs.take 31).length) c9)) rfl (by kernel_rfl) ?_
  refine w_nil ?_
  refine then_normal ?_
  refine w_seq ?_
  refine w_seq ?_
  refine w_lit ?_
  refine wl_pure (wants0 rfl) (d := 24) (v := (.slice a8 ((xs.take 31).length) c9)) rfl (by kernel_rfl) ?_
  refine wl_pure (wants0 rfl) (d := 25) (v := (.int .i64 (((xs.take 31).length : Int)))) rfl (by kernel_rfl) ?_
  refine wl_pure (wants0 rfl) (d := 26) (v := (.int .i64 (((xs.take 31).length : Int) % 2))) rfl (e_rem (by kernel_rfl) (by omega) (by omega)) ?_
  refine wl_pure (wants0 rfl) (d := 27) (v := (.bool (decide ((((xs.take 31).length : Int) % 2) = 0)))) rfl (by kernel_rfl) ?_
  refine w_nil ?_
  refine then_normal ?_
  refine (bsplit (decide ((((xs.take 31).length : Int) % 2) = 0))).elim (fun b10 => ?_) (fun b10 => ?_)
  · have g11 := of_decide_eq_true b10
    refine wp_know 27 (.bool true) (congrArg Value.bool b10) ?_
    have g12 := of_decide_eq_true b10
    refine wp_ift rfl ?_
    refine w_seq ?_
    refine w_lit ?_
    refine wl_pure (wants0 rfl) (d := 29) (v := (.slice a8 ((xs.take 31).length) c9)) rfl (by kernel_rfl) ?_
    refine wl_do (wants0 rfl) (fun K13 hK13 => ?_)
    refine d_call (d := 30) rfl (by kernel_rfl) (medC_any w2 (.slice a8 ((xs.take 31).length) c9) (xs.take 31) (ListAt.row (enc := encU) (sz := 1) encU_len (by decide) (H7.at 1 rfl)) (by first | omega | (simp only [List.length_take, List.length_drop, List.length_append]; omega))) ?_
    rintro _ w14 ⟨rfl, u16⟩
    have H15 := H7.keepU u16
    refine ⟨_, rfl, ?_⟩
    refine hK13 _ _ ?_
    clear hK13 K13
    refine wl_pure (wants0 rfl) (d := 28) (v := (.tuple #[(.int .u64 (medV (xs.take 31))), (.bool (decide ((xs.take 31).length % 2 = 1)))])) rfl (by kernel_rfl) ?_
    refine wl_pure (wants0 rfl) (d := 31) (v := (.int .u64 (medV (xs.take 31)))) rfl (by kernel_rfl) ?_
    refine wl_pure (wants0 rfl) (d := 32) (v := (.bool (decide ((xs.take 31).length % 2 = 1)))) rfl (by kernel_rfl) ?_
    refine wl_pure (wants0 rfl) (d := 9) (v := (.int .u64 (medV (xs.take 31)))) rfl (by kernel_rfl) ?_
    refine wl_pure (wants0 rfl) (d := 10) (v := (.bool (decide ((xs.take 31).length % 2 = 1)))) rfl (by kernel_rfl) ?_
    refine w_nil ?_
    refine then_normal ?_
    refine w_seq ?_
    refine w_lit ?_
    refine wl_pure (wants0 rfl) (d := 33) (v := (.bool (decide ((xs.take 31).length % 2 = 1)))) rfl (by kernel_rfl) ?_
    refine wl_pure (wants0 rfl) (d := 34) (v := (.bool (!(decide ((xs.take 31).length % 2 = 1))))) rfl (by kernel_rfl) ?_
    refine wl_pure (wants0 rfl) (d := 35) (v := (.bool (!(decide ((xs.take 31).length % 2 = 1))))) rfl (by kernel_rfl) ?_
    have b17 : (!(decide ((xs.take 31).length % 2 = 1))) = true := by rw [decide_eq_false (by omega)]; rfl
    refine wl_know 35 (.bool true) (congrArg Value.bool b17) ?_
    have g18 := bnot_true b17
    refine wl_do (wantsY 2 35 true rfl (by kernel_rfl) rfl (by kernel_rfl)) (fun K19 hK19 => ?_)
    refine d_call (d := 36) rfl (by kernel_rfl) (wakes_any w14) ?_
    rintro _ w20 ⟨rfl, u22⟩
    have H21 := H15.keepU u22
    refine ⟨_, rfl, ?_⟩
    refine hK19 _ _ ?_
    clear hK19 K19
    refine wl_pure (wants0 rfl) (d := 37) (v := (.bool true)) rfl (by kernel_rfl) ?_
    refine wl_pure (wants0 rfl) (d := 8) (v := (.bool true)) rfl (by kernel_rfl) ?_
    refine w_nil ?_
    refine then_normal ?_
    refine w_ret ?_
    refine then_ret ?_
    refine end1 rfl (res_tmp (v := (.bool true)) rfl) ?_
    exact ⟨rfl, H21.upd 0 rfl [] (fun _ h => h.elim)⟩
  · have g23 := of_decide_eq_false b10
    refine wp_know 27 (.bool false) (congrArg Value.bool b10) ?_
    have g24 := of_decide_eq_false b10
    refine wp_iff rfl ?_
    refine w_skip ?_
    refine then_normal ?_
    refine w_seq ?_
    have hodd : (xs.take 31).length % 2 = 1 := by omega
    obtain ⟨k, hk⟩ : ∃ k : Nat, (k : Int) = withinV turn ((xs.take 31).length : Int) := ⟨(withinV turn ((xs.take 31).length : Int)).toNat, by have := within_lim turn ((xs.take 31).length : Int) (by omega); omega⟩
    obtain ⟨i, hi⟩ : ∃ i : Nat, (i : Int) = withinV at_ ((xs.take 31).length : Int) := ⟨(withinV at_ ((xs.take 31).length : Int)).toNat, by have := within_lim at_ ((xs.take 31).length : Int) (by omega); omega⟩
    have hkl : k < (xs.take 31).length := by have := within_lim turn ((xs.take 31).length : Int) (by omega); omega
    have hil : i < (xs.take 31).length := by have := within_lim at_ ((xs.take 31).length : Int) (by omega); omega
    have hbi := hb31 i hil
    refine w_lit ?_
    refine wl_pure (wants0 rfl) (d := 38) (v := (.int .i64 (turn))) rfl (by kernel_rfl) ?_
    refine wl_pure (wants0 rfl) (d := 39) (v := (.slice a8 ((xs.take 31).length) c9)) rfl (by kernel_rfl) ?_
    refine wl_pure (wants0 rfl) (d := 40) (v := (.int .i64 (((xs.take 31).length : Int)))) rfl (by kernel_rfl) ?_
    refine wl_do (wants0 rfl) (fun K25 hK25 => ?_)
    refine d_call (d := 41) rfl (by kernel_rfl) (within_any w2 turn ((xs.take 31).length : Int) (by omega)) ?_
    rintro _ w26 ⟨rfl, u28⟩
    have H27 := H7.keepU u28
    refine ⟨_, rfl, ?_⟩
    refine hK25 _ _ ?_
    clear hK25 K25
    refine wl_pure (wants0 rfl) (d := 11) (v := (.int .i64 (withinV turn ((xs.take 31).length : Int)))) rfl (by kernel_rfl) ?_
    refine w_nil ?_
    refine then_normal ?_
    refine w_seq ?_
    refine wp_know 11 (.int .i64 ((k : Int))) (show ((.int .i64 (withinV turn ((xs.take 31).length : Int))) : Value) = _ by rw [hk]) ?_
    obtain ⟨g29, c30, e31⟩ := row_shape (H27.at 1 rfl) (by omega)
    obtain rfl : a8 = some ⟨g29, 0, none⟩ := by cases e31; rfl
    have H32 : Sat w [restC w (fun _ => False), rowU g29 ((xs.take 31).length) c9 (xs.take 31)] w26 := H27
    have hcap : ((xs.take 31).length) ≤ c9 := ListAt.cap (ListAt.row (enc := encU) (sz := 1) encU_len (by decide) (H32.at 1 rfl))
    refine h_start H32 [restC w (fun _ => False), rowU g29 ((xs.take 31).length) c9 (xs.take 31)] 9 rfl (by kernel_rfl) (fun Hx => (Hx.pick [0, 1] (by decide))) ?_
    intro w33 H34 S35
    refine h_val 0 rfl (by kernel_rfl) (by kernel_rfl) (by kernel_rfl) (fun _ _ _ h => h) S35 (wants0 rfl) (d := 42) (v := (.slice (some ⟨g29, 0, none⟩) ((xs.take 31).length) c9)) rfl (fun _ H' => (by kernel_rfl)) ?_
    refine h_val 1 rfl (by kernel_rfl) (by kernel_rfl) (by kernel_rfl) (fun _ _ _ h => h) S35 (wants0 rfl) (d := 43) (v := (.int .i64 ((k : Int)))) rfl (fun _ H' => (by kernel_rfl)) ?_
    refine h_val 2 rfl (by kernel_rfl) (by kernel_rfl) (by kernel_rfl) (fun _ _ _ h => h) S35 (wants0 rfl) (d := 44) (v := (.slice (some (if c9 = k then ⟨g29, 0, none⟩ else ⟨g29, 0 + k * 1, none⟩)) (((xs.take 31).length) - k) (c9 - k))) rfl (fun _ H' => (e_sliceLo (E := 23) (q := k) (by kernel_rfl) (by kernel_rfl) rfl rfl (by omega) (by omega))) ?_
    refine h_val 4 rfl (by kernel_rfl) (by kernel_rfl) (by kernel_rfl) (fun _ _ _ h => h) S35 (wants0 rfl) (d := 46) (v := (.slice (some ⟨g29, 0, none⟩) ((xs.take 31).length) c9)) rfl (fun _ H' => (by kernel_rfl)) ?_
    refine h_val 5 rfl (by kernel_rfl) (by kernel_rfl) (by kernel_rfl) (fun _ _ _ h => h) S35 (wants0 rfl) (d := 47) (v := (.int .i64 ((k : Int)))) rfl (fun _ H' => (by kernel_rfl)) ?_
    refine h_val 6 rfl (by kernel_rfl) (by kernel_rfl) (by kernel_rfl) (fun _ _ _ h => h) S35 (wants0 rfl) (d := 48) (v := (.slice (some ⟨g29, 0, none⟩) k c9)) rfl (fun _ H' => (e_sliceHi (E := 23) (q := k) (by kernel_rfl) (by kernel_rfl) rfl rfl (by omega) (by omega))) ?_
    refine h_do 3 rfl (by kernel_rfl) (wants0 rfl) (fun K36 hK36 => ?_)
    refine d_call (d := 45) rfl (by kernel_rfl) (copyU_any w33 (.slice (some (if c9 = k then ⟨g29, 0, none⟩ else ⟨g29, 0 + k * 1, none⟩)) (((xs.take 31).length) - k) (c9 - k)) ((xs.take 31).drop k) (ListAt.drop (ListAt.row (enc := encU) (sz := 1) encU_len (by decide) (H34.at 1 rfl)) (by omega)) (by first | omega | (simp only [List.length_take, List.length_drop]; omega))) ?_
    rintro _ w37 ⟨u38, rfl, k39, p40, q41⟩
    have H42 : Sat w [restC w (fun _ => False), rowU g29 ((xs.take 31).length) c9 (xs.take 31), rowC 23 1 u38 (((xs.take 31).drop k).length) (((xs.take 31).drop k).flatMap encU)] w37 := H34.addU p40 k39 q41
    obtain ⟨a43, c44, rfl⟩ := ownsRow_shape (H42.at 2 rfl)
    refine ⟨_, rfl, ?_⟩
    have S45 := H42.pick [0, 1] (by decide)
    refine hK36 _ _ S45 ?_
    clear hK36 K36
    refine h_do 7 rfl (by kernel_rfl) (wants0 rfl) (fun K46 hK46 => ?_)
    refine d_appendL (T := 22) (e := 23) (size := 1) (bytes := 8) rfl H42 (by kernel_rfl) encU_len encU_one 2 rfl (ListAt.take (ListAt.row (enc := encU) (sz := 1) encU_len (by decide) (H42.at 1 rfl)) (by omega)) rfl rfl (by simp only [List.length_drop, List.length_take]; omega) (by simp only [List.length_drop, List.length_take]; omega) ?_
    intro v47 w48 (H50 : Sat w [restC w (fun _ => False), rowU g29 ((xs.take 31).length) c9 (xs.take 31), rowC 23 1 v47 (((xs.take 31).drop k).length + ((xs.take 31).take k).length) (((xs.take 31).drop k).flatMap encU ++ ((xs.take 31).take k).flatMap encU)] w48)
    have H49 : Sat w [restC w (fun _ => False), rowU g29 ((xs.take 31).length) c9 (xs.take 31), rowC 23 1 v47 ((((xs.take 31).drop k) ++ ((xs.take 31).take k)).length) ((((xs.take 31).drop k) ++ ((xs.take 31).take k)).flatMap encU)] w48 := H50.cast (by simp only [List.length_append, List.flatMap_append])
    obtain ⟨a51, c52, rfl⟩ := ownsRow_shape (H49.at 2 rfl)
    have S53 := H49.pick [0, 1] (by decide)
    refine hK46 _ _ S53 ?_
    clear hK46 K46
    refine h_val 8 rfl (by kernel_rfl) (by kernel_rfl) (by kernel_rfl) (fun _ _ _ h => h) S53 (wants0 rfl) (d := 12) (v := (.slice a51 ((((xs.take 31).drop k) ++ ((xs.take 31).take k)).length) c52)) rfl (fun _ H' => (by kernel_rfl)) ?_
    refine h_fin (by kernel_rfl) ?_
    refine then_normal ?_
    refine w_seq ?_
    have hM : ((((xs.take 31).drop k) ++ ((xs.take 31).take k))).Perm (xs.take 31) := turn_perm (xs.take 31) k
    have hMl : ((((xs.take 31).drop k) ++ ((xs.take 31).take k))).length = (xs.take 31).length := hM.length_eq
    refine w_lit ?_
    refine wl_pure (wants0 rfl) (d := 51) (v := (.slice (some ⟨g29, 0, none⟩) ((xs.take 31).length) c9)) rfl (by kernel_rfl) ?_
    refine wl_do (wants0 rfl) (fun K54 hK54 => ?_)
    refine d_call (d := 52) rfl (by kernel_rfl) (medC_any w48 (.slice (some ⟨g29, 0, none⟩) ((xs.take 31).length) c9) (xs.take 31) (ListAt.row (enc := encU) (sz := 1) encU_len (by decide) (H49.at 1 rfl)) (by first | omega | (simp only [List.length_take, List.length_drop, List.length_append]; omega))) ?_
    rintro _ w55 ⟨rfl, u57⟩
    have H56 := H49.keepU u57
    refine ⟨_, rfl, ?_⟩
    refine hK54 _ _ ?_
    clear hK54 K54
    refine wl_pure (wants0 rfl) (d := 50) (v := (.tuple #[(.int .u64 (medV (xs.take 31))), (.bool (decide ((xs.take 31).length % 2 = 1)))])) rfl (by kernel_rfl) ?_
    refine wl_pure (wants0 rfl) (d := 53) (v := (.int .u64 (medV (xs.take 31)))) rfl (by kernel_rfl) ?_
    refine wl_pure (wants0 rfl) (d := 54) (v := (.bool (decide ((xs.take 31).length % 2 = 1)))) rfl (by kernel_rfl) ?_
    refine wl_pure (wants0 rfl) (d := 13) (v := (.int .u64 (medV (xs.take 31)))) rfl (by kernel_rfl) ?_
    refine wl_pure (wants0 rfl) (d := 14) (v := (.bool (decide ((xs.take 31).length % 2 = 1)))) rfl (by kernel_rfl) ?_
    refine w_nil ?_
    refine then_normal ?_
    refine w_seq ?_
    refine w_lit ?_
    refine wl_pure (wants0 rfl) (d := 56) (v := (.slice a51 ((((xs.take 31).drop k) ++ ((xs.take 31).take k)).length) c52)) rfl (by kernel_rfl) ?_
    refine wl_do (wants0 rfl) (fun K58 hK58 => ?_)
    refine d_call (d := 57) rfl (by kernel_rfl) (medC_any w55 (.slice a51 ((((xs.take 31).drop k) ++ ((xs.take 31).take k)).length) c52) (((xs.take 31).drop k) ++ ((xs.take 31).take k)) (ListAt.row (enc := encU) (sz := 1) encU_len (by decide) (H56.at 2 rfl)) (by first | omega | (simp only [List.length_take, List.length_drop, List.length_append]; omega))) ?_
    rintro _ w59 ⟨rfl, u61⟩
    have H60 := H56.keepU u61
    refine ⟨_, rfl, ?_⟩
    refine hK58 _ _ ?_
    clear hK58 K58
    refine wl_pure (wants0 rfl) (d := 55) (v := (.tuple #[(.int .u64 (medV (((xs.take 31).drop k) ++ ((xs.take 31).take k)))), (.bool (decide ((((xs.take 31).drop k) ++ ((xs.take 31).take k)).length % 2 = 1)))])) rfl (by kernel_rfl) ?_
    refine wl_pure (wants0 rfl) (d := 58) (v := (.int .u64 (medV (((xs.take 31).drop k) ++ ((xs.take 31).take k))))) rfl (by kernel_rfl) ?_
    refine wl_pure (wants0 rfl) (d := 59) (v := (.bool (decide ((((xs.take 31).drop k) ++ ((xs.take 31).take k)).length % 2 = 1)))) rfl (by kernel_rfl) ?_
    refine wl_pure (wants0 rfl) (d := 15) (v := (.int .u64 (medV (((xs.take 31).drop k) ++ ((xs.take 31).take k))))) rfl (by kernel_rfl) ?_
    refine wl_pure (wants0 rfl) (d := 16) (v := (.bool (decide ((((xs.take 31).drop k) ++ ((xs.take 31).take k)).length % 2 = 1)))) rfl (by kernel_rfl) ?_
    refine w_nil ?_
    refine then_normal ?_
    refine w_seq ?_
    refine w_lit ?_
    refine wl_pure (wants0 rfl) (d := 60) (v := (.int .i64 (at_))) rfl (by kernel_rfl) ?_
    refine wl_pure (wants0 rfl) (d := 61) (v := (.slice (some ⟨g29, 0, none⟩) ((xs.take 31).length) c9)) rfl (by kernel_rfl) ?_
    refine wl_pure (wants0 rfl) (d := 62) (v := (.int .i64 ((((xs.take 31).length) : Int)))) rfl (by kernel_rfl) ?_
    refine wl_do (wants0 rfl) (fun K62 hK62 => ?_)
    refine d_call (d := 63) rfl (by kernel_rfl) (within_any w59 at_ (((xs.take 31).length) : Int) (by omega)) ?_
    rintro _ w63 ⟨rfl, u65⟩
    have H64 := H60.keepU u65
    refine ⟨_, rfl, ?_⟩
    refine hK62 _ _ ?_
    clear hK62 K62
    refine wl_pure (wants0 rfl) (d := 17) (v := (.int .i64 (withinV at_ (((xs.take 31).length) : Int)))) rfl (by kernel_rfl) ?_
    refine w_nil ?_
    refine then_normal ?_
    refine w_seq ?_
    refine w_seq ?_
    refine wp_know 17 (.int .i64 ((i : Int))) (show ((.int .i64 (withinV at_ (((xs.take 31).length) : Int))) : Value) = _ by rw [hi]) ?_
    refine w_lit ?_
    refine wl_pure (wants0 rfl) (d := 64) (v := (.slice (some ⟨g29, 0, none⟩) ((xs.take 31).length) c9)) rfl (by kernel_rfl) ?_
    refine wl_pure (wants0 rfl) (d := 65) (v := (.int .i64 ((i : Int)))) rfl (by kernel_rfl) ?_
    refine wl_pure (wants0 rfl) (d := 66) (v := (.pointer (some ⟨g29, 0 + ((i : Int)).toNat * 1, none⟩))) rfl (e_indexAddr (E := 23) (by kernel_rfl) (by kernel_rfl) (Nat.le_of_ble_eq_true rfl) rfl rfl (by omega) (by omega)) ?_
    obtain ⟨x66, h67⟩ := get_at (show i < (xs.take 31).length by omega)
    refine wl_pure (wants0 rfl) (d := 67) (v := (.int .u64 (x66))) rfl (e_load1 rfl (by kernel_rfl) (rowU_cell (H64.at 1 rfl) h67 (show 0 + ((i : Int)).toNat * 1 = i by omega))) ?_
    refine wl_pure (wants0 rfl) (d := 68) (v := (.int .u64 (by_))) rfl (by kernel_rfl) ?_
    refine wl_pure (wants0 rfl) (d := 69) (v := (.int .u64 (18446744073709551615 - by_))) rfl (e_int (z := 18446744073709551615 - by_) (by kernel_rfl) (wrap_u64 (by omega))) ?_
    refine wl_pure (wants0 rfl) (d := 70) (v := (.bool (decide (x66 < (18446744073709551615 - by_))))) rfl (by kernel_rfl) ?_
    refine w_nil ?_
    refine then_normal ?_
    refine (bsplit (decide (x66 < (18446744073709551615 - by_)))).elim (fun b68 => ?_) (fun b68 => ?_)
    · have g69 := of_decide_eq_true b68
      refine wp_know 70 (.bool true) (congrArg Value.bool b68) ?_
      have g70 := of_decide_eq_true b68
      refine wp_ift rfl ?_
      have hbx := hbx31 _ _ h67
      refine w_lit ?_
      refine wl_pure (wants0 rfl) (d := 71) (v := (.slice (some ⟨g29, 0, none⟩) ((xs.take 31).length) c9)) rfl (by kernel_rfl) ?_
      refine wl_pure (wants0 rfl) (d := 72) (v := (.int .i64 ((i : Int)))) rfl (by kernel_rfl) ?_
      refine wl_pure (wants0 rfl) (d := 73) (v := (.pointer (some ⟨g29, 0 + ((i : Int)).toNat * 1, none⟩))) rfl (e_indexAddr (E := 23) (by kernel_rfl) (by kernel_rfl) (Nat.le_of_ble_eq_true rfl) rfl rfl (by omega) (by omega)) ?_
      refine wl_pure (wants0 rfl) (d := 74) (v := (.int .u64 (x66))) rfl (e_load1 rfl (by kernel_rfl) (rowU_cell (H64.at 1 rfl) h67 (show 0 + ((i : Int)).toNat * 1 = i by omega))) ?_
      refine wl_pure (wants0 rfl) (d := 75) (v := (.int .u64 (by_))) rfl (by kernel_rfl) ?_
      refine wl_pure (wants0 rfl) (d := 76) (v := (.int .u64 (x66 + by_))) rfl (e_int (z := x66 + by_) (by kernel_rfl) (wrap_u64 (by omega))) ?_
      refine wl_pure (wants0 rfl) (d := 77) (v := (.pointer (some ⟨g29, 0 + ((i : Int)).toNat * 1, none⟩))) rfl (e_indexAddr (E := 23) (by kernel_rfl) (by kernel_rfl) (Nat.le_of_ble_eq_true rfl) rfl rfl (by omega) (by omega)) ?_
      refine wl_do (wants0 rfl) (fun K71 hK71 => ?_)
      refine d_storeU rfl H64 1 rfl rfl rfl (by kernel_rfl) (show 0 + ((i : Int)).toNat * 1 = i by omega) (by omega) ?_
      intro w72 (H73 : Sat w [restC w (fun _ => False), rowU g29 ((xs.take 31).length) c9 ((xs.take 31).set i (x66 + by_)), rowC 23 1 (.slice a51 ((((xs.take 31).drop k) ++ ((xs.take 31).take k)).length) c52) ((((xs.take 31).drop k) ++ ((xs.take 31).take k)).length) ((((xs.take 31).drop k) ++ ((xs.take 31).take k)).flatMap encU)] w72)
      have hlH73 : ((xs.take 31).set i (x66 + by_)).length = (xs.take 31).length := List.length_set
      refine hK71 _ _ ?_
      clear hK71 K71
      refine w_nil ?_
      refine then_normal ?_
      refine w_seq ?_
      refine w_lit ?_
      refine wl_pure (wants0 rfl) (d := 79) (v := (.slice (some ⟨g29, 0, none⟩) ((xs.take 31).length) c9)) rfl (by kernel_rfl) ?_
      refine wl_do (wants0 rfl) (fun K74 hK74 => ?_)
      refine d_call (d := 80) rfl (by kernel_rfl) (medC_any w72 (.slice (some ⟨g29, 0, none⟩) ((xs.take 31).length) c9) ((xs.take 31).set i (x66 + by_)) (ListAt.row (enc := encU) (sz := 1) encU_len (by decide) (H73.at 1 rfl)) (by first | omega | (simp only [List.length_take, List.length_drop, List.length_append]; omega))) ?_
      rintro _ w75 ⟨rfl, u77⟩
      have H76 := H73.keepU u77
      refine ⟨_, rfl, ?_⟩
      refine hK74 _ _ ?_
      clear hK74 K74
      refine wl_pure (wants0 rfl) (d := 78) (v := (.tuple #[(.int .u64 (medV ((xs.take 31).set i (x66 + by_)))), (.bool (decide (((xs.take 31).set i (x66 + by_)).length % 2 = 1)))])) rfl (by kernel_rfl) ?_
      refine wl_pure (wants0 rfl) (d := 81) (v := (.int .u64 (medV ((xs.take 31).set i (x66 + by_))))) rfl (by kernel_rfl) ?_
      refine wl_pure (wants0 rfl) (d := 82) (v := (.bool (decide (((xs.take 31).set i (x66 + by_)).length % 2 = 1)))) rfl (by kernel_rfl) ?_
      refine wl_pure (wants0 rfl) (d := 18) (v := (.int .u64 (medV ((xs.take 31).set i (x66 + by_))))) rfl (by kernel_rfl) ?_
      refine wl_pure (wants0 rfl) (d := 19) (v := (.bool (decide (((xs.take 31).set i (x66 + by_)).length % 2 = 1)))) rfl (by kernel_rfl) ?_
      refine w_nil ?_
      refine then_normal ?_
      refine w_seq ?_
      refine w_lit ?_
      refine wl_pure (wants0 rfl) (d := 20) (v := (.bool false)) rfl (by kernel_rfl) ?_
      refine w_nil ?_
      refine then_normal ?_
      refine w_seq ?_
      refine w_seq ?_
      obtain ⟨g78, c79, e80⟩ := row_shape (H76.at 2 rfl) (by omega)
      obtain rfl : a51 = some ⟨g78, 0, none⟩ := by cases e80; rfl
      have H81 : Sat w [restC w (fun _ => False), rowU g29 ((xs.take 31).length) c9 ((xs.take 31).set i (x66 + by_)), rowU g78 ((((xs.take 31).drop k) ++ ((xs.take 31).take k)).length) c52 (((xs.take 31).drop k) ++ ((xs.take 31).take k))] w75 := H76
      refine w_lit ?_
      refine wl_pure (wants0 rfl) (d := 83) (v := (.slice (some ⟨g78, 0, none⟩) ((((xs.take 31).drop k) ++ ((xs.take 31).take k)).length) c52)) rfl (by kernel_rfl) ?_
      refine wl_pure (wants0 rfl) (d := 84) (v := (.int .i64 ((((((xs.take 31).drop k) ++ ((xs.take 31).take k)).length) : Int)))) rfl (by kernel_rfl) ?_
      refine wl_pure (wants0 rfl) (d := 85) (v := (.int .i64 (0))) rfl (by kernel_rfl) ?_
      refine w_nil ?_
      refine then_normal ?_
      refine w_block ?_
      refine wp_round [20, 21, 85, 86, 87, 88, 89, 90, 91, 92, 93, 94, 95, 96, 97] (fun F_ W_ m_ => ∃ (j : Nat), F_ 85 = (.int .i64 ((j : Int))) ∧ F_ 20 = (.bool ((((((xs.take 31).drop k) ++ ((xs.take 31).take k))).take j).contains (medV (xs.take 31)))) ∧ (j ≤ ((((xs.take 31).drop k) ++ ((xs.take 31).take k))).length) ∧ Sat w [restC w (fun _ => False), rowU g29 ((xs.take 31).length) c9 ((xs.take 31).set i (x66 + by_)), rowU g78 ((((xs.take 31).drop k) ++ ((xs.take 31).take k)).length) c52 (((xs.take 31).drop k) ++ ((xs.take 31).take k))] W_ ∧ m_ = ((((xs.take 31).drop k) ++ ((xs.take 31).take k))).length + 1 - j) _ ⟨0, (show ((.int .i64 (0)) : Value) = _ by first | rfl | go_num), (by first | rfl | go_num), by omega, H81, rfl⟩ ?_
      rintro g82 w83 _ ⟨j, v85, v86, hj, H84, rfl⟩
      refine wp_know 85 _ v85 ?_
      refine wp_know 20 _ v86 ?_
      refine w_seq ?_
      refine w_lit ?_
      refine wl_pure (wants0 rfl) (d := 86) (v := (.bool (decide ((j : Int) < (((((xs.take 31).drop k) ++ ((xs.take 31).take k)).length) : Int))))) rfl (by kernel_rfl) ?_
      refine w_nil ?_
      refine then_normal ?_
      refine w_seq ?_
      refine (bsplit (decide ((j : Int) < (((((xs.take 31).drop k) ++ ((xs.take 31).take k)).length) : Int)))).elim (fun b88 => ?_) (fun b88 => ?_)
      · have g89 := of_decide_eq_true b88
        refine wp_know 86 (.bool true) (congrArg Value.bool b88) ?_
        have g90 := of_decide_eq_true b88
        refine wp_ift rfl ?_
        refine w_skip ?_
        refine then_normal ?_
        refine w_seq ?_
        refine w_block ?_
        refine w_seq ?_
        refine w_lit ?_
        refine wl_pure (wants0 rfl) (d := 87) (v := (.int .i64 ((j : Int)))) rfl (by kernel_rfl) ?_
        refine wl_pure (wants0 rfl) (d := 21) (v := (.int .i64 ((j : Int)))) rfl (by kernel_rfl) ?_
        refine w_nil ?_
        refine then_normal ?_
        refine w_lit ?_
        refine wl_pure (wants0 rfl) (d := 88) (v := (.bool ((((((xs.take 31).drop k) ++ ((xs.take 31).take k))).take j).contains (medV (xs.take 31))))) rfl (by kernel_rfl) ?_
        refine wl_pure (wants0 rfl) (d := 89) (v := (.bool ((((((xs.take 31).drop k) ++ ((xs.take 31).take k))).take j).contains (medV (xs.take 31))))) rfl (by kernel_rfl) ?_
        refine (bsplit ((((((xs.take 31).drop k) ++ ((xs.take 31).take k))).take j).contains (medV (xs.take 31)))).elim (fun b91 => ?_) (fun b91 => ?_)
        · refine wl_know 89 (.bool true) (congrArg Value.bool b91) ?_
          refine wl_pass (wantsN 1 89 false rfl (by kernel_rfl) rfl (by kernel_rfl)) rfl ?_
          refine wl_pass (wantsN 1 89 false rfl (by kernel_rfl) rfl (by kernel_rfl)) rfl ?_
          refine wl_pass (wantsN 1 89 false rfl (by kernel_rfl) rfl (by kernel_rfl)) rfl ?_
          refine wl_pass (wantsN 1 89 false rfl (by kernel_rfl) rfl (by kernel_rfl)) rfl ?_
          refine wl_pass (wantsN 1 89 false rfl (by kernel_rfl) rfl (by kernel_rfl)) rfl ?_
          refine wl_pass (wantsN 1 89 false rfl (by kernel_rfl) rfl (by kernel_rfl)) rfl ?_
          refine wl_pure (wants0 rfl) (d := 96) (v := (.bool true)) rfl (by kernel_rfl) ?_
          refine wl_pure (wants0 rfl) (d := 20) (v := (.bool true)) rfl (by kernel_rfl) ?_
          refine w_nil ?_
          refine blk_normal ?_
          refine then_normal ?_
          refine w_lit ?_
          refine wl_pure (wants0 rfl) (d := 97) (v := (.int .i64 ((j : Int) + 1))) rfl (e_int (z := (j : Int) + 1) (by kernel_rfl) (IntWalk.i64_in _ (by omega))) ?_
          refine wl_pure (wants0 rfl) (d := 85) (v := (.int .i64 ((j : Int) + 1))) rfl (by kernel_rfl) ?_
          refine w_nil ?_
          refine round_back ?_ _ ⟨(j + 1), (show ((.int .i64 ((j : Int) + 1)) : Value) = _ by first | rfl | go_num), (show ((.bool true) : Value) = _ by rw [contains_step (j := j) (M := (((xs.take 31).drop k) ++ ((xs.take 31).take k))) (by omega), b91]; rfl), by omega, H84, rfl⟩ (by omega)
          exact (same_upd rfl (same_upd rfl (same_upd rfl (same_upd rfl (same_upd rfl (same_upd rfl (same_upd rfl (same_upd rfl (same_upd rfl (same_upd rfl (same_upd rfl (same_upd rfl (same_upd rfl (same_upd rfl (same_upd rfl (same_upd rfl (same_upd rfl (same_upd rfl (same_upd rfl (same_ovr))))))))))))))))))))
        · refine wl_know 89 (.bool false) (congrArg Value.bool b91) ?_
          refine wl_pure (wantsY 1 89 false rfl (by kernel_rfl) rfl (by kernel_rfl)) (d := 90) (v := (.slice (some ⟨g78, 0, none⟩) ((((xs.take 31).drop k) ++ ((xs.take 31).take k)).length) c52)) rfl (by kernel_rfl) ?_
          refine wl_pure (wantsY 1 89 false rfl (by kernel_rfl) rfl (by kernel_rfl)) (d := 91) (v := (.int .i64 ((j : Int)))) rfl (by kernel_rfl) ?_
          refine wl_pure (wantsY 1 89 false rfl (by kernel_rfl) rfl (by kernel_rfl)) (d := 92) (v := (.pointer (some ⟨g78, 0 + ((j : Int)).toNat * 1, none⟩))) rfl (e_indexAddr (E := 23) (by kernel_rfl) (by kernel_rfl) (Nat.le_of_ble_eq_true rfl) rfl rfl (by omega) (by omega)) ?_
          obtain ⟨x92, h93⟩ := get_at (show j < (((xs.take 31).drop k) ++ ((xs.take 31).take k)).length by omega)
          refine wl_pure (wantsY 1 89 false rfl (by kernel_rfl) rfl (by kernel_rfl)) (d := 93) (v := (.int .u64 (x92))) rfl (e_load1 rfl (by kernel_rfl) (rowU_cell (H84.at 2 rfl) h93 (show 0 + ((j : Int)).toNat * 1 = j by omega))) ?_
          refine wl_pure (wantsY 1 89 false rfl (by kernel_rfl) rfl (by kernel_rfl)) (d := 94) (v := (.int .u64 (medV (xs.take 31)))) rfl (by kernel_rfl) ?_
          refine wl_pure (wantsY 1 89 false rfl (by kernel_rfl) rfl (by kernel_rfl)) (d := 95) (v := (.bool (decide (x92 = (medV (xs.take 31)))))) rfl (by kernel_rfl) ?_
          refine wl_pure (wants0 rfl) (d := 96) (v := (.bool (decide (x92 = (medV (xs.take 31)))))) rfl (by kernel_rfl) ?_
          refine wl_pure (wants0 rfl) (d := 20) (v := (.bool (decide (x92 = (medV (xs.take 31)))))) rfl (by kernel_rfl) ?_
          refine w_nil ?_
          refine blk_normal ?_
          refine then_normal ?_
          refine w_lit ?_
          refine wl_pure (wants0 rfl) (d := 97) (v := (.int .i64 ((j : Int) + 1))) rfl (e_int (z := (j : Int) + 1) (by kernel_rfl) (IntWalk.i64_in _ (by omega))) ?_
          refine wl_pure (wants0 rfl) (d := 85) (v := (.int .i64 ((j : Int) + 1))) rfl (by kernel_rfl) ?_
          refine w_nil ?_
          refine round_back ?_ _ ⟨(j + 1), (show ((.int .i64 ((j : Int) + 1)) : Value) = _ by first | rfl | go_num), (show ((.bool (decide (x92 = (medV (xs.take 31))))) : Value) = _ by rw [contains_step (j := j) (M := (((xs.take 31).drop k) ++ ((xs.take 31).take k))) (by omega), b91, getD_some0 h93]; rfl), by omega, H84, rfl⟩ (by omega)
          exact (same_upd rfl (same_upd rfl (same_upd rfl (same_upd rfl (same_upd rfl (same_upd rfl (same_upd rfl (same_upd rfl (same_upd rfl (same_upd rfl (same_upd rfl (same_upd rfl (same_upd rfl (same_upd rfl (same_upd rfl (same_upd rfl (same_upd rfl (same_upd rfl (same_upd rfl (same_ovr))))))))))))))))))))
      · have g94 := of_decide_eq_false b88
        refine wp_know 86 (.bool false) (congrArg Value.bool b88) ?_
        have g95 := of_decide_eq_false b88
        refine wp_iff rfl ?_
        refine w_exit ?_
        refine then_exit ?_
        refine back_exit ?_
        refine blk_hit ?_
        refine then_normal ?_
        refine w_seq ?_
        refine w_lit ?_
        refine wl_pure (wants0 rfl) (d := 98) (v := (.bool (decide ((xs.take 31).length % 2 = 1)))) rfl (by kernel_rfl) ?_
        refine wl_pure (wants0 rfl) (d := 99) (v := (.bool (decide ((xs.take 31).length % 2 = 1)))) rfl (by kernel_rfl) ?_
        have b96 : (decide ((xs.take 31).length % 2 = 1)) = true := by exact decide_eq_true (by first | omega | (simp only [List.length_set]; omega))
        refine wl_know 99 (.bool true) (congrArg Value.bool b96) ?_
        refine wl_pure (wantsY 1 99 true rfl (by kernel_rfl) rfl (by kernel_rfl)) (d := 100) (v := (.bool (decide ((((xs.take 31).drop k) ++ ((xs.take 31).take k)).length % 2 = 1)))) rfl (by kernel_rfl) ?_
        refine wl_pure (wants0 rfl) (d := 101) (v := (.bool (decide ((((xs.take 31).drop k) ++ ((xs.take 31).take k)).length % 2 = 1)))) rfl (by kernel_rfl) ?_
        refine wl_pure (wants0 rfl) (d := 102) (v := (.bool (decide ((((xs.take 31).drop k) ++ ((xs.take 31).take k)).length % 2 = 1)))) rfl (by kernel_rfl) ?_
        have b97 : (decide ((((xs.take 31).drop k) ++ ((xs.take 31).take k)).length % 2 = 1)) = true := by exact decide_eq_true (by first | omega | (simp only [List.length_set]; omega))
        refine wl_know 102 (.bool true) (congrArg Value.bool b97) ?_
        refine wl_pure (wantsY 4 102 true rfl (by kernel_rfl) rfl (by kernel_rfl)) (d := 103) (v := (.bool (decide (((xs.take 31).set i (x66 + by_)).length % 2 = 1)))) rfl (by kernel_rfl) ?_
        refine wl_pure (wants0 rfl) (d := 104) (v := (.bool (decide (((xs.take 31).set i (x66 + by_)).length % 2 = 1)))) rfl (by kernel_rfl) ?_
        refine wl_pure (wants0 rfl) (d := 105) (v := (.bool (decide (((xs.take 31).set i (x66 + by_)).length % 2 = 1)))) rfl (by kernel_rfl) ?_
        have b98 : (decide (((xs.take 31).set i (x66 + by_)).length % 2 = 1)) = true := by exact decide_eq_true (by first | omega | (simp only [List.length_set]; omega))
        refine wl_know 105 (.bool true) (congrArg Value.bool b98) ?_
        refine wl_pure (wantsY 7 105 true rfl (by kernel_rfl) rfl (by kernel_rfl)) (d := 106) (v := (.int .u64 (medV (xs.take 31)))) rfl (by kernel_rfl) ?_
        refine wl_pure (wantsY 7 105 true rfl (by kernel_rfl) rfl (by kernel_rfl)) (d := 107) (v := (.int .u64 (medV (((xs.take 31).drop k) ++ ((xs.take 31).take k))))) rfl (by kernel_rfl) ?_
        refine wl_pure (wantsY 7 105 true rfl (by kernel_rfl) rfl (by kernel_rfl)) (d := 108) (v := (.bool (decide ((medV (xs.take 31)) = (medV (((xs.take 31).drop k) ++ ((xs.take 31).take k))))))) rfl (by kernel_rfl) ?_
        refine wl_pure (wants0 rfl) (d := 109) (v := (.bool (decide ((medV (xs.take 31)) = (medV (((xs.take 31).drop k) ++ ((xs.take 31).take k))))))) rfl (by kernel_rfl) ?_
        refine wl_pure (wants0 rfl) (d := 110) (v := (.bool (decide ((medV (xs.take 31)) = (medV (((xs.take 31).drop k) ++ ((xs.take 31).take k))))))) rfl (by kernel_rfl) ?_
        have b99 : (decide ((medV (xs.take 31)) = (medV (((xs.take 31).drop k) ++ ((xs.take 31).take k))))) = true := by exact decide_eq_true (medV_perm hM.symm)
        refine wl_know 110 (.bool true) (congrArg Value.bool b99) ?_
        have g100 := of_decide_eq_true b99
        refine wl_pure (wantsY 12 110 true rfl (by kernel_rfl) rfl (by kernel_rfl)) (d := 111) (v := (.int .u64 (medV ((xs.take 31).set i (x66 + by_))))) rfl (by kernel_rfl) ?_
        refine wl_pure (wantsY 12 110 true rfl (by kernel_rfl) rfl (by kernel_rfl)) (d := 112) (v := (.int .u64 (medV (xs.take 31)))) rfl (by kernel_rfl) ?_
        refine wl_pure (wantsY 12 110 true rfl (by kernel_rfl) rfl (by kernel_rfl)) (d := 113) (v := (.bool (decide ((medV ((xs.take 31).set i (x66 + by_))) ≥ (medV (xs.take 31)))))) rfl (by kernel_rfl) ?_
        refine wl_pure (wants0 rfl) (d := 114) (v := (.bool (decide ((medV ((xs.take 31).set i (x66 + by_))) ≥ (medV (xs.take 31)))))) rfl (by kernel_rfl) ?_
        refine wl_pure (wants0 rfl) (d := 115) (v := (.bool (decide ((medV ((xs.take 31).set i (x66 + by_))) ≥ (medV (xs.take 31)))))) rfl (by kernel_rfl) ?_
        have b101 : (decide ((medV ((xs.take 31).set i (x66 + by_))) ≥ (medV (xs.take 31)))) = true := by exact decide_eq_true (medV_rise hodd h67 (by omega))
        refine wl_know 115 (.bool true) (congrArg Value.bool b101) ?_
        have g102 := of_decide_eq_true b101
        refine wl_pure (wantsY 17 115 true rfl (by kernel_rfl) rfl (by kernel_rfl)) (d := 116) (v := (.bool ((((((xs.take 31).drop k) ++ ((xs.take 31).take k))).take j).contains (medV (xs.take 31))))) rfl (by kernel_rfl) ?_
        refine wl_pure (wants0 rfl) (d := 117) (v := (.bool ((((((xs.take 31).drop k) ++ ((xs.take 31).take k))).take j).contains (medV (xs.take 31))))) rfl (by kernel_rfl) ?_
        refine wl_pure (wants0 rfl) (d := 118) (v := (.bool ((((((xs.take 31).drop k) ++ ((xs.take 31).take k))).take j).contains (medV (xs.take 31))))) rfl (by kernel_rfl) ?_
        have b103 : ((((((xs.take 31).drop k) ++ ((xs.take 31).take k))).take j).contains (medV (xs.take 31))) = true := by rw [List.take_of_length_le (by omega)]; simpa using hM.mem_iff.2 (medV_p hodd).mem
        refine wl_know 118 (.bool true) (congrArg Value.bool b103) ?_
        refine wl_do (wantsY 20 118 true rfl (by kernel_rfl) rfl (by kernel_rfl)) (fun K104 hK104 => ?_)
        refine d_call (d := 119) rfl (by kernel_rfl) (wakes_any w83) ?_
        rintro _ w105 ⟨rfl, u107⟩
        have H106 := H84.keepU u107
        refine ⟨_, rfl, ?_⟩
        refine hK104 _ _ ?_
        clear hK104 K104
        refine wl_pure (wants0 rfl) (d := 120) (v := (.bool true)) rfl (by kernel_rfl) ?_
        refine wl_pure (wants0 rfl) (d := 8) (v := (.bool true)) rfl (by kernel_rfl) ?_
        refine w_nil ?_
        refine then_normal ?_
        refine w_ret ?_
        refine end1 rfl (res_tmp (v := (.bool true)) rfl) ?_
        exact ⟨rfl, H106.upd 0 rfl [] (fun _ h => h.elim)⟩
    · have g108 := of_decide_eq_false b68
      refine wp_know 70 (.bool false) (congrArg Value.bool b68) ?_
      have g109 := of_decide_eq_false b68
      refine wp_iff rfl ?_
      refine w_skip ?_
      refine then_normal ?_
      refine w_seq ?_
      refine w_lit ?_
      refine wl_pure (wants0 rfl) (d := 79) (v := (.slice (some ⟨g29, 0, none⟩) ((xs.take 31).length) c9)) rfl (by kernel_rfl) ?_
      refine wl_do (wants0 rfl) (fun K110 hK110 => ?_)
      refine d_call (d := 80) rfl (by kernel_rfl) (medC_any w63 (.slice (some ⟨g29, 0, none⟩) ((xs.take 31).length) c9) (xs.take 31) (ListAt.row (enc := encU) (sz := 1) encU_len (by decide) (H64.at 1 rfl)) (by first | omega | (simp only [List.length_take, List.length_drop, List.length_append]; omega))) ?_
      rintro _ w111 ⟨rfl, u113⟩
      have H112 := H64.keepU u113
      refine ⟨_, rfl, ?_⟩
      refine hK110 _ _ ?_
      clear hK110 K110
      refine wl_pure (wants0 rfl) (d := 78) (v := (.tuple #[(.int .u64 (medV (xs.take 31))), (.bool (decide ((xs.take 31).length % 2 = 1)))])) rfl (by kernel_rfl) ?_
      refine wl_pure (wants0 rfl) (d := 81) (v := (.int .u64 (medV (xs.take 31)))) rfl (by kernel_rfl) ?_
      refine wl_pure (wants0 rfl) (d := 82) (v := (.bool (decide ((xs.take 31).length % 2 = 1)))) rfl (by kernel_rfl) ?_
      refine wl_pure (wants0 rfl) (d := 18) (v := (.int .u64 (medV (xs.take 31)))) rfl (by kernel_rfl) ?_
      refine wl_pure (wants0 rfl) (d := 19) (v := (.bool (decide ((xs.take 31).length % 2 = 1)))) rfl (by kernel_rfl) ?_
      refine w_nil ?_
      refine then_normal ?_
      refine w_seq ?_
      refine w_lit ?_
      refine wl_pure (wants0 rfl) (d := 20) (v := (.bool false)) rfl (by kernel_rfl) ?_
      refine w_nil ?_
      refine then_normal ?_
      refine w_seq ?_
      refine w_seq ?_
      obtain ⟨g114, c115, e116⟩ := row_shape (H112.at 2 rfl) (by omega)
      obtain rfl : a51 = some ⟨g114, 0, none⟩ := by cases e116; rfl
      have H117 : Sat w [restC w (fun _ => False), rowU g29 ((xs.take 31).length) c9 (xs.take 31), rowU g114 ((((xs.take 31).drop k) ++ ((xs.take 31).take k)).length) c52 (((xs.take 31).drop k) ++ ((xs.take 31).take k))] w111 := H112
      refine w_lit ?_
      refine wl_pure (wants0 rfl) (d := 83) (v := (.slice (some ⟨g114, 0, none⟩) ((((xs.take 31).drop k) ++ ((xs.take 31).take k)).length) c52)) rfl (by kernel_rfl) ?_
      refine wl_pure (wants0 rfl) (d := 84) (v := (.int .i64 ((((((xs.take 31).drop k) ++ ((xs.take 31).take k)).length) : Int)))) rfl (by kernel_rfl) ?_
      refine wl_pure (wants0 rfl) (d := 85) (v := (.int .i64 (0))) rfl (by kernel_rfl) ?_
      refine w_nil ?_
      refine then_normal ?_
      refine w_block ?_
      refine wp_round [20, 21, 85, 86, 87, 88, 89, 90, 91, 92, 93, 94, 95, 96, 97] (fun F_ W_ m_ => ∃ (j : Nat), F_ 85 = (.int .i64 ((j : Int))) ∧ F_ 20 = (.bool ((((((xs.take 31).drop k) ++ ((xs.take 31).take k))).take j).contains (medV (xs.take 31)))) ∧ (j ≤ ((((xs.take 31).drop k) ++ ((xs.take 31).take k))).length) ∧ Sat w [restC w (fun _ => False), rowU g29 ((xs.take 31).length) c9 (xs.take 31), rowU g114 ((((xs.take 31).drop k) ++ ((xs.take 31).take k)).length) c52 (((xs.take 31).drop k) ++ ((xs.take 31).take k))] W_ ∧ m_ = ((((xs.take 31).drop k) ++ ((xs.take 31).take k))).length + 1 - j) _ ⟨0, (show ((.int .i64 (0)) : Value) = _ by first | rfl | go_num), (by first | rfl | go_num), by omega, H117, rfl⟩ ?_
      rintro g118 w119 _ ⟨j, v121, v122, hj, H120, rfl⟩
      refine wp_know 85 _ v121 ?_
      refine wp_know 20 _ v122 ?_
      refine w_seq ?_
      refine w_lit ?_
      refine wl_pure (wants0 rfl) (d := 86) (v := (.bool (decide ((j : Int) < (((((xs.take 31).drop k) ++ ((xs.take 31).take k)).length) : Int))))) rfl (by kernel_rfl) ?_
      refine w_nil ?_
      refine then_normal ?_
      refine w_seq ?_
      refine (bsplit (decide ((j : Int) < (((((xs.take 31).drop k) ++ ((xs.take 31).take k)).length) : Int)))).elim (fun b124 => ?_) (fun b124 => ?_)
      · have g125 := of_decide_eq_true b124
        refine wp_know 86 (.bool true) (congrArg Value.bool b124) ?_
        have g126 := of_decide_eq_true b124
        refine wp_ift rfl ?_
        refine w_skip ?_
        refine then_normal ?_
        refine w_seq ?_
        refine w_block ?_
        refine w_seq ?_
        refine w_lit ?_
        refine wl_pure (wants0 rfl) (d := 87) (v := (.int .i64 ((j : Int)))) rfl (by kernel_rfl) ?_
        refine wl_pure (wants0 rfl) (d := 21) (v := (.int .i64 ((j : Int)))) rfl (by kernel_rfl) ?_
        refine w_nil ?_
        refine then_normal ?_
        refine w_lit ?_
        refine wl_pure (wants0 rfl) (d := 88) (v := (.bool ((((((xs.take 31).drop k) ++ ((xs.take 31).take k))).take j).contains (medV (xs.take 31))))) rfl (by kernel_rfl) ?_
        refine wl_pure (wants0 rfl) (d := 89) (v := (.bool ((((((xs.take 31).drop k) ++ ((xs.take 31).take k))).take j).contains (medV (xs.take 31))))) rfl (by kernel_rfl) ?_
        refine (bsplit ((((((xs.take 31).drop k) ++ ((xs.take 31).take k))).take j).contains (medV (xs.take 31)))).elim (fun b127 => ?_) (fun b127 => ?_)
        · refine wl_know 89 (.bool true) (congrArg Value.bool b127) ?_
          refine wl_pass (wantsN 1 89 false rfl (by kernel_rfl) rfl (by kernel_rfl)) rfl ?_
          refine wl_pass (wantsN 1 89 false rfl (by kernel_rfl) rfl (by kernel_rfl)) rfl ?_
          refine wl_pass (wantsN 1 89 false rfl (by kernel_rfl) rfl (by kernel_rfl)) rfl ?_
          refine wl_pass (wantsN 1 89 false rfl (by kernel_rfl) rfl (by kernel_rfl)) rfl ?_
          refine wl_pass (wantsN 1 89 false rfl (by kernel_rfl) rfl (by kernel_rfl)) rfl ?_
          refine wl_pass (wantsN 1 89 false rfl (by kernel_rfl) rfl (by kernel_rfl)) rfl ?_
          refine wl_pure (wants0 rfl) (d := 96) (v := (.bool true)) rfl (by kernel_rfl) ?_
          refine wl_pure (wants0 rfl) (d := 20) (v := (.bool true)) rfl (by kernel_rfl) ?_
          refine w_nil ?_
          refine blk_normal ?_
          refine then_normal ?_
          refine w_lit ?_
          refine wl_pure (wants0 rfl) (d := 97) (v := (.int .i64 ((j : Int) + 1))) rfl (e_int (z := (j : Int) + 1) (by kernel_rfl) (IntWalk.i64_in _ (by omega))) ?_
          refine wl_pure (wants0 rfl) (d := 85) (v := (.int .i64 ((j : Int) + 1))) rfl (by kernel_rfl) ?_
          refine w_nil ?_
          refine round_back ?_ _ ⟨(j + 1), (show ((.int .i64 ((j : Int) + 1)) : Value) = _ by first | rfl | go_num), (show ((.bool true) : Value) = _ by rw [contains_step (j := j) (M := (((xs.take 31).drop k) ++ ((xs.take 31).take k))) (by omega), b127]; rfl), by omega, H120, rfl⟩ (by omega)
          exact (same_upd rfl (same_upd rfl (same_upd rfl (same_upd rfl (same_upd rfl (same_upd rfl (same_upd rfl (same_upd rfl (same_upd rfl (same_upd rfl (same_upd rfl (same_upd rfl (same_upd rfl (same_upd rfl (same_upd rfl (same_upd rfl (same_upd rfl (same_upd rfl (same_upd rfl (same_ovr))))))))))))))))))))
        · refine wl_know 89 (.bool false) (congrArg Value.bool b127) ?_
          refine wl_pure (wantsY 1 89 false rfl (by kernel_rfl) rfl (by kernel_rfl)) (d := 90) (v := (.slice (some ⟨g114, 0, none⟩) ((((xs.take 31).drop k) ++ ((xs.take 31).take k)).length) c52)) rfl (by kernel_rfl) ?_
          refine wl_pure (wantsY 1 89 false rfl (by kernel_rfl) rfl (by kernel_rfl)) (d := 91) (v := (.int .i64 ((j : Int)))) rfl (by kernel_rfl) ?_
          refine wl_pure (wantsY 1 89 false rfl (by kernel_rfl) rfl (by kernel_rfl)) (d := 92) (v := (.pointer (some ⟨g114, 0 + ((j : Int)).toNat * 1, none⟩))) rfl (e_indexAddr (E := 23) (by kernel_rfl) (by kernel_rfl) (Nat.le_of_ble_eq_true rfl) rfl rfl (by omega) (by omega)) ?_
          obtain ⟨x128, h129⟩ := get_at (show j < (((xs.take 31).drop k) ++ ((xs.take 31).take k)).length by omega)
          refine wl_pure (wantsY 1 89 false rfl (by kernel_rfl) rfl (by kernel_rfl)) (d := 93) (v := (.int .u64 (x128))) rfl (e_load1 rfl (by kernel_rfl) (rowU_cell (H120.at 2 rfl) h129 (show 0 + ((j : Int)).toNat * 1 = j by omega))) ?_
          refine wl_pure (wantsY 1 89 false rfl (by kernel_rfl) rfl (by kernel_rfl)) (d := 94) (v := (.int .u64 (medV (xs.take 31)))) rfl (by kernel_rfl) ?_
          refine wl_pure (wantsY 1 89 false rfl (by kernel_rfl) rfl (by kernel_rfl)) (d := 95) (v := (.bool (decide (x128 = (medV (xs.take 31)))))) rfl (by kernel_rfl) ?_
          refine wl_pure (wants0 rfl) (d := 96) (v := (.bool (decide (x128 = (medV (xs.take 31)))))) rfl (by kernel_rfl) ?_
          refine wl_pure (wants0 rfl) (d := 20) (v := (.bool (decide (x128 = (medV (xs.take 31)))))) rfl (by kernel_rfl) ?_
          refine w_nil ?_
          refine blk_normal ?_
          refine then_normal ?_
          refine w_lit ?_
          refine wl_pure (wants0 rfl) (d := 97) (v := (.int .i64 ((j : Int) + 1))) rfl (e_int (z := (j : Int) + 1) (by kernel_rfl) (IntWalk.i64_in _ (by omega))) ?_
          refine wl_pure (wants0 rfl) (d := 85) (v := (.int .i64 ((j : Int) + 1))) rfl (by kernel_rfl) ?_
          refine w_nil ?_
          refine round_back ?_ _ ⟨(j + 1), (show ((.int .i64 ((j : Int) + 1)) : Value) = _ by first | rfl | go_num), (show ((.bool (decide (x128 = (medV (xs.take 31))))) : Value) = _ by rw [contains_step (j := j) (M := (((xs.take 31).drop k) ++ ((xs.take 31).take k))) (by omega), b127, getD_some0 h129]; rfl), by omega, H120, rfl⟩ (by omega)
          exact (same_upd rfl (same_upd rfl (same_upd rfl (same_upd rfl (same_upd rfl (same_upd rfl (same_upd rfl (same_upd rfl (same_upd rfl (same_upd rfl (same_upd rfl (same_upd rfl (same_upd rfl (same_upd rfl (same_upd rfl (same_upd rfl (same_upd rfl (same_upd rfl (same_upd rfl (same_ovr))))))))))))))))))))
      · have g130 := of_decide_eq_false b124
        refine wp_know 86 (.bool false) (congrArg Value.bool b124) ?_
        have g131 := of_decide_eq_false b124
        refine wp_iff rfl ?_
        refine w_exit ?_
        refine then_exit ?_
        refine back_exit ?_
        refine blk_hit ?_
        refine then_normal ?_
        refine w_seq ?_
        refine w_lit ?_
        refine wl_pure (wants0 rfl) (d := 98) (v := (.bool (decide ((xs.take 31).length % 2 = 1)))) rfl (by kernel_rfl) ?_
        refine wl_pure (wants0 rfl) (d := 99) (v := (.bool (decide ((xs.take 31).length % 2 = 1)))) rfl (by kernel_rfl) ?_
        have b132 : (decide ((xs.take 31).length % 2 = 1)) = true := by exact decide_eq_true (by first | omega | (simp only [List.length_set]; omega))
        refine wl_know 99 (.bool true) (congrArg Value.bool b132) ?_
        refine wl_pure (wantsY 1 99 true rfl (by kernel_rfl) rfl (by kernel_rfl)) (d := 100) (v := (.bool (decide ((((xs.take 31).drop k) ++ ((xs.take 31).take k)).length % 2 = 1)))) rfl (by kernel_rfl) ?_
        refine wl_pure (wants0 rfl) (d := 101) (v := (.bool (decide ((((xs.take 31).drop k) ++ ((xs.take 31).take k)).length % 2 = 1)))) rfl (by kernel_rfl) ?_
        refine wl_pure (wants0 rfl) (d := 102) (v := (.bool (decide ((((xs.take 31).drop k) ++ ((xs.take 31).take k)).length % 2 = 1)))) rfl (by kernel_rfl) ?_
        have b133 : (decide ((((xs.take 31).drop k) ++ ((xs.take 31).take k)).length % 2 = 1)) = true := by exact decide_eq_true (by first | omega | (simp only [List.length_set]; omega))
        refine wl_know 102 (.bool true) (congrArg Value.bool b133) ?_
        refine wl_pure (wantsY 4 102 true rfl (by kernel_rfl) rfl (by kernel_rfl)) (d := 103) (v := (.bool (decide ((xs.take 31).length % 2 = 1)))) rfl (by kernel_rfl) ?_
        refine wl_pure (wants0 rfl) (d := 104) (v := (.bool (decide ((xs.take 31).length % 2 = 1)))) rfl (by kernel_rfl) ?_
        refine wl_pure (wants0 rfl) (d := 105) (v := (.bool (decide ((xs.take 31).length % 2 = 1)))) rfl (by kernel_rfl) ?_
        refine wl_know 105 (.bool true) (congrArg Value.bool b132) ?_
        refine wl_pure (wantsY 7 105 true rfl (by kernel_rfl) rfl (by kernel_rfl)) (d := 106) (v := (.int .u64 (medV (xs.take 31)))) rfl (by kernel_rfl) ?_
        refine wl_pure (wantsY 7 105 true rfl (by kernel_rfl) rfl (by kernel_rfl)) (d := 107) (v := (.int .u64 (medV (((xs.take 31).drop k) ++ ((xs.take 31).take k))))) rfl (by kernel_rfl) ?_
        refine wl_pure (wantsY 7 105 true rfl (by kernel_rfl) rfl (by kernel_rfl)) (d := 108) (v := (.bool (decide ((medV (xs.take 31)) = (medV (((xs.take 31).drop k) ++ ((xs.take 31).take k))))))) rfl (by kernel_rfl) ?_
        refine wl_pure (wants0 rfl) (d := 109) (v := (.bool (decide ((medV (xs.take 31)) = (medV (((xs.take 31).drop k) ++ ((xs.take 31).take k))))))) rfl (by kernel_rfl) ?_
        refine wl_pure (wants0 rfl) (d := 110) (v := (.bool (decide ((medV (xs.take 31)) = (medV (((xs.take 31).drop k) ++ ((xs.take 31).take k))))))) rfl (by kernel_rfl) ?_
        have b134 : (decide ((medV (xs.take 31)) = (medV (((xs.take 31).drop k) ++ ((xs.take 31).take k))))) = true := by exact decide_eq_true (medV_perm hM.symm)
        refine wl_know 110 (.bool true) (congrArg Value.bool b134) ?_
        have g135 := of_decide_eq_true b134
        refine wl_pure (wantsY 12 110 true rfl (by kernel_rfl) rfl (by kernel_rfl)) (d := 111) (v := (.int .u64 (medV (xs.take 31)))) rfl (by kernel_rfl) ?_
        refine wl_pure (wantsY 12 110 true rfl (by kernel_rfl) rfl (by kernel_rfl)) (d := 112) (v := (.int .u64 (medV (xs.take 31)))) rfl (by kernel_rfl) ?_
        refine wl_pure (wantsY 12 110 true rfl (by kernel_rfl) rfl (by kernel_rfl)) (d := 113) (v := (.bool (decide ((medV (xs.take 31)) ≥ (medV (xs.take 31)))))) rfl (by kernel_rfl) ?_
        refine wl_pure (wants0 rfl) (d := 114) (v := (.bool (decide ((medV (xs.take 31)) ≥ (medV (xs.take 31)))))) rfl (by kernel_rfl) ?_
        refine wl_pure (wants0 rfl) (d := 115) (v := (.bool (decide ((medV (xs.take 31)) ≥ (medV (xs.take 31)))))) rfl (by kernel_rfl) ?_
        have b136 : (decide ((medV (xs.take 31)) ≥ (medV (xs.take 31)))) = true := by exact decide_eq_true (Int.le_refl _)
        refine wl_know 115 (.bool true) (congrArg Value.bool b136) ?_
        have g137 := of_decide_eq_true b136
        refine wl_pure (wantsY 17 115 true rfl (by kernel_rfl) rfl (by kernel_rfl)) (d := 116) (v := (.bool ((((((xs.take 31).drop k) ++ ((xs.take 31).take k))).take j).contains (medV (xs.take 31))))) rfl (by kernel_rfl) ?_
        refine wl_pure (wants0 rfl) (d := 117) (v := (.bool ((((((xs.take 31).drop k) ++ ((xs.take 31).take k))).take j).contains (medV (xs.take 31))))) rfl (by kernel_rfl) ?_
        refine wl_pure (wants0 rfl) (d := 118) (v := (.bool ((((((xs.take 31).drop k) ++ ((xs.take 31).take k))).take j).contains (medV (xs.take 31))))) rfl (by kernel_rfl) ?_
        have b138 : ((((((xs.take 31).drop k) ++ ((xs.take 31).take k))).take j).contains (medV (xs.take 31))) = true := by rw [List.take_of_length_le (by omega)]; simpa using hM.mem_iff.2 (medV_p hodd).mem
        refine wl_know 118 (.bool true) (congrArg Value.bool b138) ?_
        refine wl_do (wantsY 20 118 true rfl (by kernel_rfl) rfl (by kernel_rfl)) (fun K139 hK139 => ?_)
        refine d_call (d := 119) rfl (by kernel_rfl) (wakes_any w119) ?_
        rintro _ w140 ⟨rfl, u142⟩
        have H141 := H120.keepU u142
        refine ⟨_, rfl, ?_⟩
        refine hK139 _ _ ?_
        clear hK139 K139
        refine wl_pure (wants0 rfl) (d := 120) (v := (.bool true)) rfl (by kernel_rfl) ?_
        refine wl_pure (wants0 rfl) (d := 8) (v := (.bool true)) rfl (by kernel_rfl) ?_
        refine w_nil ?_
        refine then_normal ?_
        refine w_ret ?_
        refine end1 rfl (res_tmp (v := (.bool true)) rfl) ?_
        exact ⟨rfl, H141.upd 0 rfl [] (fun _ h => h.elim)⟩

end Go.Proofs.Ytbpeofcoceaahaa
