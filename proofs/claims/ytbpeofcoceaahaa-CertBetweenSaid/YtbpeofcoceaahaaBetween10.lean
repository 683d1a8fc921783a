/- WHAT IS PROVED: chapter 10: a statement about medians: its walk. Conditions: stated with each. -/
import Derived.Test.YtbpeofcoceaahaaMoved10
namespace Go.Proofs.Ytbpeofcoceaahaa
open Go.RowKit

def honT (hs : List Int) (i : Nat) : Int := if i < hs.length then hs.getD i 0 else (i : Int)
def lieT (ls : List Int) (i : Nat) : Int := if i < ls.length then ls.getD i 0 else 0
def honL (hs : List Int) (k : Nat) : List Int := (List.range k).map (honT hs)
def lieL (ls : List Int) (k : Nat) : List Int := (List.range k).map (lieT ls)
def lowV (L : List Int) : Int := L.foldl min 18446744073709551615
def highV (L : List Int) : Int := L.foldl max 0
theorem honL_step (hs : List Int) (k : Nat) : honL hs (k + 1) = honL hs k ++ [honT hs k] := by simp [honL, List.range_succ]
theorem lieL_step (ls : List Int) (k : Nat) : lieL ls (k + 1) = lieL ls k ++ [lieT ls k] := by simp [lieL, List.range_succ]
theorem honL_len (hs : List Int) (k : Nat) : (honL hs k).length = k := by simp [honL]
theorem lieL_len (ls : List Int) (k : Nat) : (lieL ls k).length = k := by simp [lieL]
theorem lowV_step (L : List Int) (x : Int) : lowV (L ++ [x]) = min (lowV L) x := by simp [lowV, List.foldl_append]
theorem highV_step (L : List Int) (x : Int) : highV (L ++ [x]) = max (highV L) x := by simp [highV, List.foldl_append]
theorem foldl_bd (L : List Int) : ∀ a, (L.foldl min a ≤ a ∧ ∀ x ∈ L, L.foldl min a ≤ x) := by
  induction L with
  | nil => intro a; simp
  | cons y L ih =>
    intro a
    obtain ⟨h1, h2⟩ := ih (min a y)
    simp only [List.foldl_cons]
    refine ⟨by omega, fun x hx => ?_⟩
    rcases List.mem_cons.1 hx with rfl | hx
    · omega
    · exact h2 x hx
theorem foldl_bd2 (L : List Int) : ∀ a, (a ≤ L.foldl max a ∧ ∀ x ∈ L, x ≤ L.foldl max a) := by
  induction L with
  | nil => intro a; simp
  | cons y L ih =>
    intro a
    obtain ⟨h1, h2⟩ := ih (max a y)
    simp only [List.foldl_cons]
    refine ⟨by omega, fun x hx => ?_⟩
    rcases List.mem_cons.1 hx with rfl | hx
    · omega
    · exact h2 x hx
theorem honL_bd (L : List Int) : ∀ x ∈ L, lowV L ≤ x ∧ x ≤ highV L := fun x hx => ⟨(foldl_bd L _).2 x hx, (foldl_bd2 L _).2 x hx⟩

set_option maxRecDepth 100000 in
set_option maxHeartbeats 400000 in
theorem between10_all (w : World) (f turn : Int) (ua : Option Addr) (uc : Nat) (hs : List Int) (hhs : ListAt encU 1 w (.slice ua hs.length uc) hs) (hh : hs.length ≤ 9223372036854775807) (qa : Option Addr) (qc : Nat) (ls : List Int) (hls : ListAt encU 1 w (.slice qa ls.length qc) ls) (hl : ls.length ≤ 9223372036854775807) :
    Calls Try.prog 5 #[(.int .i64 (f)), (.slice ua hs.length uc), (.slice qa ls.length qc), (.int .i64 (turn))] w fun e w' => e = .returned (.bool true) ∧ Upd [] w w' := by
  have H := Sat.start0 w
  have hw := within_lim f 21 (by omega)
  obtain ⟨F, hF⟩ : ∃ F : Nat, (F : Int) = 1 + withinV f 21 := ⟨(1 + withinV f 21).toNat, by omega⟩
  refine calls_fr Try.func5 rfl 110 rfl (Nat.le_of_ble_eq_true rfl) ?_
  refine w_seq ?_
  refine w_lit ?_
  refine wl_pure (wants0 rfl) (d := 8) (v := (.bool false)) rfl (by kernel_rfl) ?_
  refine w_nil ?_
  refine then_normal ?_
  refine w_seq ?_
  refine w_lit ?_
  refine wl_pure (wants0 rfl) (d := 21) (v := (.int .i64 (f))) rfl (by kernel_rfl) ?_
  refine wl_do (wants0 rfl) (fun K1 hK1 => ?_)
  refine d_call (d := 22) rfl (by kernel_rfl) (within_any w f 21 (by omega)) ?_
  rintro _ w2 ⟨rfl, u4⟩
  have H3 := H.keepU u4
  refine ⟨_, rfl, ?_⟩
  refine hK1 _ _ ?_
  clear hK1 K1
  refine wl_pure (wants0 rfl) (d := 23) (v := (.int .i64 (1 + (withinV f 21)))) rfl (e_int (z := 1 + (withinV f 21)) (by kernel_rfl) (IntWalk.i64_in _ (by omega))) ?_
  refine wl_pure (wants0 rfl) (d := 0) (v := (.int .i64 (1 + (withinV f 21)))) rfl (by kernel_rfl) ?_
  refine w_nil ?_
  refine then_normal ?_
  refine w_seq ?_
  refine wp_know 0 (.int .i64 ((F : Int))) (show ((.int .i64 (1 + (withinV f 21))) : Value) = _ by rw [hF]) ?_
  refine w_lit ?_
  refine wl_pure (wants0 rfl) (d := 9) (v := (.slice none 0 0)) rfl (by kernel_rfl) ?_
  refine w_nil ?_
  refine then_normal ?_
  refine w_seq ?_
  refine w_lit ?_
  refine wl_pure (wants0 rfl) (d := 10) (v := (.int .u64 (18446744073709551615))) rfl (by kernel_rfl) ?_
  refine wl_pure (wants0 rfl) (d := 11) (v := (.int .u64 (0))) rfl (by kernel_rfl) ?_
  refine w_nil ?_
  refine then_normal ?_
  refine w_seq ?_
  refine w_seq ?_
  refine w_lit ?_
  refine wl_pure (wants0 rfl) (d := 12) (v := (.int .i64 (0))) rfl (by kernel_rfl) ?_
  refine w_nil ?_
  refine then_normal ?_
  refine w_block ?_
  have H6 : Sat w [restC w (fun _ => False), rowC 23 1 (.slice none 0 0) ((honL hs 0).length) ((honL hs 0).flatMap encU)] w2 := H3.addU (Upd.refl _ _) (World.ownsRow_nil _ 0 23 1) (fun _ h => by simp [rowC, Value.ownBlock] at h)
  refine wp_round [9, 10, 11, 12, 13, 24, 25, 26, 27, 28, 29, 30, 31, 32, 33, 34, 35, 36, 37, 38, 39, 40, 41, 42, 43, 44, 45, 46, 47, 48, 49] (fun F_ W_ m_ => ∃ (k : Nat) (a : Option Addr) (c : Nat), F_ 12 = (.int .i64 ((k : Int))) ∧ F_ 9 = (.slice a ((honL hs k).length) c) ∧ F_ 10 = (.int .u64 (lowV (honL hs k))) ∧ F_ 11 = (.int .u64 (highV (honL hs k))) ∧ (k ≤ F + 1) ∧ Sat w [restC w (fun _ => False), rowC 23 1 (.slice a ((honL hs k).length) c) ((honL hs k).length) ((honL hs k).flatMap encU)] W_ ∧ m_ = F + 2 - k) _ ⟨0, none, 0, (show ((.int .i64 (0)) : Value) = _ by first | rfl | go_num), rfl, rfl, rfl, by omega, H6, rfl⟩ ?_
  rintro g7 w8 _ ⟨k, a, c, v10, v11, v12, v13, hk, H9, rfl⟩
  refine wp_know 12 _ v10 ?_
  refine wp_know 9 _ v11 ?_
  refine wp_know 10 _ v12 ?_
  refine wp_know 11 _ v13 ?_
  have hkl0 := honL_len hs k
  refine w_seq ?_
  refine w_seq ?_
  refine w_lit ?_
  refine wl_pure (wants0 rfl) (d := 24) (v := (.int .i64 ((k : Int)))) rfl (by kernel_rfl) ?_
  refine wl_pure (wants0 rfl) (d := 25) (v := (.int .i64 ((F : Int)))) rfl (by kernel_rfl) ?_
  refine wl_pure (wants0 rfl) (d := 26) (v := (.int .i64 ((F : Int) + 1))) rfl (e_int (z := (F : Int) + 1) (by kernel_rfl) (IntWalk.i64_in _ (by omega))) ?_
  refine wl_pure (wants0 rfl) (d := 27) (v := (.bool (decide ((k : Int) < ((F : Int) + 1))))) rfl (by kernel_rfl) ?_
  refine w_nil ?_
  refine then_normal ?_
  refine (bsplit (decide ((k : Int) < ((F : Int) + 1)))).elim (fun b15 => ?_) (fun b15 => ?_)
  · have g16 := of_decide_eq_true b15
    refine wp_know 27 (.bool true) (congrArg Value.bool b15) ?_
    have g17 := of_decide_eq_true b15
    refine wp_ift rfl ?_
    refine w_skip ?_
    refine then_normal ?_
    refine w_seq ?_
    refine w_block ?_
    refine w_seq ?_
    refine w_lit ?_
    refine wl_pure (wants0 rfl) (d := 30) (v := (.int .i64 ((k : Int)))) rfl (by kernel_rfl) ?_
    refine wl_pure (wants0 rfl) (d := 31) (v := (.int .u64 ((k : Int)))) rfl (e_int (z := (k : Int)) (by kernel_rfl) (wrap_u64 (by omega))) ?_
    refine wl_pure (wants0 rfl) (d := 13) (v := (.int .u64 ((k : Int)))) rfl (by kernel_rfl) ?_
    refine w_nil ?_
    refine then_normal ?_
    refine w_seq ?_
    refine w_seq ?_
    refine w_lit ?_
    refine wl_pure (wants0 rfl) (d := 32) (v := (.int .i64 ((k : Int)))) rfl (by kernel_rfl) ?_
    refine wl_pure (wants0 rfl) (d := 33) (v := (.slice ua hs.length uc)) rfl (by kernel_rfl) ?_
    refine wl_pure (wants0 rfl) (d := 34) (v := (.int .i64 ((hs.length : Int)))) rfl (by kernel_rfl) ?_
    refine wl_pure (wants0 rfl) (d := 35) (v := (.bool (decide ((k : Int) < (hs.length : Int))))) rfl (by kernel_rfl) ?_
    refine w_nil ?_
    refine then_normal ?_
    refine (bsplit (decide ((k : Int) < (hs.length : Int)))).elim (fun b18 => ?_) (fun b18 => ?_)
    · have g19 := of_decide_eq_true b18
      refine wp_know 35 (.bool true) (congrArg Value.bool b18) ?_
      have g20 := of_decide_eq_true b18
      refine wp_ift rfl ?_
      refine w_lit ?_
      refine wl_pure (wants0 rfl) (d := 36) (v := (.slice ua hs.length uc)) rfl (by kernel_rfl) ?_
      refine wl_pure (wants0 rfl) (d := 37) (v := (.int .i64 ((k : Int)))) rfl (by kernel_rfl) ?_
      obtain ⟨g21, o22, c23, e24, R25⟩ := SliceOf.atD hhs 0 (show k < hs.length by omega)
      refine wl_pure (wants0 rfl) (d := 38) (v := (.pointer (some ⟨g21, o22 + ((k : Int)).toNat * 1, none⟩))) rfl (e_indexAddrW (E := 23) (by kernel_rfl) (by kernel_rfl) (Nat.le_of_ble_eq_true rfl) rfl e24 rfl (by omega) (by omega)) ?_
      refine wl_pure (wants0 rfl) (d := 39) (v := (.int .u64 ((hs.getD k 0)))) rfl (e_load1 rfl (by kernel_rfl) (H9.cellR 0 rfl (cells_at R25 0 (by kernel_rfl) (show o22 + ((k : Int)).toNat * 1 = o22 + k * 1 + 0 by omega)) (fun h => h))) ?_
      refine wl_pure (wants0 rfl) (d := 13) (v := (.int .u64 ((hs.getD k 0)))) rfl (by kernel_rfl) ?_
      refine w_nil ?_
      refine then_normal ?_
      refine w_seq ?_
      refine w_lit ?_
      refine wl_pure (wants0 rfl) (d := 40) (v := (.slice a ((honL hs k).length) c)) rfl (by kernel_rfl) ?_
      refine wl_pure (wants0 rfl) (d := 41) (v := (.int .u64 ((hs.getD k 0)))) rfl (by kernel_rfl) ?_
      refine wl_do (wants0 rfl) (fun K26 hK26 => ?_)
      refine d_buildSlice (e := 23) (size := 1) (bytes := 8) (z := (.int .u64 (0))) (pvs := [(0, (.int .u64 ((hs.getD k 0))))]) (vs := ([(.int .u64 ((hs.getD k 0)))] : List Value)) rfl H9 (by kernel_rfl) (by kernel_rfl) (by kernel_rfl) (by kernel_rfl) (by kernel_rfl) rfl rfl ?_
      intro b27 w28 (H29 : Sat w [restC w (fun _ => False), rowC 23 1 (.slice a ((honL hs k).length) c) ((honL hs k).length) ((honL hs k).flatMap encU), rowC 23 1 (.slice (some ⟨b27, 0, none⟩) 1 1) 1 ([(.int .u64 ((hs.getD k 0)))] : List Value)] w28)
      refine hK26 _ _ ?_
      clear hK26 K26
      refine wl_do (wants0 rfl) (fun K30 hK30 => ?_)
      refine d_append (T := 22) (e := 23) (size := 1) (bytes := 8) rfl H29 (by kernel_rfl) 1 2 rfl rfl rfl rfl (by kernel_rfl) (by omega) (by omega) ?_
      intro v31 w32 (H33 : Sat w [restC w (fun _ => False), rowC 23 1 v31 ((honL hs k).length + 1) (((honL hs k).flatMap encU) ++ ([(.int .u64 ((hs.getD k 0)))] : List Value)), rowC 23 1 (.slice (some ⟨b27, 0, none⟩) 1 1) 1 ([(.int .u64 ((hs.getD k 0)))] : List Value)] w32)
      have H36 : Sat w [restC w (fun _ => False), rowC 23 1 v31 (((honL hs k) ++ [(hs.getD k 0)]).length) (((honL hs k) ++ [(hs.getD k 0)]).flatMap encU), rowC 23 1 (.slice (some ⟨b27, 0, none⟩) 1 1) 1 ([(.int .u64 ((hs.getD k 0)))] : List Value)] w32 := H33.cast (by simp only [List.length_append, List.flatMap_append] <;> rfl)
      obtain ⟨a34, c35, rfl⟩ := ownsRow_shape (H36.at 1 rfl)
      refine hK30 _ _ ?_
      clear hK30 K30
      refine wl_pure (wants0 rfl) (d := 9) (v := (.slice a34 (((honL hs k) ++ [(hs.getD k 0)]).length) c35)) rfl (by kernel_rfl) ?_
      refine w_nil ?_
      refine then_normal ?_
      refine w_lit ?_
      refine wl_pure (wants0 rfl) (d := 44) (v := (.int .u64 (lowV (honL hs k)))) rfl (by kernel_rfl) ?_
      refine wl_pure (wants0 rfl) (d := 45) (v := (.int .u64 ((hs.getD k 0)))) rfl (by kernel_rfl) ?_
      refine wl_pure (wants0 rfl) (d := 46) (v := (.int .u64 (min (lowV (honL hs k)) (hs.getD k 0)))) rfl (e_minI (k := .u64) (a := lowV (honL hs k)) (b := (hs.getD k 0)) (z := min (lowV (honL hs k)) (hs.getD k 0)) rfl rfl rfl) ?_
      refine wl_pure (wants0 rfl) (d := 47) (v := (.int .u64 (highV (honL hs k)))) rfl (by kernel_rfl) ?_
      refine wl_pure (wants0 rfl) (d := 48) (v := (.int .u64 ((hs.getD k 0)))) rfl (by kernel_rfl) ?_
      refine wl_pure (wants0 rfl) (d := 49) (v := (.int .u64 (max (highV (honL hs k)) (hs.getD k 0)))) rfl (e_maxI (k := .u64) (a := highV (honL hs k)) (b := (hs.getD k 0)) (z := max (highV (honL hs k)) (hs.getD k 0)) rfl rfl rfl) ?_
      refine wl_pure (wants0 rfl) (d := 10) (v := (.int .u64 (min (lowV (honL hs k)) (hs.getD k 0)))) rfl (by kernel_rfl) ?_
      refine wl_pure (wants0 rfl) (d := 11) (v := (.int .u64 (max (highV (honL hs k)) (hs.getD k 0)))) rfl (by kernel_rfl) ?_
      refine w_nil ?_
      refine blk_normal ?_
      refine then_normal ?_
      refine w_lit ?_
      refine wl_pure (wants0 rfl) (d := 28) (v := (.int .i64 ((k : Int)))) rfl (by kernel_rfl) ?_
      refine wl_pure (wants0 rfl) (d := 29) (v := (.int .i64 ((k : Int) + 1))) rfl (e_int (z := (k : Int) + 1) (by kernel_rfl) (IntWalk.i64_in _ (by omega))) ?_
      refine wl_pure (wants0 rfl) (d := 12) (v := (.int .i64 ((k : Int) + 1))) rfl (by kernel_rfl) ?_
      refine w_nil ?_
      have hx : honT hs k = (hs.getD k 0) := by unfold honT; rw [if_pos (by omega)]
      have H37 : Sat w [restC w (fun _ => False), rowC 23 1 (.slice a34 ((honL hs (k + 1)).length) c35) ((honL hs (k + 1)).length) ((honL hs (k + 1)).flatMap encU), rowC 23 1 (.slice (some ⟨b27, 0, none⟩) 1 1) 1 ([(.int .u64 ((hs.getD k 0)))] : List Value)] w32 := H36.cast (by rw [honL_step, hx])
      have H38 : Sat w [restC w (fun _ => False), rowC 23 1 (.slice a34 ((honL hs (k + 1)).length) c35) ((honL hs (k + 1)).length) ((honL hs (k + 1)).flatMap encU)] w32 := H37.pick [0, 1] (by decide)
      refine round_back ?_ _ ⟨(k + 1), a34, c35, (show ((.int .i64 ((k : Int) + 1)) : Value) = _ by first | rfl | go_num), (show ((.slice a34 (((honL hs k) ++ [(hs.getD k 0)]).length) c35) : Value) = _ by exact (show ((.slice a34 (((honL hs k) ++ [(hs.getD k 0)]).length) c35) : Value) = Value.slice a34 (honL hs (k + 1)).length c35 by rw [honL_step, hx])), (show ((.int .u64 (min (lowV (honL hs k)) (hs.getD k 0))) : Value) = _ by exact (show ((.int .u64 (min (lowV (honL hs k)) (hs.getD k 0))) : Value) = Value.int .u64 (lowV (honL hs (k + 1))) by rw [honL_step, lowV_step, hx])), (show ((.int .u64 (max (highV (honL hs k)) (hs.getD k 0))) : Value) = _ by exact (show ((.int .u64 (max (highV (honL hs k)) (hs.getD k 0))) : Value) = Value.int .u64 (highV (honL hs (k + 1))) by rw [honL_step, highV_step, hx])), by omega, H38, rfl⟩ (by omega)
      exact (same_upd rfl (same_upd rfl (same_upd rfl (same_upd rfl (same_upd rfl (same_upd rfl (same_upd rfl (same_upd rfl (same_upd rfl (same_upd rfl (same_upd rfl (same_upd rfl (same_upd rfl (same_upd rfl (same_upd rfl (same_upd rfl (same_upd rfl (same_upd rfl (same_upd rfl (same_upd rfl (same_upd rfl (same_upd rfl (same_upd rfl (same_upd rfl (same_upd rfl (same_upd rfl (same_upd rfl (same_upd rfl (same_upd rfl (same_upd rfl (same_upd rfl (same_upd rfl (same_upd rfl (same_upd rfl (same_upd rfl (same_upd rfl (same_upd rfl (same_upd rfl (same_ovr)))))))))))))))))))))))))))))))))))))))
    · have g39 := of_decide_eq_false b18
      refine wp_know 35 (.bool false) (congrArg Value.bool b18) ?_
      have g40 := of_decide_eq_false b18
      refine wp_iff rfl ?_
      refine w_skip ?_
      refine then_normal ?_
      refine w_seq ?_
      refine w_lit ?_
      refine wl_pure (wants0 rfl) (d := 40) (v := (.slice a ((honL hs k).length) c)) rfl (by kernel_rfl) ?_
      refine wl_pure (wants0 rfl) (d := 41) (v := (.int .u64 ((k : Int)))) rfl (by kernel_rfl) ?_
      refine wl_do (wants0 rfl) (fun K41 hK41 => ?_)
      refine d_buildSlice (e := 23) (size := 1) (bytes := 8) (z := (.int .u64 (0))) (pvs := [(0, (.int .u64 ((k : Int))))]) (vs := ([(.int .u64 ((k : Int)))] : List Value)) rfl H9 (by kernel_rfl) (by kernel_rfl) (by kernel_rfl) (by kernel_rfl) (by kernel_rfl) rfl rfl ?_
      intro b42 w43 (H44 : Sat w [restC w (fun _ => False), rowC 23 1 (.slice a ((honL hs k).length) c) ((honL hs k).length) ((honL hs k).flatMap encU), rowC 23 1 (.slice (some ⟨b42, 0, none⟩) 1 1) 1 ([(.int .u64 ((k : Int)))] : List Value)] w43)
      refine hK41 _ _ ?_
      clear hK41 K41
      refine wl_do (wants0 rfl) (fun K45 hK45 => ?_)
      refine d_append (T := 22) (e := 23) (size := 1) (bytes := 8) rfl H44 (by kernel_rfl) 1 2 rfl rfl rfl rfl (by kernel_rfl) (by omega) (by omega) ?_
      intro v46 w47 (H48 : Sat w [restC w (fun _ => False), rowC 23 1 v46 ((honL hs k).length + 1) (((honL hs k).flatMap encU) ++ ([(.int .u64 ((k : Int)))] : List Value)), rowC 23 1 (.slice (some ⟨b42, 0, none⟩) 1 1) 1 ([(.int .u64 ((k : Int)))] : List Value)] w47)
      have H51 : Sat w [restC w (fun _ => False), rowC 23 1 v46 (((honL hs k) ++ [(k : Int)]).length) (((honL hs k) ++ [(k : Int)]).flatMap encU), rowC 23 1 (.slice (some ⟨b42, 0, none⟩) 1 1) 1 ([(.int .u64 ((k : Int)))] : List Value)] w47 := H48.cast (by simp only [List.length_append, List.flatMap_append] <;> rfl)
      obtain ⟨a49, c50, rfl⟩ := ownsRow_shape (H51.at 1 rfl)
      refine hK45 _ _ ?_
      clear hK45 K45
      refine wl_pure (wants0 rfl) (d := 9) (v := (.slice a49 (((honL hs k) ++ [(k : Int)]).length) c50)) rfl (by kernel_rfl) ?_
      refine w_nil ?_
      refine then_normal ?_
      refine w_lit ?_
      refine wl_pure (wants0 rfl) (d := 44) (v := (.int .u64 (lowV (honL hs k)))) rfl (by kernel_rfl) ?_
      refine wl_pure (wants0 rfl) (d := 45) (v := (.int .u64 ((k : Int)))) rfl (by kernel_rfl) ?_
      refine wl_pure (wants0 rfl) (d := 46) (v := (.int .u64 (min (lowV (honL hs k)) (k : Int)))) rfl (e_minI (k := .u64) (a := lowV (honL hs k)) (b := (k : Int)) (z := min (lowV (honL hs k)) (k : Int)) rfl rfl rfl) ?_
      refine wl_pure (wants0 rfl) (d := 47) (v := (.int .u64 (highV (honL hs k)))) rfl (by kernel_rfl) ?_
      refine wl_pure (wants0 rfl) (d := 48) (v := (.int .u64 ((k : Int)))) rfl (by kernel_rfl) ?_
      refine wl_pure (wants0 rfl) (d := 49) (v := (.int .u64 (max (highV (honL hs k)) (k : Int)))) rfl (e_maxI (k := .u64) (a := highV (honL hs k)) (b := (k : Int)) (z := max (highV (honL hs k)) (k : Int)) rfl rfl rfl) ?_
      refine wl_pure (wants0 rfl) (d := 10) (v := (.int .u64 (min (lowV (honL hs k)) (k : Int)))) rfl (by kernel_rfl) ?_
      refine wl_pure (wants0 rfl) (d := 11) (v := (.int .u64 (max (highV (honL hs k)) (k : Int)))) rfl (by kernel_rfl) ?_
      refine w_nil ?_
      refine blk_normal ?_
      refine then_normal ?_
      refine w_lit ?_
      refine wl_pure (wants0 rfl) (d := 28) (v := (.int .i64 ((k : Int)))) rfl (by kernel_rfl) ?_
      refine wl_pure (wants0 rfl) (d := 29) (v := (.int .i64 ((k : Int) + 1))) rfl (e_int (z := (k : Int) + 1) (by kernel_rfl) (IntWalk.i64_in _ (by omega))) ?_
      refine wl_pure (wants0 rfl) (d := 12) (v := (.int .i64 ((k : Int) + 1))) rfl (by kernel_rfl) ?_
      refine w_nil ?_
      have hx : honT hs k = (k : Int) := by unfold honT; rw [if_neg (by omega)]
      have H52 : Sat w [restC w (fun _ => False), rowC 23 1 (.slice a49 ((honL hs (k + 1)).length) c50) ((honL hs (k + 1)).length) ((honL hs (k + 1)).flatMap encU), rowC 23 1 (.slice (some ⟨b42, 0, none⟩) 1 1) 1 ([(.int .u64 ((k : Int)))] : List Value)] w47 := H51.cast (by rw [honL_step, hx])
      have H53 : Sat w [restC w (fun _ => False), rowC 23 1 (.slice a49 ((honL hs (k + 1)).length) c50) ((honL hs (k + 1)).length) ((honL hs (k + 1)).flatMap encU)] w47 := H52.pick [0, 1] (by decide)
      refine round_back ?_ _ ⟨(k + 1), a49, c50, (show ((.int .i64 ((k : Int) + 1)) : Value) = _ by first | rfl | go_num), (show ((.slice a49 (((honL hs k) ++ [(k : Int)]).length) c50) : Value) = _ by exact (show ((.slice a49 (((honL hs k) ++ [(k : Int)]).length) c50) : Value) = Value.slice a49 (honL hs (k + 1)).length c50 by rw [honL_step, hx])), (show ((.int .u64 (min (lowV (honL hs k)) (k : Int))) : Value) = _ by exact (show ((.int .u64 (min (lowV (honL hs k)) (k : Int))) : Value) = Value.int .u64 (lowV (honL hs (k + 1))) by rw [honL_step, lowV_step, hx])), (show ((.int .u64 (max (highV (honL hs k)) (k : Int))) : Value) = _ by exact (show ((.int .u64 (max (highV (honL hs k)) (k : Int))) : Value) = Value.int .u64 (highV (honL hs (k + 1))) by rw [honL_step, highV_step, hx])), by omega, H53, rfl⟩ (by omega)
      exact (same_upd rfl (same_upd rfl (same_upd rfl (same_upd rfl (same_upd rfl (same_upd rfl (same_upd rfl (same_upd rfl (same_upd rfl (same_upd rfl (same_upd rfl (same_upd rfl (same_upd rfl (same_upd rfl (same_upd rfl (same_upd rfl (same_upd rfl (same_upd rfl (same_upd rfl (same_upd rfl (same_upd rfl (same_upd rfl (same_upd rfl (same_upd rfl (same_upd rfl (same_upd rfl (same_upd rfl (same_upd rfl (same_upd rfl (same_upd rfl (same_upd rfl (same_upd rfl (same_upd rfl (same_ovr))))))))))))))))))))))))))))))))))
  · have g54 := of_decide_eq_false b15
    refine wp_know 27 (.bool false) (congrArg Value.bool b15) ?_
    have g55 := of_decide_eq_false b15
    refine wp_iff rfl ?_
    refine w_exit ?_
    refine then_exit ?_
    refine back_exit ?_
    refine blk_hit ?_
    refine then_normal ?_
    refine w_seq ?_
    refine w_seq ?_
    have hk1 : k = F + 1 := by omega
    refine w_lit ?_
    refine wl_pure (wants0 rfl) (d := 14) (v := (.int .i64 (0))) rfl (by kernel_rfl) ?_
    refine w_nil ?_
    refine then_normal ?_
    refine w_block ?_
    have H56 : Sat w [restC w (fun _ => False), rowC 23 1 (.slice a ((honL hs k ++ lieL ls 0).length) c) ((honL hs k ++ lieL ls 0).length) ((honL hs k ++ lieL ls 0).flatMap encU)] w8 := H9.cast (by rw [show honL hs k ++ lieL ls 0 = honL hs k from List.append_nil _])
    refine wp_know 9 (.slice a ((honL hs k ++ lieL ls 0).length) c) (show ((.slice a ((honL hs k).length) c) : Value) = _ by exact (show ((.slice a ((honL hs k).length) c) : Value) = (.slice a ((honL hs k ++ lieL ls 0).length) c) by rw [show honL hs k ++ lieL ls 0 = honL hs k from List.append_nil _])) ?_
    refine wp_round [9, 14, 15, 50, 51, 52, 53, 54, 55, 56, 57, 58, 59, 60, 61, 62, 63, 64, 65, 66] (fun F_ W_ m_ => ∃ (j : Nat) (a2 : Option Addr) (c2 : Nat), F_ 14 = (.int .i64 ((j : Int))) ∧ F_ 9 = (.slice a2 ((honL hs k ++ lieL ls j).length) c2) ∧ (j ≤ F) ∧ Sat w [restC w (fun _ => False), rowC 23 1 (.slice a2 ((honL hs k ++ lieL ls j).length) c2) ((honL hs k ++ lieL ls j).length) ((honL hs k ++ lieL ls j).flatMap encU)] W_ ∧ m_ = F + 1 - j) _ ⟨0, a, c, (show ((.int .i64 (0)) : Value) = _ by first | rfl | go_num), rfl, by omega, H56, rfl⟩ ?_
    rintro g57 w58 _ ⟨j, a2, c2, v60, v61, hj, H59, rfl⟩
    refine wp_know 14 _ v60 ?_
    refine wp_know 9 _ v61 ?_
    have hkl0 := honL_len hs k
    have hjl0 := lieL_len ls j
    have hAl0 : (honL hs k ++ lieL ls j).length = k + j := by rw [List.length_append]; omega
    refine w_seq ?_
    refine w_seq ?_
    refine w_lit ?_
    refine wl_pure (wants0 rfl) (d := 50) (v := (.int .i64 ((j : Int)))) rfl (by kernel_rfl) ?_
    refine wl_pure (wants0 rfl) (d := 51) (v := (.int .i64 ((F : Int)))) rfl (by kernel_rfl) ?_
    refine wl_pure (wants0 rfl) (d := 52) (v := (.bool (decide ((j : Int) < (F : Int))))) rfl (by kernel_rfl) ?_
    refine w_nil ?_
    refine then_normal ?_
    refine (bsplit (decide ((j : Int) < (F : Int)))).elim (fun b63 => ?_) (fun b63 => ?_)
    · have g64 := of_decide_eq_true b63
      refine wp_know 52 (.bool true) (congrArg Value.bool b63) ?_
      have g65 := of_decide_eq_true b63
      refine wp_ift rfl ?_
      refine w_skip ?_
      refine then_normal ?_
      refine w_seq ?_
      refine w_block ?_
      refine w_seq ?_
      refine w_lit ?_
      refine wl_pure (wants0 rfl) (d := 15) (v := (.int .u64 (0))) rfl (by kernel_rfl) ?_
      refine w_nil ?_
      refine then_normal ?_
      refine w_seq ?_
      refine w_seq ?_
      refine w_lit ?_
      refine wl_pure (wants0 rfl) (d := 55) (v := (.int .i64 ((j : Int)))) rfl (by kernel_rfl) ?_
      refine wl_pure (wants0 rfl) (d := 56) (v := (.slice qa ls.length qc)) rfl (by kernel_rfl) ?_
      refine wl_pure (wants0 rfl) (d := 57) (v := (.int .i64 ((ls.length : Int)))) rfl (by kernel_rfl) ?_
      refine wl_pure (wants0 rfl) (d := 58) (v := (.bool (decide ((j : Int) < (ls.length : Int))))) rfl (by kernel_rfl) ?_
      refine w_nil ?_
      refine then_normal ?_
      refine (bsplit (decide ((j : Int) < (ls.length : Int)))).elim (fun b66 => ?_) (fun b66 => ?_)
      · have g67 := of_decide_eq_true b66
        refine wp_know 58 (.bool true) (congrArg Value.bool b66) ?_
        have g68 := of_decide_eq_true b66
        refine wp_ift rfl ?_
        refine w_lit ?_
        refine wl_pure (wants0 rfl) (d := 59) (v := (.slice qa ls.length qc)) rfl (by kernel_rfl) ?_
        refine wl_pure (wants0 rfl) (d := 60) (v := (.int .i64 ((j : Int)))) rfl (by kernel_rfl) ?_
        obtain ⟨g69, o70, c71, e72, R73⟩ := SliceOf.atD hls 0 (show j < ls.length by omega)
        refine wl_pure (wants0 rfl) (d := 61) (v := (.pointer (some ⟨g69, o70 + ((j : Int)).toNat * 1, none⟩))) rfl (e_indexAddrW (E := 23) (by kernel_rfl) (by kernel_rfl) (Nat.le_of_ble_eq_true rfl) rfl e72 rfl (by omega) (by omega)) ?_
        refine wl_pure (wants0 rfl) (d := 62) (v := (.int .u64 ((ls.getD j 0)))) rfl (e_load1 rfl (by kernel_rfl) (H59.cellR 0 rfl (cells_at R73 0 (by kernel_rfl) (show o70 + ((j : Int)).toNat * 1 = o70 + j * 1 + 0 by omega)) (fun h => h))) ?_
        refine wl_pure (wants0 rfl) (d := 15) (v := (.int .u64 ((ls.getD j 0)))) rfl (by kernel_rfl) ?_
        refine w_nil ?_
        refine then_normal ?_
        refine w_lit ?_
        refine wl_pure (wants0 rfl) (d := 63) (v := (.slice a2 ((honL hs k ++ lieL ls j).length) c2)) rfl (by kernel_rfl) ?_
        refine wl_pure (wants0 rfl) (d := 64) (v := (.int .u64 ((ls.getD j 0)))) rfl (by kernel_rfl) ?_
        refine wl_do (wants0 rfl) (fun K74 hK74 => ?_)
        refine d_buildSlice (e := 23) (size := 1) (bytes := 8) (z := (.int .u64 (0))) (pvs := [(0, (.int .u64 ((ls.getD j 0))))]) (vs := ([(.int .u64 ((ls.getD j 0)))] : List Value)) rfl H59 (by kernel_rfl) (by kernel_rfl) (by kernel_rfl) (by kernel_rfl) (by kernel_rfl) rfl rfl ?_
        intro b75 w76 (H77 : Sat w [restC w (fun _ => False), rowC 23 1 (.slice a2 ((honL hs k ++ lieL ls j).length) c2) ((honL hs k ++ lieL ls j).length) ((honL hs k ++ lieL ls j).flatMap encU), rowC 23 1 (.slice (some ⟨b75, 0, none⟩) 1 1) 1 ([(.int .u64 ((ls.getD j 0)))] : List Value)] w76)
        refine hK74 _ _ ?_
        clear hK74 K74
        refine wl_do (wants0 rfl) (fun K78 hK78 => ?_)
        refine d_append (T := 22) (e := 23) (size := 1) (bytes := 8) rfl H77 (by kernel_rfl) 1 2 rfl rfl rfl rfl (by kernel_rfl) (by omega) (by omega) ?_
        intro v79 w80 (H81 : Sat w [restC w (fun _ => False), rowC 23 1 v79 ((honL hs k ++ lieL ls j).length + 1) (((honL hs k ++ lieL ls j).flatMap encU) ++ ([(.int .u64 ((ls.getD j 0)))] : List Value)), rowC 23 1 (.slice (some ⟨b75, 0, none⟩) 1 1) 1 ([(.int .u64 ((ls.getD j 0)))] : List Value)] w80)
        have H84 : Sat w [restC w (fun _ => False), rowC 23 1 v79 (((honL hs k ++ lieL ls j) ++ [(ls.getD j 0)]).length) (((honL hs k ++ lieL ls j) ++ [(ls.getD j 0)]).flatMap encU), rowC 23 1 (.slice (some ⟨b75, 0, none⟩) 1 1) 1 ([(.int .u64 ((ls.getD j 0)))] : List Value)] w80 := H81.cast (by simp only [List.length_append, List.flatMap_append] <;> rfl)
        obtain ⟨a82, c83, rfl⟩ := ownsRow_shape (H84.at 1 rfl)
        refine hK78 _ _ ?_
        clear hK78 K78
        refine wl_pure (wants0 rfl) (d := 9) (v := (.slice a82 (((honL hs k ++ lieL ls j) ++ [(ls.getD j 0)]).length) c83)) rfl (by kernel_rfl) ?_
        refine w_nil ?_
        refine blk_normal ?_
        refine then_normal ?_
        refine w_lit ?_
        refine wl_pure (wants0 rfl) (d := 53) (v := (.int .i64 ((j : Int)))) rfl (by kernel_rfl) ?_
        refine wl_pure (wants0 rfl) (d := 54) (v := (.int .i64 ((j : Int) + 1))) rfl (e_int (z := (j : Int) + 1) (by kernel_rfl) (IntWalk.i64_in _ (by omega))) ?_
        refine wl_pure (wants0 rfl) (d := 14) (v := (.int .i64 ((j : Int) + 1))) rfl (by kernel_rfl) ?_
        refine w_nil ?_
        have hx : lieT ls j = (ls.getD j 0) := by unfold lieT; rw [if_pos (by omega)]
        have H85 : Sat w [restC w (fun _ => False), rowC 23 1 (.slice a82 ((honL hs k ++ lieL ls (j + 1)).length) c83) ((honL hs k ++ lieL ls (j + 1)).length) ((honL hs k ++ lieL ls (j + 1)).flatMap encU), rowC 23 1 (.slice (some ⟨b75, 0, none⟩) 1 1) 1 ([(.int .u64 ((ls.getD j 0)))] : List Value)] w80 := H84.cast (by rw [lieL_step, hx, ← List.append_assoc])
        have H86 : Sat w [restC w (fun _ => False), rowC 23 1 (.slice a82 ((honL hs k ++ lieL ls (j + 1)).length) c83) ((honL hs k ++ lieL ls (j + 1)).length) ((honL hs k ++ lieL ls (j + 1)).flatMap encU)] w80 := H85.pick [0, 1] (by decide)
        refine round_back ?_ _ ⟨(j + 1), a82, c83, (show ((.int .i64 ((j : Int) + 1)) : Value) = _ by first | rfl | go_num), (show ((.slice a82 (((honL hs k ++ lieL ls j) ++ [(ls.getD j 0)]).length) c83) : Value) = _ by exact (show ((.slice a82 (((honL hs k ++ lieL ls j) ++ [(ls.getD j 0)]).length) c83) : Value) = Value.slice a82 (honL hs k ++ lieL ls (j + 1)).length c83 by rw [lieL_step, hx, ← List.append_assoc])), by omega, H86, rfl⟩ (by omega)
        exact (same_upd rfl (same_upd rfl (same_upd rfl (same_upd rfl (same_upd rfl (same_upd rfl (same_upd rfl (same_upd rfl (same_upd rfl (same_upd rfl (same_upd rfl (same_upd rfl (same_upd rfl (same_upd rfl (same_upd rfl (same_upd rfl (same_upd rfl (same_upd rfl (same_upd rfl (same_upd rfl (same_upd rfl (same_upd rfl (same_upd rfl (same_upd rfl (same_upd rfl (same_ovr))))))))))))))))))))))))))
      · have g87 := of_decide_eq_false b66
        refine wp_know 58 (.bool false) (congrArg Value.bool b66) ?_
        have g88 := of_decide_eq_false b66
        refine wp_iff rfl ?_
        refine w_skip ?_
        refine then_normal ?_
        refine w_lit ?_
        refine wl_pure (wants0 rfl) (d := 63) (v := (.slice a2 ((honL hs k ++ lieL ls j).length) c2)) rfl (by kernel_rfl) ?_
        refine wl_pure (wants0 rfl) (d := 64) (v := (.int .u64 (0))) rfl (by kernel_rfl) ?_
        refine wl_do (wants0 rfl) (fun K89 hK89 => ?_)
        refine d_buildSlice (e := 23) (size := 1) (bytes := 8) (z := (.int .u64 (0))) (pvs := [(0, (.int .u64 (0)))]) (vs := ([(.int .u64 (0))] : List Value)) rfl H59 (by kernel_rfl) (by kernel_rfl) (by kernel_rfl) (by kernel_rfl) (by kernel_rfl) rfl rfl ?_
        intro b90 w91 (H92 : Sat w [restC w (fun _ => False), rowC 23 1 (.slice a2 ((honL hs k ++ lieL ls j).length) c2) ((honL hs k ++ lieL ls j).length) ((honL hs k ++ lieL ls j).flatMap encU), rowC 23 1 (.slice (some ⟨b90, 0, none⟩) 1 1) 1 ([(.int .u64 (0))] : List Value)] w91)
        refine hK89 _ _ ?_
        clear hK89 K89
        refine wl_do (wants0 rfl) (fun K93 hK93 => ?_)
        refine d_append (T := 22) (e := 23) (size := 1) (bytes := 8) rfl H92 (by kernel_rfl) 1 2 rfl rfl rfl rfl (by kernel_rfl) (by omega) (by omega) ?_
        intro v94 w95 (H96 : Sat w [restC w (fun _ => False), rowC 23 1 v94 ((honL hs k ++ lieL ls j).length + 1) (((honL hs k ++ lieL ls j).flatMap encU) ++ ([(.int .u64 (0))] : List Value)), rowC 23 1 (.slice (some ⟨b90, 0, none⟩) 1 1) 1 ([(.int .u64 (0))] : List Value)] w95)
        have H99 : Sat w [restC w (fun _ => False), rowC 23 1 v94 (((honL hs k ++ lieL ls j) ++ [(0 : Int)]).length) (((honL hs k ++ lieL ls j) ++ [(0 : Int)]).flatMap encU), rowC 23 1 (.slice (some ⟨b90, 0, none⟩) 1 1) 1 ([(.int .u64 (0))] : List Value)] w95 := H96.cast (by simp only [List.length_append, List.flatMap_append] <;> rfl)
        obtain ⟨a97, c98, rfl⟩ := ownsRow_shape (H99.at 1 rfl)
        refine hK93 _ _ ?_
        clear hK93 K93
        refine wl_pure (wants0 rfl) (d := 9) (v := (.slice a97 (((honL hs k ++ lieL ls j) ++ [(0 : Int)]).length) c98)) rfl (by kernel_rfl) ?_
        refine w_nil ?_
        refine blk_normal ?_
        refine then_normal ?_
        refine w_lit ?_
        refine wl_pure (wants0 rfl) (d := 53) (v := (.int .i64 ((j : Int)))) rfl (by kernel_rfl) ?_
        refine wl_pure (wants0 rfl) (d := 54) (v := (.int .i64 ((j : Int) + 1))) rfl (e_int (z := (j : Int) + 1) (by kernel_rfl) (IntWalk.i64_in _ (by omega))) ?_
        refine wl_pure (wants0 rfl) (d := 14) (v := (.int .i64 ((j : Int) + 1))) rfl (by kernel_rfl) ?_
        refine w_nil ?_
        have hx : lieT ls j = 0 := by unfold lieT; rw [if_neg (by omega)]
        have H100 : Sat w [restC w (fun _ => False), rowC 23 1 (.slice a97 ((honL hs k ++ lieL ls (j + 1)).length) c98) ((honL hs k ++ lieL ls (j + 1)).length) ((honL hs k ++ lieL ls (j + 1)).flatMap encU), rowC 23 1 (.slice (some ⟨b90, 0, none⟩) 1 1) 1 ([(.int .u64 (0))] : List Value)] w95 := H99.cast (by rw [lieL_step, hx, ← List.append_assoc])
        have H101 : Sat w [restC w (fun _ => False), rowC 23 1 (.slice a97 ((honL hs k ++ lieL ls (j + 1)).length) c98) ((honL hs k ++ lieL ls (j + 1)).length) ((honL hs k ++ lieL ls (j + 1)).flatMap encU)] w95 := H100.pick [0, 1] (by decide)
        refine round_back ?_ _ ⟨(j + 1), a97, c98, (show ((.int .i64 ((j : Int) + 1)) : Value) = _ by first | rfl | go_num), (show ((.slice a97 (((honL hs k ++ lieL ls j) ++ [(0 : Int)]).length) c98) : Value) = _ by exact (show ((.slice a97 (((honL hs k ++ lieL ls j) ++ [(0 : Int)]).length) c98) : Value) = Value.slice a97 (honL hs k ++ lieL ls (j + 1)).length c98 by rw [lieL_step, hx, ← List.append_assoc])), by omega, H101, rfl⟩ (by omega)
        exact (same_upd rfl (same_upd rfl (same_upd rfl (same_upd rfl (same_upd rfl (same_upd rfl (same_upd rfl (same_upd rfl (same_upd rfl (same_upd rfl (same_upd rfl (same_upd rfl (same_upd rfl (same_upd rfl (same_upd rfl (same_upd rfl (same_upd rfl (same_upd rfl (same_upd rfl (same_upd rfl (same_ovr)))))))))))))))))))))
    · have g102 := of_decide_eq_false b63
      refine wp_know 52 (.bool false) (congrArg Value.bool b63) ?_
      have g103 := of_decide_eq_false b63
      refine wp_iff rfl ?_
      refine w_exit ?_
      refine then_exit ?_
      refine back_exit ?_
      refine blk_hit ?_
      refine then_normal ?_
      refine w_seq ?_
      have hj1 : j = F := by omega
      have hkl := honL_len hs k
      have hjl := lieL_len ls j
      have hL : (honL hs k ++ lieL ls j).length = 2 * F + 1 := by rw [List.length_append]; omega
      obtain ⟨t, ht⟩ : ∃ t : Nat, (t : Int) = withinV turn ((honL hs k ++ lieL ls j).length : Int) := ⟨(withinV turn ((honL hs k ++ lieL ls j).length : Int)).toNat, by have := within_lim turn ((honL hs k ++ lieL ls j).length : Int) (by omega); omega⟩
      have htl : t < (honL hs k ++ lieL ls j).length := by have := within_lim turn ((honL hs k ++ lieL ls j).length : Int) (by omega); omega
      have hbt := medV_between (hs := honL hs k) (ls := lieL ls j) (f := F) (by omega) (by omega) (honL_bd _)
      have hM := turn_perm (honL hs k ++ lieL ls j) t
      have hMl := hM.length_eq
      refine w_lit ?_
      refine wl_pure (wants0 rfl) (d := 67) (v := (.int .i64 (turn))) rfl (by kernel_rfl) ?_
      refine wl_pure (wants0 rfl) (d := 68) (v := (.slice a2 ((honL hs k ++ lieL ls j).length) c2)) rfl (by kernel_rfl) ?_
      refine wl_pure (wants0 rfl) (d := 69) (v := (.int .i64 (((honL hs k ++ lieL ls j).length : Int)))) rfl (by kernel_rfl) ?_
      refine wl_do (wants0 rfl) (fun K104 hK104 => ?_)
      refine d_call (d := 70) rfl (by kernel_rfl) (within_any w58 turn ((honL hs k ++ lieL ls j).length : Int) (by omega)) ?_
      rintro _ w105 ⟨rfl, u107⟩
      have H106 := H59.keepU u107
      refine ⟨_, rfl, ?_⟩
      refine hK104 _ _ ?_
      clear hK104 K104
      refine wl_pure (wants0 rfl) (d := 16) (v := (.int .i64 (withinV turn ((honL hs k ++ lieL ls j).length : Int)))) rfl (by kernel_rfl) ?_
      refine w_nil ?_
      refine then_normal ?_
      refine w_seq ?_
      refine wp_know 16 (.int .i64 ((t : Int))) (show ((.int .i64 (withinV turn ((honL hs k ++ lieL ls j).length : Int))) : Value) = _ by rw [ht]) ?_
      obtain ⟨g108, c109, e110⟩ := row_shape (H106.at 1 rfl) (by omega)
      obtain rfl : a2 = some ⟨g108, 0, none⟩ := by cases e110; rfl
      have H111 : Sat w [restC w (fun _ => False), rowU g108 ((honL hs k ++ lieL ls j).length) c2 (honL hs k ++ lieL ls j)] w105 := H106
      have hcap : ((honL hs k ++ lieL ls j).length) ≤ c2 := ListAt.cap (ListAt.row (enc := encU) (sz := 1) encU_len (by decide) (H111.at 1 rfl))
      refine h_start H111 [restC w (fun _ => False), rowU g108 ((honL hs k ++ lieL ls j).length) c2 (honL hs k ++ lieL ls j)] 14 rfl (by kernel_rfl) (fun Hx => (Hx.pick [0, 1] (by decide))) ?_
      intro w112 H113 S114
      refine h_val 0 rfl (by kernel_rfl) (by kernel_rfl) (by kernel_rfl) (fun _ _ _ h => h) S114 (wants0 rfl) (d := 72) (v := (.slice (some ⟨g108, 0, none⟩) ((honL hs k ++ lieL ls j).length) c2)) rfl (fun _ H' => (by kernel_rfl)) ?_
      refine h_val 1 rfl (by kernel_rfl) (by kernel_rfl) (by kernel_rfl) (fun _ _ _ h => h) S114 (wants0 rfl) (d := 73) (v := (.int .i64 ((t : Int)))) rfl (fun _ H' => (by kernel_rfl)) ?_
      refine h_val 2 rfl (by kernel_rfl) (by kernel_rfl) (by kernel_rfl) (fun _ _ _ h => h) S114 (wants0 rfl) (d := 74) (v := (.slice (some (if c2 = t then ⟨g108, 0, none⟩ else ⟨g108, 0 + t * 1, none⟩)) (((honL hs k ++ lieL ls j).length) - t) (c2 - t))) rfl (fun _ H' => (e_sliceLo (E := 23) (q := t) (by kernel_rfl) (by kernel_rfl) rfl rfl (by omega) (by omega))) ?_
      refine h_val 4 rfl (by kernel_rfl) (by kernel_rfl) (by kernel_rfl) (fun _ _ _ h => h) S114 (wants0 rfl) (d := 76) (v := (.slice (some ⟨g108, 0, none⟩) ((honL hs k ++ lieL ls j).length) c2)) rfl (fun _ H' => (by kernel_rfl)) ?_
      refine h_val 5 rfl (by kernel_rfl) (by kernel_rfl) (by kernel_rfl) (fun _ _ _ h => h) S114 (wants0 rfl) (d := 77) (v := (.int .i64 ((t : Int)))) rfl (fun _ H' => (by kernel_rfl)) ?_
      refine h_val 6 rfl (by kernel_rfl) (by kernel_rfl) (by kernel_rfl) (fun _ _ _ h => h) S114 (wants0 rfl) (d := 78) (v := (.slice (some ⟨g108, 0, none⟩) t c2)) rfl (fun _ H' => (e_sliceHi (E := 23) (q := t) (by kernel_rfl) (by kernel_rfl) rfl rfl (by omega) (by omega))) ?_
      refine h_do 3 rfl (by kernel_rfl) (wants0 rfl) (fun K115 hK115 => ?_)
      refine d_call (d := 75) rfl (by kernel_rfl) (copyU_any w112 (.slice (some (if c2 = t then ⟨g108, 0, none⟩ else ⟨g108, 0 + t * 1, none⟩)) (((honL hs k ++ lieL ls j).length) - t) (c2 - t)) ((honL hs k ++ lieL ls j).drop t) (ListAt.drop (ListAt.row (enc := encU) (sz := 1) encU_len (by decide) (H113.at 1 rfl)) (by omega)) (by first | omega | (simp only [List.length_drop, List.length_append]; omega))) ?_
      rintro _ w116 ⟨u117, rfl, k118, p119, q120⟩
      have H121 : Sat w [restC w (fun _ => False), rowU g108 ((honL hs k ++ lieL ls j).length) c2 (honL hs k ++ lieL ls j), rowC 23 1 u117 (((honL hs k ++ lieL ls j).drop t).length) (((honL hs k ++ lieL ls j).drop t).flatMap encU)] w116 := H113.addU p119 k118 q120
      obtain ⟨a122, c123, rfl⟩ := ownsRow_shape (H121.at 2 rfl)
      refine ⟨_, rfl, ?_⟩
      have S124 := H121.pick [0, 1] (by decide)
      refine hK115 _ _ S124 ?_
      clear hK115 K115
      refine h_do 7 rfl (by kernel_rfl) (wants0 rfl) (fun K125 hK125 => ?_)
      refine d_appendL (T := 22) (e := 23) (size := 1) (bytes := 8) rfl H121 (by kernel_rfl) encU_len encU_one 2 rfl (ListAt.take (ListAt.row (enc := encU) (sz := 1) encU_len (by decide) (H121.at 1 rfl)) (by omega)) rfl rfl (by simp only [List.length_drop, List.length_take]; omega) (by simp only [List.length_drop, List.length_take]; omega) ?_
      intro v126 w127 (H129 : Sat w [restC w (fun _ => False), rowU g108 ((honL hs k ++ lieL ls j).length) c2 (honL hs k ++ lieL ls j), rowC 23 1 v126 (((honL hs k ++ lieL ls j).drop t).length + ((honL hs k ++ lieL ls j).take t).length) (((honL hs k ++ lieL ls j).drop t).flatMap encU ++ ((honL hs k ++ lieL ls j).take t).flatMap encU)] w127)
      have H128 : Sat w [restC w (fun _ => False), rowU g108 ((honL hs k ++ lieL ls j).length) c2 (honL hs k ++ lieL ls j), rowC 23 1 v126 ((((honL hs k ++ lieL ls j).drop t) ++ ((honL hs k ++ lieL ls j).take t)).length) ((((honL hs k ++ lieL ls j).drop t) ++ ((honL hs k ++ lieL ls j).take t)).flatMap encU)] w127 := H129.cast (by simp only [List.length_append, List.flatMap_append])
      obtain ⟨a130, c131, rfl⟩ := ownsRow_shape (H128.at 2 rfl)
      have S132 := H128.pick [0, 1] (by decide)
      refine hK125 _ _ S132 ?_
      clear hK125 K125
      refine h_do 8 rfl (by kernel_rfl) (wants0 rfl) (fun K133 hK133 => ?_)
      refine d_call (d := 80) rfl (by kernel_rfl) (medC_any w127 (.slice a130 ((((honL hs k ++ lieL ls j).drop t) ++ ((honL hs k ++ lieL ls j).take t)).length) c131) (((honL hs k ++ lieL ls j).drop t) ++ ((honL hs k ++ lieL ls j).take t)) (ListAt.row (enc := encU) (sz := 1) encU_len (by decide) (H128.at 2 rfl)) (by first | omega | (simp only [List.length_take, List.length_drop, List.length_append]; omega))) ?_
      rintro _ w134 ⟨rfl, u136⟩
      have H135 := H128.keepU u136
      refine ⟨_, rfl, ?_⟩
      have S137 := H135.pick [0, 1] (by decide)
      refine hK133 _ _ S137 ?_
      clear hK133 K133
      refine h_val 9 rfl (by kernel_rfl) (by kernel_rfl) (by kernel_rfl) (fun _ _ _ h => h) S137 (wants0 rfl) (d := 71) (v := (.tuple #[(.int .u64 (medV (((honL hs k ++ lieL ls j).drop t) ++ ((honL hs k ++ lieL ls j).take t)))), (.bool (decide ((((honL hs k ++ lieL ls j).drop t) ++ ((honL hs k ++ lieL ls j).take t)).length % 2 = 1)))])) rfl (fun _ H' => (by kernel_rfl)) ?_
      refine h_val 10 rfl (by kernel_rfl) (by kernel_rfl) (by kernel_rfl) (fun _ _ _ h => h) S137 (wants0 rfl) (d := 81) (v := (.int .u64 (medV (((honL hs k ++ lieL ls j).drop t) ++ ((honL hs k ++ lieL ls j).take t))))) rfl (fun _ H' => (by kernel_rfl)) ?_
      refine h_val 11 rfl (by kernel_rfl) (by kernel_rfl) (by kernel_rfl) (fun _ _ _ h => h) S137 (wants0 rfl) (d := 82) (v := (.bool (decide ((((honL hs k ++ lieL ls j).drop t) ++ ((honL hs k ++ lieL ls j).take t)).length % 2 = 1)))) rfl (fun _ H' => (by kernel_rfl)) ?_
      refine h_val 12 rfl (by kernel_rfl) (by kernel_rfl) (by kernel_rfl) (fun _ _ _ h => h) S137 (wants0 rfl) (d := 17) (v := (.int .u64 (medV (((honL hs k ++ lieL ls j).drop t) ++ ((honL hs k ++ lieL ls j).take t))))) rfl (fun _ H' => (by kernel_rfl)) ?_
      refine h_val 13 rfl (by kernel_rfl) (by kernel_rfl) (by kernel_rfl) (fun _ _ _ h => h) S137 (wants0 rfl) (d := 18) (v := (.bool (decide ((((honL hs k ++ lieL ls j).drop t) ++ ((honL hs k ++ lieL ls j).take t)).length % 2 = 1)))) rfl (fun _ H' => (by kernel_rfl)) ?_
      refine h_fin (by kernel_rfl) ?_
      refine then_normal ?_
      refine w_seq ?_
      refine w_lit ?_
      refine wl_pure (wants0 rfl) (d := 84) (v := (.slice (some ⟨g108, 0, none⟩) ((honL hs k ++ lieL ls j).length) c2)) rfl (by kernel_rfl) ?_
      refine wl_do (wants0 rfl) (fun K138 hK138 => ?_)
      refine d_call (d := 85) rfl (by kernel_rfl) (medC_any w134 (.slice (some ⟨g108, 0, none⟩) ((honL hs k ++ lieL ls j).length) c2) (honL hs k ++ lieL ls j) (ListAt.row (enc := encU) (sz := 1) encU_len (by decide) (H135.at 1 rfl)) (by first | omega | (simp only [List.length_take, List.length_drop, List.length_append]; omega))) ?_
      rintro _ w139 ⟨rfl, u141⟩
      have H140 := H135.keepU u141
      refine ⟨_, rfl, ?_⟩
      refine hK138 _ _ ?_
      clear hK138 K138
      refine wl_pure (wants0 rfl) (d := 83) (v := (.tuple #[(.int .u64 (medV (honL hs k ++ lieL ls j))), (.bool (decide ((honL hs k ++ lieL ls j).length % 2 = 1)))])) rfl (by kernel_rfl) ?_
      refine wl_pure (wants0 rfl) (d := 86) (v := (.int .u64 (medV (honL hs k ++ lieL ls j)))) rfl (by kernel_rfl) ?_
      refine wl_pure (wants0 rfl) (d := 87) (v := (.bool (decide ((honL hs k ++ lieL ls j).length % 2 = 1)))) rfl (by kernel_rfl) ?_
      refine wl_pure (wants0 rfl) (d := 19) (v := (.int .u64 (medV (honL hs k ++ lieL ls j)))) rfl (by kernel_rfl) ?_
      refine wl_pure (wants0 rfl) (d := 20) (v := (.bool (decide ((honL hs k ++ lieL ls j).length % 2 = 1)))) rfl (by kernel_rfl) ?_
      refine w_nil ?_
      refine then_normal ?_
      refine w_seq ?_
      refine w_lit ?_
      refine wl_pure (wants0 rfl) (d := 88) (v := (.bool (decide ((((honL hs k ++ lieL ls j).drop t) ++ ((honL hs k ++ lieL ls j).take t)).length % 2 = 1)))) rfl (by kernel_rfl) ?_
      refine wl_pure (wants0 rfl) (d := 89) (v := (.bool (decide ((((honL hs k ++ lieL ls j).drop t) ++ ((honL hs k ++ lieL ls j).take t)).length % 2 = 1)))) rfl (by kernel_rfl) ?_
      have b142 : (decide ((((honL hs k ++ lieL ls j).drop t) ++ ((honL hs k ++ lieL ls j).take t)).length % 2 = 1)) = true := by exact decide_eq_true (by omega)
      refine wl_know 89 (.bool true) (congrArg Value.bool b142) ?_
      refine wl_pure (wantsY 1 89 true rfl (by kernel_rfl) rfl (by kernel_rfl)) (d := 90) (v := (.bool (decide ((honL hs k ++ lieL ls j).length % 2 = 1)))) rfl (by kernel_rfl) ?_
      refine wl_pure (wants0 rfl) (d := 91) (v := (.bool (decide ((honL hs k ++ lieL ls j).length % 2 = 1)))) rfl (by kernel_rfl) ?_
      refine wl_pure (wants0 rfl) (d := 92) (v := (.bool (decide ((honL hs k ++ lieL ls j).length % 2 = 1)))) rfl (by kernel_rfl) ?_
      have b143 : (decide ((honL hs k ++ lieL ls j).length % 2 = 1)) = true := by exact decide_eq_true (by omega)
      refine wl_know 92 (.bool true) (congrArg Value.bool b143) ?_
      refine wl_pure (wantsY 4 92 true rfl (by kernel_rfl) rfl (by kernel_rfl)) (d := 93) (v := (.int .u64 (medV (((honL hs k ++ lieL ls j).drop t) ++ ((honL hs k ++ lieL ls j).take t))))) rfl (by kernel_rfl) ?_
      refine wl_pure (wantsY 4 92 true rfl (by kernel_rfl) rfl (by kernel_rfl)) (d := 94) (v := (.int .u64 (medV (honL hs k ++ lieL ls j)))) rfl (by kernel_rfl) ?_
      refine wl_pure (wantsY 4 92 true rfl (by kernel_rfl) rfl (by kernel_rfl)) (d := 95) (v := (.bool (decide ((medV (((honL hs k ++ lieL ls j).drop t) ++ ((honL hs k ++ lieL ls j).take t))) = (medV (honL hs k ++ lieL ls j)))))) rfl (by kernel_rfl) ?_
      refine wl_pure (wants0 rfl) (d := 96) (v := (.bool (decide ((medV (((honL hs k ++ lieL ls j).drop t) ++ ((honL hs k ++ lieL ls j).take t))) = (medV (honL hs k ++ lieL ls j)))))) rfl (by kernel_rfl) ?_
      refine wl_pure (wants0 rfl) (d := 97) (v := (.bool (decide ((medV (((honL hs k ++ lieL ls j).drop t) ++ ((honL hs k ++ lieL ls j).take t))) = (medV (honL hs k ++ lieL ls j)))))) rfl (by kernel_rfl) ?_
      have b144 : (decide ((medV (((honL hs k ++ lieL ls j).drop t) ++ ((honL hs k ++ lieL ls j).take t))) = (medV (honL hs k ++ lieL ls j)))) = true := by exact decide_eq_true (medV_perm hM)
      refine wl_know 97 (.bool true) (congrArg Value.bool b144) ?_
      have g145 := of_decide_eq_true b144
      refine wl_pure (wantsY 9 97 true rfl (by kernel_rfl) rfl (by kernel_rfl)) (d := 98) (v := (.int .u64 (medV (((honL hs k ++ lieL ls j).drop t) ++ ((honL hs k ++ lieL ls j).take t))))) rfl (by kernel_rfl) ?_
      refine wl_pure (wantsY 9 97 true rfl (by kernel_rfl) rfl (by kernel_rfl)) (d := 99) (v := (.int .u64 (lowV (honL hs k)))) rfl (by kernel_rfl) ?_
      refine wl_pure (wantsY 9 97 true rfl (by kernel_rfl) rfl (by kernel_rfl)) (d := 100) (v := (.bool (decide ((medV (((honL hs k ++ lieL ls j).drop t) ++ ((honL hs k ++ lieL ls j).take t))) ≥ (lowV (honL hs k)))))) rfl (by kernel_rfl) ?_
      refine wl_pure (wants0 rfl) (d := 101) (v := (.bool (decide ((medV (((honL hs k ++ lieL ls j).drop t) ++ ((honL hs k ++ lieL ls j).take t))) ≥ (lowV (honL hs k)))))) rfl (by kernel_rfl) ?_
      refine wl_pure (wants0 rfl) (d := 102) (v := (.bool (decide ((medV (((honL hs k ++ lieL ls j).drop t) ++ ((honL hs k ++ lieL ls j).take t))) ≥ (lowV (honL hs k)))))) rfl (by kernel_rfl) ?_
      have b146 : (decide ((medV (((honL hs k ++ lieL ls j).drop t) ++ ((honL hs k ++ lieL ls j).take t))) ≥ (lowV (honL hs k)))) = true := by rw [medV_perm hM]; exact decide_eq_true hbt.1
      refine wl_know 102 (.bool true) (congrArg Value.bool b146) ?_
      have g147 := of_decide_eq_true b146
      refine wl_pure (wantsY 14 102 true rfl (by kernel_rfl) rfl (by kernel_rfl)) (d := 103) (v := (.int .u64 (medV (((honL hs k ++ lieL ls j).drop t) ++ ((honL hs k ++ lieL ls j).take t))))) rfl (by kernel_rfl) ?_
      refine wl_pure (wantsY 14 102 true rfl (by kernel_rfl) rfl (by kernel_rfl)) (d := 104) (v := (.int .u64 (highV (honL hs k)))) rfl (by kernel_rfl) ?_
      refine wl_pure (wantsY 14 102 true rfl (by kernel_rfl) rfl (by kernel_rfl)) (d := 105) (v := (.bool (decide ((medV (((honL hs k ++ lieL ls j).drop t) ++ ((honL hs k ++ lieL ls j).take t))) ≤ (highV (honL hs k)))))) rfl (by kernel_rfl) ?_
      refine wl_pure (wants0 rfl) (d := 106) (v := (.bool (decide ((medV (((honL hs k ++ lieL ls j).drop t) ++ ((honL hs k ++ lieL ls j).take t))) ≤ (highV (honL hs k)))))) rfl (by kernel_rfl) ?_
      refine wl_pure (wants0 rfl) (d := 107) (v := (.bool (decide ((medV (((honL hs k ++ lieL ls j).drop t) ++ ((honL hs k ++ lieL ls j).take t))) ≤ (highV (honL hs k)))))) rfl (by kernel_rfl) ?_
      have b148 : (decide ((medV (((honL hs k ++ lieL ls j).drop t) ++ ((honL hs k ++ lieL ls j).take t))) ≤ (highV (honL hs k)))) = true := by rw [medV_perm hM]; exact decide_eq_true hbt.2
      refine wl_know 107 (.bool true) (congrArg Value.bool b148) ?_
      have g149 := of_decide_eq_true b148
      refine wl_do (wantsY 19 107 true rfl (by kernel_rfl) rfl (by kernel_rfl)) (fun K150 hK150 => ?_)
      refine d_call (d := 108) rfl (by kernel_rfl) (wakes_any w139) ?_
      rintro _ w151 ⟨rfl, u153⟩
      have H152 := H140.keepU u153
      refine ⟨_, rfl, ?_⟩
      refine hK150 _ _ ?_
      clear hK150 K150
      refine wl_pure (wants0 rfl) (d := 109) (v := (.bool true)) rfl (by kernel_rfl) ?_
      refine wl_pure (wants0 rfl) (d := 8) (v := (.bool true)) rfl (by kernel_rfl) ?_
      refine w_nil ?_
      refine then_normal ?_
      refine w_ret ?_
      refine end1 rfl (res_tmp (v := (.bool true)) rfl) ?_
      exact ⟨rfl, H152.upd 0 rfl [] (fun _ h => h.elim)⟩

end Go.Proofs.Ytbpeofcoceaahaa
