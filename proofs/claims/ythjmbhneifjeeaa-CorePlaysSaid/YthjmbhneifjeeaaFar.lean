/- WHAT IS PROVED: asking for the greatest round far ahead. Conditions: stated with each. -/
import Derived.Test.YthjmbhneifjeeaaCoreMem
import Derived.Test.YthjmbhneifjeeaaTally
namespace Go.Proofs.Ythjmbhneifjeeaa
open Go.RowKit

set_option maxRecDepth 100000 in
set_option maxHeartbeats 400000 in
theorem tallyFar_any (w : World) (t hb cb ab lb : Nat) (T : TallyS) (hT : (tallyC t hb cb ab lb T).ok w) (above many : Int) (hl : T.last.length ≤ 1000000000) :
    Calls Try.prog 64 #[(.pointer (some ⟨t, 0, none⟩)), (.int .i64 (above)), (.int .i64 (many))] w fun e w' => e = .returned (.int .i64 (farS T above many T.last)) ∧ Upd [] w w' := by
  obtain ⟨hcell, hm1, hm2, hm3, hm4⟩ := tallyC_parts hT
  have H := Sat.start0 w
  refine calls_fr Try.func64 rfl 36 rfl (Nat.le_of_ble_eq_true rfl) ?_
  refine w_seq ?_
  refine w_lit ?_
  refine wl_pure (wants0 rfl) (d := 6) (v := (.int .i64 (0))) rfl (by kernel_rfl) ?_
  refine w_nil ?_
  refine then_normal ?_
  refine w_seq ?_
  refine w_lit ?_
  refine wl_pure (wants0 rfl) (d := 7) (v := (.int .i64 (-1))) rfl (by kernel_rfl) ?_
  refine w_nil ?_
  refine then_normal ?_
  refine w_seq ?_
  refine w_seq ?_
  refine w_lit ?_
  refine wl_pure (wants0 rfl) (d := 10) (v := (.pointer (some ⟨t, 0, none⟩))) rfl (by kernel_rfl) ?_
  refine wl_pure (wants0 rfl) (d := 11) (v := (.pointer (some ⟨t, 0, none⟩))) rfl (by kernel_rfl) ?_
  refine wl_pure (wants0 rfl) (d := 12) (v := (.pointer (some ⟨t, 5, none⟩))) rfl (by kernel_rfl) ?_
  refine wl_pure (wants0 rfl) (d := 13) (v := (.map (some lb))) rfl (e_load1 rfl (by kernel_rfl) (H.roCell 0 rfl hcell (fun h => h) rfl)) ?_
  refine wl_do (wants0 rfl) (fun K1 hK1 => ?_)
  refine d_rangeR (kt := 3) (et := 3) rfl H 0 rfl hm4 (fun h => h) (by kernel_rfl) rfl ?_
  intro r2 w3 (H4 : Sat w [restC w (fun _ => False), iterR w r2 lb (Value.int .i64) (Value.int .i64) T.last []] w3)
  refine hK1 _ _ ?_
  clear hK1 K1
  refine w_nil ?_
  refine then_normal ?_
  refine w_block ?_
  refine wp_round [7, 9, 15, 16, 17, 18, 19, 20, 21, 22, 23, 24, 25, 26, 27, 28, 29, 30, 31, 32, 33, 34] (fun F_ W_ m_ => ∃ (seen rest : List (Int × Int)), F_ 7 = (.int .i64 (farS T above many seen)) ∧ ((T.last).Perm (seen ++ rest)) ∧ Sat w [restC w (fun _ => False), iterR w r2 lb (Value.int .i64) (Value.int .i64) T.last seen] W_ ∧ m_ = rest.length) _ ⟨[], T.last, (by first | rfl | go_num), (List.Perm.refl _), H4, rfl⟩ ?_
  rintro g5 w6 _ ⟨seen, rest, v8, hperm, H7, rfl⟩
  refine wp_know 7 _ v8 ?_
  refine w_seq ?_
  refine w_lit ?_
  refine wl_do (wants0 rfl) (fun K10 hK10 => ?_)
  refine d_nextR rfl H7 1 rfl 0 rfl (fun h => h) rfl ?_ ?_
  · intro p11
    refine hK10 _ _ ?_
    clear hK10 K10
    refine wl_pure (wants0 rfl) (d := 16) (v := (.bool false)) rfl (by kernel_rfl) ?_
    refine w_nil ?_
    refine then_normal ?_
    refine w_seq ?_
    refine wp_iff rfl ?_
    refine w_exit ?_
    refine then_exit ?_
    refine back_exit ?_
    refine blk_hit ?_
    refine then_normal ?_
    refine w_seq ?_
    refine w_lit ?_
    refine wl_pure (wants0 rfl) (d := 35) (v := (.int .i64 (farS T above many seen))) rfl (by kernel_rfl) ?_
    refine wl_pure (wants0 rfl) (d := 6) (v := (.int .i64 (farS T above many seen))) rfl (by kernel_rfl) ?_
    refine w_nil ?_
    refine then_normal ?_
    refine w_ret ?_
    refine end1 rfl (res_tmp (v := (.int .i64 (farS T above many seen))) rfl) ?_
    exact ⟨by rw [farS_perm T above many p11], H7.upd 0 rfl [] (fun _ h => h.elim)⟩
  · intro y12 t13 w14 p15 (H16 : Sat w [restC w (fun _ => False), iterR w r2 lb (Value.int .i64) (Value.int .i64) T.last (seen ++ [y12])] w14)
    refine hK10 _ _ ?_
    clear hK10 K10
    refine wl_pure (wants0 rfl) (d := 16) (v := (.bool true)) rfl (by kernel_rfl) ?_
    refine w_nil ?_
    refine then_normal ?_
    refine w_seq ?_
    refine wp_ift rfl ?_
    refine w_skip ?_
    refine then_normal ?_
    refine w_block ?_
    refine w_seq ?_
    refine w_lit ?_
    refine wl_pure (wants0 rfl) (d := 17) (v := (.tuple #[(.int .i64 (y12.1)), (.int .i64 (y12.2))])) rfl (H16.entryR 1 rfl 0 rfl (fun h => h) rfl) ?_
    refine wl_pure (wants0 rfl) (d := 18) (v := (.int .i64 (y12.2))) rfl (by kernel_rfl) ?_
    refine wl_pure (wants0 rfl) (d := 9) (v := (.int .i64 (y12.2))) rfl (by kernel_rfl) ?_
    refine w_nil ?_
    refine then_normal ?_
    refine wp_meetR [19, 20, 21, 22, 23, 24, 25, 26, 27, 28, 29, 30, 31, 32, 33] (fun G_ W_ => G_ 33 = (.bool (decide (y12.2 > above) && decide (y12.2 > farS T above many seen) && decide (heardT T y12.2 ≥ many))) ∧ Sat w [restC w (fun _ => False), iterR w r2 lb (Value.int .i64) (Value.int .i64) T.last (seen ++ [y12])] W_) ?_ ?_
    · refine w_lit ?_
      refine wl_pure (wants0 rfl) (d := 19) (v := (.int .i64 (y12.2))) rfl (by kernel_rfl) ?_
      refine wl_pure (wants0 rfl) (d := 20) (v := (.int .i64 (above))) rfl (by kernel_rfl) ?_
      refine wl_pure (wants0 rfl) (d := 21) (v := (.bool (decide (y12.2 > above)))) rfl (by kernel_rfl) ?_
      refine wl_pure (wants0 rfl) (d := 22) (v := (.bool (decide (y12.2 > above)))) rfl (by kernel_rfl) ?_
      refine (bsplit (decide (y12.2 > above))).elim (fun b18 => ?_) (fun b18 => ?_)
      · have g19 := of_decide_eq_true b18
        refine wl_know 22 (.bool true) (congrArg Value.bool b18) ?_
        refine wl_pure (wantsY 3 22 true rfl (by kernel_rfl) rfl (by kernel_rfl)) (d := 23) (v := (.int .i64 (y12.2))) rfl (by kernel_rfl) ?_
        refine wl_pure (wantsY 3 22 true rfl (by kernel_rfl) rfl (by kernel_rfl)) (d := 24) (v := (.int .i64 (farS T above many seen))) rfl (by kernel_rfl) ?_
        refine wl_pure (wantsY 3 22 true rfl (by kernel_rfl) rfl (by kernel_rfl)) (d := 25) (v := (.bool (decide (y12.2 > (farS T above many seen))))) rfl (by kernel_rfl) ?_
        refine wl_pure (wants0 rfl) (d := 26) (v := (.bool (decide (y12.2 > (farS T above many seen))))) rfl (by kernel_rfl) ?_
        refine wl_pure (wants0 rfl) (d := 27) (v := (.bool (decide (y12.2 > (farS T above many seen))))) rfl (by kernel_rfl) ?_
        refine (bsplit (decide (y12.2 > (farS T above many seen)))).elim (fun b20 => ?_) (fun b20 => ?_)
        · have g21 := of_decide_eq_true b20
          refine wl_know 27 (.bool true) (congrArg Value.bool b20) ?_
          refine wl_pure (wantsY 8 27 true rfl (by kernel_rfl) rfl (by kernel_rfl)) (d := 28) (v := (.pointer (some ⟨t, 0, none⟩))) rfl (by kernel_rfl) ?_
          refine wl_pure (wantsY 8 27 true rfl (by kernel_rfl) rfl (by kernel_rfl)) (d := 29) (v := (.int .i64 (y12.2))) rfl (by kernel_rfl) ?_
          refine wl_do (wantsY 8 27 true rfl (by kernel_rfl) rfl (by kernel_rfl)) (fun K22 hK22 => ?_)
          refine d_call (d := 30) rfl (by kernel_rfl) (tallyHeard_any w14 t hb cb ab lb T (H16.roCk 0 rfl hT (fun _ _ h => h)) y12.2 hl) ?_
          rintro _ w23 ⟨rfl, u25⟩
          have H24 := H16.keepU u25
          refine ⟨_, rfl, ?_⟩
          refine hK22 _ _ ?_
          clear hK22 K22
          refine wl_pure (wantsY 8 27 true rfl (by kernel_rfl) rfl (by kernel_rfl)) (d := 31) (v := (.int .i64 (many))) rfl (by kernel_rfl) ?_
          refine wl_pure (wantsY 8 27 true rfl (by kernel_rfl) rfl (by kernel_rfl)) (d := 32) (v := (.bool (decide ((heardT T y12.2) ≥ many)))) rfl (by kernel_rfl) ?_
          refine wl_pure (wants0 rfl) (d := 33) (v := (.bool (decide ((heardT T y12.2) ≥ many)))) rfl (by kernel_rfl) ?_
          refine w_nil ?_
          refine meetR_at ?_ ⟨(congrArg Value.bool (show (decide ((heardT T y12.2) ≥ many)) = (decide (y12.2 > above) && decide (y12.2 > farS T above many seen) && decide (heardT T y12.2 ≥ many)) by simp [b18, b20])), H24⟩
          exact (same_upd rfl (same_upd rfl (same_upd rfl (same_upd rfl (same_upd rfl (same_upd rfl (same_upd rfl (same_upd rfl (same_upd rfl (same_upd rfl (same_upd rfl (same_upd rfl (same_upd rfl (same_upd rfl (same_upd rfl (same_upd rfl (same_upd rfl (same_refl))))))))))))))))))
        · have g26 := of_decide_eq_false b20
          refine wl_know 27 (.bool false) (congrArg Value.bool b20) ?_
          refine wl_pass (wantsN 8 27 true rfl (by kernel_rfl) rfl (by kernel_rfl)) rfl ?_
          refine wl_pass (wantsN 8 27 true rfl (by kernel_rfl) rfl (by kernel_rfl)) rfl ?_
          refine wl_pass (wantsN 8 27 true rfl (by kernel_rfl) rfl (by kernel_rfl)) rfl ?_
          refine wl_pass (wantsN 8 27 true rfl (by kernel_rfl) rfl (by kernel_rfl)) rfl ?_
          refine wl_pass (wantsN 8 27 true rfl (by kernel_rfl) rfl (by kernel_rfl)) rfl ?_
          refine wl_pure (wants0 rfl) (d := 33) (v := (.bool false)) rfl (by kernel_rfl) ?_
          refine w_nil ?_
          refine meetR_at ?_ ⟨(congrArg Value.bool (show false = (decide (y12.2 > above) && decide (y12.2 > farS T above many seen) && decide (heardT T y12.2 ≥ many)) by simp [b18, b20])), H16⟩
          exact (same_upd rfl (same_upd rfl (same_upd rfl (same_upd rfl (same_upd rfl (same_upd rfl (same_upd rfl (same_upd rfl (same_upd rfl (same_upd rfl (same_upd rfl (same_upd rfl (same_upd rfl (same_upd rfl (same_upd rfl (same_upd rfl (same_upd rfl (same_refl))))))))))))))))))
      · have g27 := of_decide_eq_false b18
        refine wl_know 22 (.bool false) (congrArg Value.bool b18) ?_
        refine wl_pass (wantsN 3 22 true rfl (by kernel_rfl) rfl (by kernel_rfl)) rfl ?_
        refine wl_pass (wantsN 3 22 true rfl (by kernel_rfl) rfl (by kernel_rfl)) rfl ?_
        refine wl_pass (wantsN 3 22 true rfl (by kernel_rfl) rfl (by kernel_rfl)) rfl ?_
        refine wl_pure (wants0 rfl) (d := 26) (v := (.bool false)) rfl (by kernel_rfl) ?_
        refine wl_pure (wants0 rfl) (d := 27) (v := (.bool false)) rfl (by kernel_rfl) ?_
        refine wl_pass (wantsN 8 27 true rfl (by kernel_rfl) rfl (by kernel_rfl)) rfl ?_
        refine wl_pass (wantsN 8 27 true rfl (by kernel_rfl) rfl (by kernel_rfl)) rfl ?_
        refine wl_pass (wantsN 8 27 true rfl (by kernel_rfl) rfl (by kernel_rfl)) rfl ?_
        refine wl_pass (wantsN 8 27 true rfl (by kernel_rfl) rfl (by kernel_rfl)) rfl ?_
        refine wl_pass (wantsN 8 27 true rfl (by kernel_rfl) rfl (by kernel_rfl)) rfl ?_
        refine wl_pure (wants0 rfl) (d := 33) (v := (.bool false)) rfl (by kernel_rfl) ?_
        refine w_nil ?_
        refine meetR_at ?_ ⟨(congrArg Value.bool (show false = (decide (y12.2 > above) && decide (y12.2 > farS T above many seen) && decide (heardT T y12.2 ≥ many)) by simp [b18])), H16⟩
        exact (same_upd rfl (same_upd rfl (same_upd rfl (same_upd rfl (same_upd rfl (same_upd rfl (same_upd rfl (same_upd rfl (same_upd rfl (same_upd rfl (same_upd rfl (same_upd rfl (same_upd rfl (same_upd rfl (same_upd rfl (same_upd rfl (same_refl)))))))))))))))))
    · rintro f28 w29 ⟨v31, H30⟩
      refine wp_know 33 _ v31 ?_
      refine (bsplit (decide (y12.2 > above) && decide (y12.2 > farS T above many seen) && decide (heardT T y12.2 ≥ many))).elim (fun b32 => ?_) (fun b32 => ?_)
      · refine wp_know 33 (.bool true) (congrArg Value.bool b32) ?_
        refine wp_ift rfl ?_
        refine w_lit ?_
        refine wl_pure (wants0 rfl) (d := 34) (v := (.int .i64 (y12.2))) rfl (by kernel_rfl) ?_
        refine wl_pure (wants0 rfl) (d := 7) (v := (.int .i64 (y12.2))) rfl (by kernel_rfl) ?_
        refine w_nil ?_
        refine blk_normal ?_
        refine round_back ?_ _ ⟨(seen ++ [y12]), t13, (show ((.int .i64 (y12.2)) : Value) = _ by rw [farS_snoc, b32]; rfl), p15, H30, rfl⟩ (by have h1 := hperm.length_eq; have h2 := p15.length_eq; simp only [List.length_append, List.length_cons, List.length_nil] at h1 h2; omega)
        exact (same_upd rfl (same_upd rfl (same_upd rfl (same_upd rfl (same_ovr2 rfl (same_upd rfl (same_upd rfl (same_upd rfl (same_upd rfl (same_upd rfl (same_upd rfl (same_ovr))))))))))))
      · refine wp_know 33 (.bool false) (congrArg Value.bool b32) ?_
        refine wp_iff rfl ?_
        refine w_skip ?_
        refine blk_normal ?_
        refine round_back ?_ _ ⟨(seen ++ [y12]), t13, (show ((.int .i64 (farS T above many seen)) : Value) = _ by rw [farS_snoc, b32]; rfl), p15, H30, rfl⟩ (by have h1 := hperm.length_eq; have h2 := p15.length_eq; simp only [List.length_append, List.length_cons, List.length_nil] at h1 h2; omega)
        exact (same_upd rfl (same_upd rfl (same_ovr2 rfl (same_upd rfl (same_upd rfl (same_upd rfl (same_upd rfl (same_upd rfl (same_upd rfl (same_ovr))))))))))
theorem talFar_any (w : World) (t hb cb ab lb : Nat) (f c : Int) (L : List VoteD) (hT : (talC t hb cb ab lb f c L).ok w) (above many : Int) (ha : 0 ≤ above) (hm : 1 ≤ many) :
    Calls Try.prog 64 #[.pointer (some ⟨t, 0, none⟩), .int .i64 above, .int .i64 many] w fun e w' => e = .returned (.int .i64 (farV f L above many)) ∧ Upd [] w w' := by
  obtain ⟨T, rfl, rfl, h3, h4⟩ := hT
  refine (tallyFar_any w t hb cb ab lb T h4 above many (by have := h3.last_len; omega)).mono ?_
  rintro e w' ⟨rfl, hu⟩
  exact ⟨by rw [h3.far above many ha hm], hu⟩

end Go.Proofs.Ythjmbhneifjeeaa
