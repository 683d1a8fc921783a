/- WHAT IS PROVED: play's contract. Conditions: stated with it. -/
import Derived.Test.YtfhhljgjppcdlaaPlayDefs
import Derived.Test.YtfhhljgjppcdlaaRef13
namespace Go.Proofs.Ytfhhljgjppcdlaa
open Go.RowKit

set_option maxRecDepth 100000 in
set_option maxHeartbeats 2000000 in
theorem play13_any (w : World) (t hb cb ab lb r : Nat) (v : Value) (f c : Int) (L : List VoteD) (hT : (sepC [talC t hb cb ab lb f c L, rtC r v f c L]).ok w) (hf : 1 ≤ f ∧ f ≤ 21) (hI : VInv f L) (hL : L.length ≤ 1000) (va : Option Addr) (vc : Nat) (ls : List VoteIn) (hvotes : VotesAt w (.slice va ls.length vc) ls) (hvl : ls.length ≤ 9223372036854775807) (hvd : 0 < ls.length → ∀ a, va = some a → ¬ (sepC [talC t hb cb ab lb f c L, rtC r v f c L]).fp a.block) :
    Calls Try.prog 19 #[(.pointer (some ⟨t, 0, none⟩)), (.pointer (some ⟨r, 0, none⟩)), (.slice va ls.length vc)] w fun e w' => e = .returned (.bool true) ∧ ∃ k u, k ≤ min ls.length 40 ∧ min ls.length 40 ≤ k ∧ (sepC [talC t hb cb ab lb f c (playL f ls L k), rtC r u f c (playL f ls L k)]).ok w' ∧ Sat w [talC t hb cb ab lb f c (playL f ls L k), rtC r u f c (playL f ls L k), restC w (sepC [talC t hb cb ab lb f c L, rtC r v f c L]).fp] w' := by
  have H : Sat w [talC t hb cb ab lb f c L, rtC r v f c L, restC w (sepC [talC t hb cb ab lb f c L, rtC r v f c L]).fp] w := Sat.start _ hT
  refine calls_fr Try.func19 rfl 129 rfl (Nat.le_of_ble_eq_true rfl) ?_
  refine w_seq ?_
  refine w_lit ?_
  refine wl_pure (wants0 rfl) (d := 6) (v := (.bool false)) rfl (by kernel_rfl) ?_
  refine w_nil ?_
  refine then_normal ?_
  refine w_seq ?_
  refine w_seq ?_
  refine w_lit ?_
  refine wl_pure (wants0 rfl) (d := 7) (v := (.int .i64 (0))) rfl (by kernel_rfl) ?_
  refine w_nil ?_
  refine then_normal ?_
  refine w_block ?_
  refine wp_round [6, 7, 8, 9, 10, 11, 12, 13, 14, 15, 16, 17, 18, 19, 20, 21, 22, 23, 24, 25, 26, 27, 28, 29, 30, 31, 32, 33, 34, 35, 36, 37, 38, 39, 40, 41, 42, 43, 44, 45, 46, 47, 48, 49, 50, 51, 52, 53, 54, 55, 56, 57, 58, 59, 60, 61, 62, 63, 64, 65, 66, 67, 68, 69, 70, 71, 72, 73, 74, 75, 76, 77, 78, 79, 80, 81, 82, 83, 84, 85, 86, 87, 88, 89, 90, 91, 92, 93, 94, 95, 96, 97, 98, 99, 100, 101, 102, 103, 104, 105, 106, 107, 108, 109, 110, 111, 112, 113, 114, 115, 116, 117, 118, 119, 120, 121, 122, 123, 124, 125, 126, 127, 128] (fun F_ W_ m_ => ∃ (k : Nat) (u : Value), F_ 7 = (.int .i64 ((k : Int))) ∧ (k ≤ min ls.length 40) ∧ Sat w [talC t hb cb ab lb f c (playL f ls L k), rtC r u f c (playL f ls L k), restC w (sepC [talC t hb cb ab lb f c L, rtC r v f c L]).fp] W_ ∧ m_ = 40 - k) _ ⟨0, v, (by first | rfl | go_num), by omega, H, rfl⟩ ?_
  rintro g1 w2 _ ⟨k, u, v4, hk, H3, rfl⟩
  refine wp_know 7 _ v4 ?_
  refine w_seq ?_
  refine wp_meetR [13, 14, 15, 16, 17, 18, 19, 20] (fun G_ W_ => G_ 20 = (.bool (decide ((k : Int) < ls.length) && decide ((k : Int) < 40))) ∧ Sat w [talC t hb cb ab lb f c (playL f ls L k), rtC r u f c (playL f ls L k), restC w (sepC [talC t hb cb ab lb f c L, rtC r v f c L]).fp] W_) ?_ ?_
  · refine w_lit ?_
    refine wl_pure (wants0 rfl) (d := 13) (v := (.int .i64 ((k : Int)))) rfl (by kernel_rfl) ?_
    refine wl_pure (wants0 rfl) (d := 14) (v := (.slice va ls.length vc)) rfl (by kernel_rfl) ?_
    refine wl_pure (wants0 rfl) (d := 15) (v := (.int .i64 ((ls.length : Int)))) rfl (by kernel_rfl) ?_
    refine wl_pure (wants0 rfl) (d := 16) (v := (.bool (decide ((k : Int) < (ls.length : Int))))) rfl (by kernel_rfl) ?_
    refine wl_pure (wants0 rfl) (d := 17) (v := (.bool (decide ((k : Int) < (ls.length : Int))))) rfl (by kernel_rfl) ?_
    refine (bsplit (decide ((k : Int) < (ls.length : Int)))).elim (fun b7 => ?_) (fun b7 => ?_)
    · have g8 := of_decide_eq_true b7
      refine wl_know 17 (.bool true) (congrArg Value.bool b7) ?_
      refine wl_pure (wantsY 4 17 true rfl (by kernel_rfl) rfl (by kernel_rfl)) (d := 18) (v := (.int .i64 ((k : Int)))) rfl (by kernel_rfl) ?_
      refine wl_pure (wantsY 4 17 true rfl (by kernel_rfl) rfl (by kernel_rfl)) (d := 19) (v := (.bool (decide ((k : Int) < 40)))) rfl (by kernel_rfl) ?_
      refine wl_pure (wants0 rfl) (d := 20) (v := (.bool (decide ((k : Int) < 40)))) rfl (by kernel_rfl) ?_
      refine w_nil ?_
      refine meetR_at ?_ ⟨(congrArg Value.bool (show (decide ((k : Int) < 40)) = (decide ((k : Int) < ls.length) && decide ((k : Int) < 40)) by (simp <;> omega))), H3⟩
      exact (same_upd rfl (same_upd rfl (same_upd rfl (same_upd rfl (same_upd rfl (same_upd rfl (same_upd rfl (same_upd rfl (same_upd rfl (same_refl))))))))))
    · have g9 := of_decide_eq_false b7
      refine wl_know 17 (.bool false) (congrArg Value.bool b7) ?_
      refine wl_pass (wantsN 4 17 true rfl (by kernel_rfl) rfl (by kernel_rfl)) rfl ?_
      refine wl_pass (wantsN 4 17 true rfl (by kernel_rfl) rfl (by kernel_rfl)) rfl ?_
      refine wl_pure (wants0 rfl) (d := 20) (v := (.bool false)) rfl (by kernel_rfl) ?_
      refine w_nil ?_
      refine meetR_at ?_ ⟨(congrArg Value.bool (show false = (decide ((k : Int) < ls.length) && decide ((k : Int) < 40)) by (simp <;> omega))), H3⟩
      exact (same_upd rfl (same_upd rfl (same_upd rfl (same_upd rfl (same_upd rfl (same_upd rfl (same_upd rfl (same_upd rfl (same_upd rfl (same_refl))))))))))
  · rintro f10 w11 ⟨v13, H12⟩
    refine wp_know 20 _ v13 ?_
    refine (bsplit (decide ((k : Int) < ls.length) && decide ((k : Int) < 40))).elim (fun b14 => ?_) (fun b14 => ?_)
    · refine wp_know 20 (.bool true) (congrArg Value.bool b14) ?_
      refine wp_ift rfl ?_
      refine w_skip ?_
      refine then_normal ?_
      refine w_seq ?_
      refine w_block ?_
      refine w_seq ?_
      have hkl : (k : Int) < ls.length ∧ (k : Int) < 40 := by simpa using b14
      have hV : VInv f (addV f (playL f ls L k) ⟨(voteD ls k).cut.kind, (voteD ls k).cut.round, (voteD ls k).cut.replica, (voteD ls k).cut.h⟩) := (playL_inv hI ls k).add _
      obtain ⟨vb, vo, vc', hva, _, hvs⟩ := hvotes.some (by omega)
      simp only [Value.slice.injEq] at hva
      obtain ⟨rfl, _, rfl⟩ := hva
      have hcell : CellsAt w ⟨vb, vo + ((k : Int)).toNat * 36, none⟩ (voteL (voteD ls k)) := by
        have h := hvs k (by omega)
        have e : voteD ls k = ls[k]'(by omega) := by simp [voteD, List.getD, List.getElem?_eq_getElem (show k < ls.length by omega)]
        rw [e]; simpa using h
      refine w_lit ?_
      refine wl_pure (wants0 rfl) (d := 23) (v := (.slice (some ⟨vb, vo, none⟩) ls.length vc)) rfl (by kernel_rfl) ?_
      refine wl_pure (wants0 rfl) (d := 24) (v := (.int .i64 ((k : Int)))) rfl (by kernel_rfl) ?_
      refine wl_pure (wants0 rfl) (d := 25) (v := (.pointer (some ⟨vb, vo + ((k : Int)).toNat * 36, none⟩))) rfl (e_indexAddr (E := 40) (by kernel_rfl) (by kernel_rfl) (Nat.le_of_ble_eq_true rfl) rfl rfl (by omega) (by omega)) ?_
      refine wl_pure (wants0 rfl) (d := 26) (v := (.agg ⟨(([(.int .i64 ((voteD ls k).kind)), (.int .i64 ((voteD ls k).round)), (.int .i64 ((voteD ls k).replica))] : List Value) ++ hc (voteD ls k).h ++ ([(.bool ((voteD ls k).small))] : List Value))⟩)) rfl (e_loadA (vs := voteL (voteD ls k)) rfl (by kernel_rfl) (by kernel_rfl) (Nat.le_of_ble_eq_true (by kernel_rfl)) (fun j v hj => H12.cellR 2 rfl (hcell j v hj) (by rw [Addr.add_lit]; exact hvd (by omega) ⟨vb, vo, none⟩ rfl))) ?_
      refine wl_do (wants0 rfl) (fun K15 hK15 => ?_)
      refine d_call (d := 27) rfl (by kernel_rfl) (cut_any w11 (voteD ls k)) ?_
      rintro _ w16 ⟨rfl, u18⟩
      have H17 := H12.keepU u18
      refine ⟨_, rfl, ?_⟩
      refine hK15 _ _ ?_
      clear hK15 K15
      refine wl_do (wants0 rfl) (fun K19 hK19 => ?_)
      refine d_alloc (zs := (([(.int .i64 (0)), (.int .i64 (0)), (.int .i64 (0))] : List Value) ++ hc hash0 ++ ([(.bool false)] : List Value))) (z := (.agg ⟨(([(.int .i64 (0)), (.int .i64 (0)), (.int .i64 (0))] : List Value) ++ hc hash0 ++ ([(.bool false)] : List Value))⟩)) rfl H17 (by kernel_rfl) (by kernel_rfl) ?_
      intro b20 w21 (H22 : Sat w [talC t hb cb ab lb f c (playL f ls L k), rtC r u f c (playL f ls L k), restC w (sepC [talC t hb cb ab lb f c L, rtC r v f c L]).fp, cellC b20 40 (([(.int .i64 (0)), (.int .i64 (0)), (.int .i64 (0))] : List Value) ++ hc hash0 ++ ([(.bool false)] : List Value))] w21)
      refine hK19 _ _ ?_
      clear hK19 K19
      refine wl_do (wants0 rfl) (fun K23 hK23 => ?_)
      refine d_store (vs := (([(.int .i64 ((voteD ls k).cut.kind)), (.int .i64 ((voteD ls k).cut.round)), (.int .i64 ((voteD ls k).cut.replica))] : List Value) ++ hc (voteD ls k).cut.h ++ ([(.bool ((voteD ls k).cut.small))] : List Value))) rfl H22 3 rfl rfl rfl rfl (by kernel_rfl) (Nat.le_of_ble_eq_true (by kernel_rfl)) (Nat.le_of_ble_eq_true (by kernel_rfl)) (by kernel_rfl) ?_
      intro w24 (H25 : Sat w [talC t hb cb ab lb f c (playL f ls L k), rtC r u f c (playL f ls L k), restC w (sepC [talC t hb cb ab lb f c L, rtC r v f c L]).fp, cellC b20 40 (([(.int .i64 ((voteD ls k).cut.kind)), (.int .i64 ((voteD ls k).cut.round)), (.int .i64 ((voteD ls k).cut.replica))] : List Value) ++ hc (voteD ls k).cut.h ++ ([(.bool ((voteD ls k).cut.small))] : List Value))] w24)
      refine hK23 _ _ ?_
      clear hK23 K23
      refine w_nil ?_
      refine then_normal ?_
      refine w_seq ?_
      refine w_seq ?_
      refine h_start H25 [restC w (sepC [talC t hb cb ab lb f c L, rtC r v f c L]).fp, cellC b20 40 (([(.int .i64 ((voteD ls k).cut.kind)), (.int .i64 ((voteD ls k).cut.round)), (.int .i64 ((voteD ls k).cut.replica))] : List Value) ++ hc (voteD ls k).cut.h ++ ([(.bool ((voteD ls k).cut.small))] : List Value))] 21 rfl (by kernel_rfl) (fun Hx => (Hx.pick [2, 3] (by decide))) ?_
      intro w27 H28 S29
      refine h_val 0 rfl (by kernel_rfl) (by kernel_rfl) (by kernel_rfl) (fun _ _ _ h => h) S29 (wants0 rfl) (d := 28) (v := (.pointer (some ⟨t, 0, none⟩))) rfl (fun _ H' => (by kernel_rfl)) ?_
      refine h_val 1 rfl (by kernel_rfl) (by kernel_rfl) (by kernel_rfl) (fun _ _ _ h => h) S29 (wants0 rfl) (d := 29) (v := (.pointer (some ⟨b20, 0, none⟩))) rfl (fun _ H' => (by kernel_rfl)) ?_
      refine h_val 2 rfl (by kernel_rfl) (by kernel_rfl) (by kernel_rfl) (fun _ _ _ h => h) S29 (wants0 rfl) (d := 30) (v := (.int .i64 ((voteD ls k).cut.kind))) rfl (fun _ H' => (e_load1 rfl (by kernel_rfl) (H'.cell 1 rfl (by kernel_rfl)))) ?_
      refine h_val 3 rfl (by kernel_rfl) (by kernel_rfl) (by kernel_rfl) (fun _ _ _ h => h) S29 (wants0 rfl) (d := 31) (v := (.pointer (some ⟨b20, 1, none⟩))) rfl (fun _ H' => (by kernel_rfl)) ?_
      refine h_val 4 rfl (by kernel_rfl) (by kernel_rfl) (by kernel_rfl) (fun _ _ _ h => h) S29 (wants0 rfl) (d := 32) (v := (.int .i64 ((voteD ls k).cut.round))) rfl (fun _ H' => (e_load1 rfl (by kernel_rfl) (H'.cell 1 rfl (by kernel_rfl)))) ?_
      refine h_val 5 rfl (by kernel_rfl) (by kernel_rfl) (by kernel_rfl) (fun _ _ _ h => h) S29 (wants0 rfl) (d := 33) (v := (.pointer (some ⟨b20, 2, none⟩))) rfl (fun _ H' => (by kernel_rfl)) ?_
      refine h_val 6 rfl (by kernel_rfl) (by kernel_rfl) (by kernel_rfl) (fun _ _ _ h => h) S29 (wants0 rfl) (d := 34) (v := (.int .i64 ((voteD ls k).cut.replica))) rfl (fun _ H' => (e_load1 rfl (by kernel_rfl) (H'.cell 1 rfl (by kernel_rfl)))) ?_
      refine h_val 7 rfl (by kernel_rfl) (by kernel_rfl) (by kernel_rfl) (fun _ _ _ h => h) S29 (wants0 rfl) (d := 35) (v := (.pointer (some ⟨b20, 3, none⟩))) rfl (fun _ H' => (by kernel_rfl)) ?_
      refine h_val 8 rfl (by kernel_rfl) (by kernel_rfl) (by kernel_rfl) (fun _ _ _ h => h) S29 (wants0 rfl) (d := 36) (v := (.agg ⟨(hc (voteD ls k).cut.h)⟩)) rfl (fun _ H' => (e_loadN (vs := (hc (voteD ls k).cut.h)) rfl (by kernel_rfl) (by kernel_rfl) (by exact Nat.le_of_ble_eq_true (by kernel_rfl)) (H'.at 1 rfl) (by kernel_rfl))) ?_
      refine h_val 10 rfl (by kernel_rfl) (by kernel_rfl) (by kernel_rfl) (fun _ _ _ h => h) S29 (wants0 rfl) (d := 38) (v := (.pointer (some ⟨r, 0, none⟩))) rfl (fun _ H' => (by kernel_rfl)) ?_
      refine h_val 11 rfl (by kernel_rfl) (by kernel_rfl) (by kernel_rfl) (fun _ _ _ h => h) S29 (wants0 rfl) (d := 39) (v := (.pointer (some ⟨b20, 0, none⟩))) rfl (fun _ H' => (by kernel_rfl)) ?_
      refine h_val 12 rfl (by kernel_rfl) (by kernel_rfl) (by kernel_rfl) (fun _ _ _ h => h) S29 (wants0 rfl) (d := 40) (v := (.int .i64 ((voteD ls k).cut.kind))) rfl (fun _ H' => (e_load1 rfl (by kernel_rfl) (H'.cell 1 rfl (by kernel_rfl)))) ?_
      refine h_val 13 rfl (by kernel_rfl) (by kernel_rfl) (by kernel_rfl) (fun _ _ _ h => h) S29 (wants0 rfl) (d := 41) (v := (.pointer (some ⟨b20, 1, none⟩))) rfl (fun _ H' => (by kernel_rfl)) ?_
      refine h_val 14 rfl (by kernel_rfl) (by kernel_rfl) (by kernel_rfl) (fun _ _ _ h => h) S29 (wants0 rfl) (d := 42) (v := (.int .i64 ((voteD ls k).cut.round))) rfl (fun _ H' => (e_load1 rfl (by kernel_rfl) (H'.cell 1 rfl (by kernel_rfl)))) ?_
      refine h_val 15 rfl (by kernel_rfl) (by kernel_rfl) (by kernel_rfl) (fun _ _ _ h => h) S29 (wants0 rfl) (d := 43) (v := (.pointer (some ⟨b20, 2, none⟩))) rfl (fun _ H' => (by kernel_rfl)) ?_
      refine h_val 16 rfl (by kernel_rfl) (by kernel_rfl) (by kernel_rfl) (fun _ _ _ h => h) S29 (wants0 rfl) (d := 44) (v := (.int .i64 ((voteD ls k).cut.replica))) rfl (fun _ H' => (e_load1 rfl (by kernel_rfl) (H'.cell 1 rfl (by kernel_rfl)))) ?_
      refine h_val 17 rfl (by kernel_rfl) (by kernel_rfl) (by kernel_rfl) (fun _ _ _ h => h) S29 (wants0 rfl) (d := 45) (v := (.pointer (some ⟨b20, 3, none⟩))) rfl (fun _ H' => (by kernel_rfl)) ?_
      refine h_val 18 rfl (by kernel_rfl) (by kernel_rfl) (by kernel_rfl) (fun _ _ _ h => h) S29 (wants0 rfl) (d := 46) (v := (.agg ⟨(hc (voteD ls k).cut.h)⟩)) rfl (fun _ H' => (e_loadN (vs := (hc (voteD ls k).cut.h)) rfl (by kernel_rfl) (by kernel_rfl) (by exact Nat.le_of_ble_eq_true (by kernel_rfl)) (H'.at 1 rfl) (by kernel_rfl))) ?_
      refine h_do 9 rfl (by kernel_rfl) (wants0 rfl) (fun K30 hK30 => ?_)
      refine d_call (d := 37) rfl (by kernel_rfl) (talAdd_any w27 t hb cb ab lb f c (playL f ls L k) (H28.at 0 rfl) ((voteD ls k).cut.kind) ((voteD ls k).cut.round) ((voteD ls k).cut.replica) ((voteD ls k).cut.h) ((by have := playL_len f ls L k; omega))) ?_
      rintro _ w31 ⟨rfl, k34, u33⟩
      have H32 : Sat w [talC t hb cb ab lb f c (addV f (playL f ls L k) ⟨((voteD ls k).cut.kind), ((voteD ls k).cut.round), ((voteD ls k).cut.replica), ((voteD ls k).cut.h)⟩), rtC r u f c (playL f ls L k), restC w (sepC [talC t hb cb ab lb f c L, rtC r v f c L]).fp, cellC b20 40 (([(.int .i64 ((voteD ls k).cut.kind)), (.int .i64 ((voteD ls k).cut.round)), (.int .i64 ((voteD ls k).cut.replica))] : List Value) ++ hc (voteD ls k).cut.h ++ ([(.bool ((voteD ls k).cut.small))] : List Value))] w31 := H28.setU u33 0 rfl (fun _ hb => hb) k34 (fun _ hb => .inl hb)
      refine ⟨_, rfl, ?_⟩
      have S35 := H32.pick [2, 3] (by decide)
      refine hK30 _ _ S35 ?_
      clear hK30 K30
      refine h_do 19 rfl (by kernel_rfl) (wants0 rfl) (fun K36 hK36 => ?_)
      refine d_call (d := 47) rfl (by kernel_rfl) (refAdd_any w31 r u f c (playL f ls L k) (H32.at 1 rfl) (by have := playL_len f ls L k; omega) hf ((voteD ls k).cut.kind) ((voteD ls k).cut.round) ((voteD ls k).cut.replica) ((voteD ls k).cut.h)) ?_
      rintro _ w37 ⟨rfl, v41, k40, u39, q42⟩
      have H38 : Sat w [talC t hb cb ab lb f c (addV f (playL f ls L k) ⟨((voteD ls k).cut.kind), ((voteD ls k).cut.round), ((voteD ls k).cut.replica), ((voteD ls k).cut.h)⟩), rtC r v41 f c (addV f (playL f ls L k) ⟨((voteD ls k).cut.kind), ((voteD ls k).cut.round), ((voteD ls k).cut.replica), ((voteD ls k).cut.h)⟩), restC w (sepC [talC t hb cb ab lb f c L, rtC r v f c L]).fp, cellC b20 40 (([(.int .i64 ((voteD ls k).cut.kind)), (.int .i64 ((voteD ls k).cut.round)), (.int .i64 ((voteD ls k).cut.replica))] : List Value) ++ hc (voteD ls k).cut.h ++ ([(.bool ((voteD ls k).cut.small))] : List Value))] w37 := H32.setU u39 1 rfl (fun b hb => by obtain rfl := List.mem_singleton.1 hb; exact ⟨_, List.mem_cons_self .., rfl⟩) k40 q42
      refine ⟨_, rfl, ?_⟩
      have S43 := H38.pick [2, 3] (by decide)
      refine hK36 _ _ S43 ?_
      clear hK36 K36
      refine h_val 20 rfl (by kernel_rfl) (by kernel_rfl) (by kernel_rfl) (fun _ _ _ h => h) S43 (wants0 rfl) (d := 48) (v := (.bool (!((okV f (playL f ls L k) ((voteD ls k).cut.kind) ((voteD ls k).cut.round) ((voteD ls k).cut.replica)) == (okV f (playL f ls L k) ((voteD ls k).cut.kind) ((voteD ls k).cut.round) ((voteD ls k).cut.replica)))))) rfl (fun _ H' => (by kernel_rfl)) ?_
      refine h_fin (by kernel_rfl) ?_
      refine then_normal ?_
      have b44 : (!((okV f (playL f ls L k) ((voteD ls k).cut.kind) ((voteD ls k).cut.round) ((voteD ls k).cut.replica)) == (okV f (playL f ls L k) ((voteD ls k).cut.kind) ((voteD ls k).cut.round) ((voteD ls k).cut.replica)))) = false := by simp
      refine wp_know 48 (.bool false) (congrArg Value.bool b44) ?_
      refine wp_iff rfl ?_
      refine w_skip ?_
      refine then_normal ?_
      refine w_seq ?_
      refine w_seq ?_
      refine q_start H38 (by kernel_rfl) (by kernel_rfl) ?_
      refine q_val (wants0 rfl) (d := 49) (v := (.pointer (some ⟨t, 0, none⟩))) rfl (fun _ H' => (by kernel_rfl)) ?_
      refine q_val (wants0 rfl) (d := 50) (v := (.pointer (some ⟨b20, 0, none⟩))) rfl (fun _ H' => (by kernel_rfl)) ?_
      refine q_val (wants0 rfl) (d := 51) (v := (.int .i64 ((voteD ls k).cut.kind))) rfl (fun _ H' => (e_load1 rfl (by kernel_rfl) (H'.cell 3 rfl (by kernel_rfl)))) ?_
      refine q_val (wants0 rfl) (d := 52) (v := (.pointer (some ⟨b20, 1, none⟩))) rfl (fun _ H' => (by kernel_rfl)) ?_
      refine q_val (wants0 rfl) (d := 53) (v := (.int .i64 ((voteD ls k).cut.round))) rfl (fun _ H' => (e_load1 rfl (by kernel_rfl) (H'.cell 3 rfl (by kernel_rfl)))) ?_
      refine q_val (wants0 rfl) (d := 54) (v := (.pointer (some ⟨b20, 3, none⟩))) rfl (fun _ H' => (by kernel_rfl)) ?_
      refine q_val (wants0 rfl) (d := 55) (v := (.agg ⟨(hc (voteD ls k).cut.h)⟩)) rfl (fun _ H' => (e_loadN (vs := (hc (voteD ls k).cut.h)) rfl (by kernel_rfl) (by kernel_rfl) (by exact Nat.le_of_ble_eq_true (by kernel_rfl)) (H'.at 3 rfl) (by kernel_rfl))) ?_
      refine q_call (wants0 rfl) (d := 56) (v := (.int .i64 (forV (addV f (playL f ls L k) ⟨((voteD ls k).cut.kind), ((voteD ls k).cut.round), ((voteD ls k).cut.replica), ((voteD ls k).cut.h)⟩) ((voteD ls k).cut.kind) ((voteD ls k).cut.round) ((voteD ls k).cut.h)))) rfl (fun _ _ => by kernel_rfl) (fun w' H' => (talFor_any w' t hb cb ab lb f c (addV f (playL f ls L k) ⟨((voteD ls k).cut.kind), ((voteD ls k).cut.round), ((voteD ls k).cut.replica), ((voteD ls k).cut.h)⟩) (H'.at 0 rfl) ((voteD ls k).cut.kind) ((voteD ls k).cut.round) ((voteD ls k).cut.h)).mono fun _ _ h => ⟨h.1, H'.keepU h.2⟩) ?_
      refine q_val (wants0 rfl) (d := 57) (v := (.pointer (some ⟨r, 0, none⟩))) rfl (fun _ H' => (by kernel_rfl)) ?_
      refine q_val (wants0 rfl) (d := 58) (v := (.pointer (some ⟨b20, 0, none⟩))) rfl (fun _ H' => (by kernel_rfl)) ?_
      refine q_val (wants0 rfl) (d := 59) (v := (.int .i64 ((voteD ls k).cut.kind))) rfl (fun _ H' => (e_load1 rfl (by kernel_rfl) (H'.cell 3 rfl (by kernel_rfl)))) ?_
      refine q_val (wants0 rfl) (d := 60) (v := (.pointer (some ⟨b20, 1, none⟩))) rfl (fun _ H' => (by kernel_rfl)) ?_
      refine q_val (wants0 rfl) (d := 61) (v := (.int .i64 ((voteD ls k).cut.round))) rfl (fun _ H' => (e_load1 rfl (by kernel_rfl) (H'.cell 3 rfl (by kernel_rfl)))) ?_
      refine q_val (wants0 rfl) (d := 62) (v := (.pointer (some ⟨b20, 3, none⟩))) rfl (fun _ H' => (by kernel_rfl)) ?_
      refine q_val (wants0 rfl) (d := 63) (v := (.agg ⟨(hc (voteD ls k).cut.h)⟩)) rfl (fun _ H' => (e_loadN (vs := (hc (voteD ls k).cut.h)) rfl (by kernel_rfl) (by kernel_rfl) (by exact Nat.le_of_ble_eq_true (by kernel_rfl)) (H'.at 3 rfl) (by kernel_rfl))) ?_
      refine q_call (wants0 rfl) (d := 64) (v := (.int .i64 (forV (addV f (playL f ls L k) ⟨((voteD ls k).cut.kind), ((voteD ls k).cut.round), ((voteD ls k).cut.replica), ((voteD ls k).cut.h)⟩) ((voteD ls k).cut.kind) ((voteD ls k).cut.round) ((voteD ls k).cut.h)))) rfl (fun _ _ => by kernel_rfl) (fun w' H' => (refFor_any w' r v41 f c (addV f (playL f ls L k) ⟨((voteD ls k).cut.kind), ((voteD ls k).cut.round), ((voteD ls k).cut.replica), ((voteD ls k).cut.h)⟩) (H'.at 1 rfl) (Nat.le_trans (addV_len f (playL f ls L k) (voteOf (voteD ls k))) (by have := playL_len f ls L k; omega)) ((voteD ls k).cut.kind) ((voteD ls k).cut.round) ((voteD ls k).cut.h)).mono fun _ _ h => ⟨h.1, H'.keepU h.2⟩) ?_
      refine q_val (wants0 rfl) (d := 65) (v := (.bool (!(decide ((forV (addV f (playL f ls L k) ⟨((voteD ls k).cut.kind), ((voteD ls k).cut.round), ((voteD ls k).cut.replica), ((voteD ls k).cut.h)⟩) ((voteD ls k).cut.kind) ((voteD ls k).cut.round) ((voteD ls k).cut.h)) = (forV (addV f (playL f ls L k) ⟨((voteD ls k).cut.kind), ((voteD ls k).cut.round), ((voteD ls k).cut.replica), ((voteD ls k).cut.h)⟩) ((voteD ls k).cut.kind) ((voteD ls k).cut.round) ((voteD ls k).cut.h))))))) rfl (fun _ H' => (by kernel_rfl)) ?_
      refine q_val (wants0 rfl) (d := 66) (v := (.bool (!(decide ((forV (addV f (playL f ls L k) ⟨((voteD ls k).cut.kind), ((voteD ls k).cut.round), ((voteD ls k).cut.replica), ((voteD ls k).cut.h)⟩) ((voteD ls k).cut.kind) ((voteD ls k).cut.round) ((voteD ls k).cut.h)) = (forV (addV f (playL f ls L k) ⟨((voteD ls k).cut.kind), ((voteD ls k).cut.round), ((voteD ls k).cut.replica), ((voteD ls k).cut.h)⟩) ((voteD ls k).cut.kind) ((voteD ls k).cut.round) ((voteD ls k).cut.h))))))) rfl (fun _ H' => (by kernel_rfl)) ?_
      have b45 : (!(decide ((forV (addV f (playL f ls L k) ⟨((voteD ls k).cut.kind), ((voteD ls k).cut.round), ((voteD ls k).cut.replica), ((voteD ls k).cut.h)⟩) ((voteD ls k).cut.kind) ((voteD ls k).cut.round) ((voteD ls k).cut.h)) = (forV (addV f (playL f ls L k) ⟨((voteD ls k).cut.kind), ((voteD ls k).cut.round), ((voteD ls k).cut.replica), ((voteD ls k).cut.h)⟩) ((voteD ls k).cut.kind) ((voteD ls k).cut.round) ((voteD ls k).cut.h))))) = false := by simp
      refine q_know 66 (.bool false) (congrArg Value.bool b45) ?_
      refine q_val (wantsY 17 66 false rfl (by kernel_rfl) rfl (by kernel_rfl)) (d := 67) (v := (.pointer (some ⟨t, 0, none⟩))) rfl (fun _ H' => (by kernel_rfl)) ?_
      refine q_val (wantsY 17 66 false rfl (by kernel_rfl) rfl (by kernel_rfl)) (d := 68) (v := (.pointer (some ⟨b20, 0, none⟩))) rfl (fun _ H' => (by kernel_rfl)) ?_
      refine q_val (wantsY 17 66 false rfl (by kernel_rfl) rfl (by kernel_rfl)) (d := 69) (v := (.int .i64 ((voteD ls k).cut.kind))) rfl (fun _ H' => (e_load1 rfl (by kernel_rfl) (H'.cell 3 rfl (by kernel_rfl)))) ?_
      refine q_val (wantsY 17 66 false rfl (by kernel_rfl) rfl (by kernel_rfl)) (d := 70) (v := (.pointer (some ⟨b20, 1, none⟩))) rfl (fun _ H' => (by kernel_rfl)) ?_
      refine q_val (wantsY 17 66 false rfl (by kernel_rfl) rfl (by kernel_rfl)) (d := 71) (v := (.int .i64 ((voteD ls k).cut.round))) rfl (fun _ H' => (e_load1 rfl (by kernel_rfl) (H'.cell 3 rfl (by kernel_rfl)))) ?_
      refine q_call (wantsY 17 66 false rfl (by kernel_rfl) rfl (by kernel_rfl)) (d := 72) (v := (.int .i64 (allV (addV f (playL f ls L k) ⟨((voteD ls k).cut.kind), ((voteD ls k).cut.round), ((voteD ls k).cut.replica), ((voteD ls k).cut.h)⟩) ((voteD ls k).cut.kind) ((voteD ls k).cut.round)))) rfl (fun _ _ => by kernel_rfl) (fun w' H' => (talAll_any w' t hb cb ab lb f c (addV f (playL f ls L k) ⟨((voteD ls k).cut.kind), ((voteD ls k).cut.round), ((voteD ls k).cut.replica), ((voteD ls k).cut.h)⟩) (H'.at 0 rfl) ((voteD ls k).cut.kind) ((voteD ls k).cut.round)).mono fun _ _ h => ⟨h.1, H'.keepU h.2⟩) ?_
      refine q_val (wantsY 17 66 false rfl (by kernel_rfl) rfl (by kernel_rfl)) (d := 73) (v := (.pointer (some ⟨r, 0, none⟩))) rfl (fun _ H' => (by kernel_rfl)) ?_
      refine q_val (wantsY 17 66 false rfl (by kernel_rfl) rfl (by kernel_rfl)) (d := 74) (v := (.pointer (some ⟨b20, 0, none⟩))) rfl (fun _ H' => (by kernel_rfl)) ?_
      refine q_val (wantsY 17 66 false rfl (by kernel_rfl) rfl (by kernel_rfl)) (d := 75) (v := (.int .i64 ((voteD ls k).cut.kind))) rfl (fun _ H' => (e_load1 rfl (by kernel_rfl) (H'.cell 3 rfl (by kernel_rfl)))) ?_
      refine q_val (wantsY 17 66 false rfl (by kernel_rfl) rfl (by kernel_rfl)) (d := 76) (v := (.pointer (some ⟨b20, 1, none⟩))) rfl (fun _ H' => (by kernel_rfl)) ?_
      refine q_val (wantsY 17 66 false rfl (by kernel_rfl) rfl (by kernel_rfl)) (d := 77) (v := (.int .i64 ((voteD ls k).cut.round))) rfl (fun _ H' => (e_load1 rfl (by kernel_rfl) (H'.cell 3 rfl (by kernel_rfl)))) ?_
      refine q_call (wantsY 17 66 false rfl (by kernel_rfl) rfl (by kernel_rfl)) (d := 78) (v := (.int .i64 (allV (addV f (playL f ls L k) ⟨((voteD ls k).cut.kind), ((voteD ls k).cut.round), ((voteD ls k).cut.replica), ((voteD ls k).cut.h)⟩) ((voteD ls k).cut.kind) ((voteD ls k).cut.round)))) rfl (fun _ _ => by kernel_rfl) (fun w' H' => (refAll_any w' r v41 f c (addV f (playL f ls L k) ⟨((voteD ls k).cut.kind), ((voteD ls k).cut.round), ((voteD ls k).cut.replica), ((voteD ls k).cut.h)⟩) (H'.at 1 rfl) (Nat.le_trans (addV_len f (playL f ls L k) (voteOf (voteD ls k))) (by have := playL_len f ls L k; omega)) ((voteD ls k).cut.kind) ((voteD ls k).cut.round)).mono fun _ _ h => ⟨h.1, H'.keepU h.2⟩) ?_
      refine q_val (wantsY 17 66 false rfl (by kernel_rfl) rfl (by kernel_rfl)) (d := 79) (v := (.bool (!(decide ((allV (addV f (playL f ls L k) ⟨((voteD ls k).cut.kind), ((voteD ls k).cut.round), ((voteD ls k).cut.replica), ((voteD ls k).cut.h)⟩) ((voteD ls k).cut.kind) ((voteD ls k).cut.round)) = (allV (addV f (playL f ls L k) ⟨((voteD ls k).cut.kind), ((voteD ls k).cut.round), ((voteD ls k).cut.replica), ((voteD ls k).cut.h)⟩) ((voteD ls k).cut.kind) ((voteD ls k).cut.round))))))) rfl (fun _ H' => (by kernel_rfl)) ?_
      refine q_val (wants0 rfl) (d := 80) (v := (.bool (!(decide ((allV (addV f (playL f ls L k) ⟨((voteD ls k).cut.kind), ((voteD ls k).cut.round), ((voteD ls k).cut.replica), ((voteD ls k).cut.h)⟩) ((voteD ls k).cut.kind) ((voteD ls k).cut.round)) = (allV (addV f (playL f ls L k) ⟨((voteD ls k).cut.kind), ((voteD ls k).cut.round), ((voteD ls k).cut.replica), ((voteD ls k).cut.h)⟩) ((voteD ls k).cut.kind) ((voteD ls k).cut.round))))))) rfl (fun _ H' => (by kernel_rfl)) ?_
      refine q_val (wants0 rfl) (d := 81) (v := (.bool (!(decide ((allV (addV f (playL f ls L k) ⟨((voteD ls k).cut.kind), ((voteD ls k).cut.round), ((voteD ls k).cut.replica), ((voteD ls k).cut.h)⟩) ((voteD ls k).cut.kind) ((voteD ls k).cut.round)) = (allV (addV f (playL f ls L k) ⟨((voteD ls k).cut.kind), ((voteD ls k).cut.round), ((voteD ls k).cut.replica), ((voteD ls k).cut.h)⟩) ((voteD ls k).cut.kind) ((voteD ls k).cut.round))))))) rfl (fun _ H' => (by kernel_rfl)) ?_
      have b46 : (!(decide ((allV (addV f (playL f ls L k) ⟨((voteD ls k).cut.kind), ((voteD ls k).cut.round), ((voteD ls k).cut.replica), ((voteD ls k).cut.h)⟩) ((voteD ls k).cut.kind) ((voteD ls k).cut.round)) = (allV (addV f (playL f ls L k) ⟨((voteD ls k).cut.kind), ((voteD ls k).cut.round), ((voteD ls k).cut.replica), ((voteD ls k).cut.h)⟩) ((voteD ls k).cut.kind) ((voteD ls k).cut.round))))) = false := by simp
      refine q_know 81 (.bool false) (congrArg Value.bool b46) ?_
      refine q_val (wantsY 32 81 false rfl (by kernel_rfl) rfl (by kernel_rfl)) (d := 82) (v := (.pointer (some ⟨t, 0, none⟩))) rfl (fun _ H' => (by kernel_rfl)) ?_
      refine q_val (wantsY 32 81 false rfl (by kernel_rfl) rfl (by kernel_rfl)) (d := 83) (v := (.pointer (some ⟨b20, 1, none⟩))) rfl (fun _ H' => (by kernel_rfl)) ?_
      refine q_val (wantsY 32 81 false rfl (by kernel_rfl) rfl (by kernel_rfl)) (d := 84) (v := (.int .i64 ((voteD ls k).cut.round))) rfl (fun _ H' => (e_load1 rfl (by kernel_rfl) (H'.cell 3 rfl (by kernel_rfl)))) ?_
      refine q_call (wantsY 32 81 false rfl (by kernel_rfl) rfl (by kernel_rfl)) (d := 85) (v := (.int .i64 (heardV f (addV f (playL f ls L k) ⟨((voteD ls k).cut.kind), ((voteD ls k).cut.round), ((voteD ls k).cut.replica), ((voteD ls k).cut.h)⟩) ((voteD ls k).cut.round)))) rfl (fun _ _ => by kernel_rfl) (fun w' H' => (talHeard_any w' t hb cb ab lb f c (addV f (playL f ls L k) ⟨((voteD ls k).cut.kind), ((voteD ls k).cut.round), ((voteD ls k).cut.replica), ((voteD ls k).cut.h)⟩) (H'.at 0 rfl) ((voteD ls k).cut.round)).mono fun _ _ h => ⟨h.1, H'.keepU h.2⟩) ?_
      refine q_val (wantsY 32 81 false rfl (by kernel_rfl) rfl (by kernel_rfl)) (d := 86) (v := (.pointer (some ⟨r, 0, none⟩))) rfl (fun _ H' => (by kernel_rfl)) ?_
      refine q_val (wantsY 32 81 false rfl (by kernel_rfl) rfl (by kernel_rfl)) (d := 87) (v := (.pointer (some ⟨b20, 1, none⟩))) rfl (fun _ H' => (by kernel_rfl)) ?_
      refine q_val (wantsY 32 81 false rfl (by kernel_rfl) rfl (by kernel_rfl)) (d := 88) (v := (.int .i64 ((voteD ls k).cut.round))) rfl (fun _ H' => (e_load1 rfl (by kernel_rfl) (H'.cell 3 rfl (by kernel_rfl)))) ?_
      refine q_call (wantsY 32 81 false rfl (by kernel_rfl) rfl (by kernel_rfl)) (d := 89) (v := (.int .i64 (((heardF ((voteD ls k).cut.round) (addV f (playL f ls L k) ⟨((voteD ls k).cut.kind), ((voteD ls k).cut.round), ((voteD ls k).cut.replica), ((voteD ls k).cut.h)⟩)).length : Int)))) rfl (fun _ _ => by kernel_rfl) (fun w' H' => (refHeard_any w' r v41 f c (addV f (playL f ls L k) ⟨((voteD ls k).cut.kind), ((voteD ls k).cut.round), ((voteD ls k).cut.replica), ((voteD ls k).cut.h)⟩) (H'.at 1 rfl) (Nat.le_trans (addV_len f (playL f ls L k) (voteOf (voteD ls k))) (by have := playL_len f ls L k; omega)) ((voteD ls k).cut.round)).mono fun _ _ h => ⟨h.1, H'.keepU h.2⟩) ?_
      refine q_val (wantsY 32 81 false rfl (by kernel_rfl) rfl (by kernel_rfl)) (d := 90) (v := (.bool (!(decide ((heardV f (addV f (playL f ls L k) ⟨((voteD ls k).cut.kind), ((voteD ls k).cut.round), ((voteD ls k).cut.replica), ((voteD ls k).cut.h)⟩) ((voteD ls k).cut.round)) = ((heardF ((voteD ls k).cut.round) (addV f (playL f ls L k) ⟨((voteD ls k).cut.kind), ((voteD ls k).cut.round), ((voteD ls k).cut.replica), ((voteD ls k).cut.h)⟩)).length : Int)))))) rfl (fun _ H' => (by kernel_rfl)) ?_
      refine q_val (wants0 rfl) (d := 91) (v := (.bool (!(decide ((heardV f (addV f (playL f ls L k) ⟨((voteD ls k).cut.kind), ((voteD ls k).cut.round), ((voteD ls k).cut.replica), ((voteD ls k).cut.h)⟩) ((voteD ls k).cut.round)) = ((heardF ((voteD ls k).cut.round) (addV f (playL f ls L k) ⟨((voteD ls k).cut.kind), ((voteD ls k).cut.round), ((voteD ls k).cut.replica), ((voteD ls k).cut.h)⟩)).length : Int)))))) rfl (fun _ H' => (by kernel_rfl)) ?_
      refine q_val (wants0 rfl) (d := 92) (v := (.bool (!(decide ((heardV f (addV f (playL f ls L k) ⟨((voteD ls k).cut.kind), ((voteD ls k).cut.round), ((voteD ls k).cut.replica), ((voteD ls k).cut.h)⟩) ((voteD ls k).cut.round)) = ((heardF ((voteD ls k).cut.round) (addV f (playL f ls L k) ⟨((voteD ls k).cut.kind), ((voteD ls k).cut.round), ((voteD ls k).cut.replica), ((voteD ls k).cut.h)⟩)).length : Int)))))) rfl (fun _ H' => (by kernel_rfl)) ?_
      have b47 : (!(decide ((heardV f (addV f (playL f ls L k) ⟨((voteD ls k).cut.kind), ((voteD ls k).cut.round), ((voteD ls k).cut.replica), ((voteD ls k).cut.h)⟩) ((voteD ls k).cut.round)) = ((heardF ((voteD ls k).cut.round) (addV f (playL f ls L k) ⟨((voteD ls k).cut.kind), ((voteD ls k).cut.round), ((voteD ls k).cut.replica), ((voteD ls k).cut.h)⟩)).length : Int)))) = false := by (rw [heardF_len hV]; simp)
      refine q_know 92 (.bool false) (congrArg Value.bool b47) ?_
      refine q_val (wantsY 43 92 false rfl (by kernel_rfl) rfl (by kernel_rfl)) (d := 93) (v := (.pointer (some ⟨t, 0, none⟩))) rfl (fun _ H' => (by kernel_rfl)) ?_
      refine q_val (wantsY 43 92 false rfl (by kernel_rfl) rfl (by kernel_rfl)) (d := 94) (v := (.int .i64 ((k : Int)))) rfl (fun _ H' => (by kernel_rfl)) ?_
      refine q_val (wantsY 43 92 false rfl (by kernel_rfl) rfl (by kernel_rfl)) (d := 95) (v := (.int .i64 ((k : Int) % 4))) rfl (fun _ H' => (e_rem (by kernel_rfl) (by omega) (by omega))) ?_
      refine q_call (wantsY 43 92 false rfl (by kernel_rfl) rfl (by kernel_rfl)) (d := 96) (v := (.int .i64 (heardV f (addV f (playL f ls L k) ⟨((voteD ls k).cut.kind), ((voteD ls k).cut.round), ((voteD ls k).cut.replica), ((voteD ls k).cut.h)⟩) ((k : Int) % 4)))) rfl (fun _ _ => by kernel_rfl) (fun w' H' => (talHeard_any w' t hb cb ab lb f c (addV f (playL f ls L k) ⟨((voteD ls k).cut.kind), ((voteD ls k).cut.round), ((voteD ls k).cut.replica), ((voteD ls k).cut.h)⟩) (H'.at 0 rfl) ((k : Int) % 4)).mono fun _ _ h => ⟨h.1, H'.keepU h.2⟩) ?_
      refine q_val (wantsY 43 92 false rfl (by kernel_rfl) rfl (by kernel_rfl)) (d := 97) (v := (.pointer (some ⟨r, 0, none⟩))) rfl (fun _ H' => (by kernel_rfl)) ?_
      refine q_val (wantsY 43 92 false rfl (by kernel_rfl) rfl (by kernel_rfl)) (d := 98) (v := (.int .i64 ((k : Int)))) rfl (fun _ H' => (by kernel_rfl)) ?_
      refine q_val (wantsY 43 92 false rfl (by kernel_rfl) rfl (by kernel_rfl)) (d := 99) (v := (.int .i64 ((k : Int) % 4))) rfl (fun _ H' => (e_rem (by kernel_rfl) (by omega) (by omega))) ?_
      refine q_call (wantsY 43 92 false rfl (by kernel_rfl) rfl (by kernel_rfl)) (d := 100) (v := (.int .i64 (((heardF ((k : Int) % 4) (addV f (playL f ls L k) ⟨((voteD ls k).cut.kind), ((voteD ls k).cut.round), ((voteD ls k).cut.replica), ((voteD ls k).cut.h)⟩)).length : Int)))) rfl (fun _ _ => by kernel_rfl) (fun w' H' => (refHeard_any w' r v41 f c (addV f (playL f ls L k) ⟨((voteD ls k).cut.kind), ((voteD ls k).cut.round), ((voteD ls k).cut.replica), ((voteD ls k).cut.h)⟩) (H'.at 1 rfl) (Nat.le_trans (addV_len f (playL f ls L k) (voteOf (voteD ls k))) (by have := playL_len f ls L k; omega)) ((k : Int) % 4)).mono fun _ _ h => ⟨h.1, H'.keepU h.2⟩) ?_
      refine q_val (wantsY 43 92 false rfl (by kernel_rfl) rfl (by kernel_rfl)) (d := 101) (v := (.bool (!(decide ((heardV f (addV f (playL f ls L k) ⟨((voteD ls k).cut.kind), ((voteD ls k).cut.round), ((voteD ls k).cut.replica), ((voteD ls k).cut.h)⟩) ((k : Int) % 4)) = ((heardF ((k : Int) % 4) (addV f (playL f ls L k) ⟨((voteD ls k).cut.kind), ((voteD ls k).cut.round), ((voteD ls k).cut.replica), ((voteD ls k).cut.h)⟩)).length : Int)))))) rfl (fun _ H' => (by kernel_rfl)) ?_
      refine q_val (wants0 rfl) (d := 102) (v := (.bool (!(decide ((heardV f (addV f (playL f ls L k) ⟨((voteD ls k).cut.kind), ((voteD ls k).cut.round), ((voteD ls k).cut.replica), ((voteD ls k).cut.h)⟩) ((k : Int) % 4)) = ((heardF ((k : Int) % 4) (addV f (playL f ls L k) ⟨((voteD ls k).cut.kind), ((voteD ls k).cut.round), ((voteD ls k).cut.replica), ((voteD ls k).cut.h)⟩)).length : Int)))))) rfl (fun _ H' => (by kernel_rfl)) ?_
      refine q_end ?_
      intro w48 H49
      refine then_normal ?_
      have b50 : (!(decide ((heardV f (addV f (playL f ls L k) ⟨((voteD ls k).cut.kind), ((voteD ls k).cut.round), ((voteD ls k).cut.replica), ((voteD ls k).cut.h)⟩) ((k : Int) % 4)) = ((heardF ((k : Int) % 4) (addV f (playL f ls L k) ⟨((voteD ls k).cut.kind), ((voteD ls k).cut.round), ((voteD ls k).cut.replica), ((voteD ls k).cut.h)⟩)).length : Int)))) = false := by (rw [heardF_len hV]; simp)
      refine wp_know 102 (.bool false) (congrArg Value.bool b50) ?_
      refine wp_iff rfl ?_
      refine w_skip ?_
      refine then_normal ?_
      refine w_seq ?_
      refine w_lit ?_
      refine wl_pure (wants0 rfl) (d := 104) (v := (.pointer (some ⟨t, 0, none⟩))) rfl (by kernel_rfl) ?_
      refine wl_pure (wants0 rfl) (d := 105) (v := (.pointer (some ⟨b20, 0, none⟩))) rfl (by kernel_rfl) ?_
      refine wl_pure (wants0 rfl) (d := 106) (v := (.int .i64 ((voteD ls k).cut.kind))) rfl (e_load1 rfl (by kernel_rfl) (H49.cell 3 rfl (by kernel_rfl))) ?_
      refine wl_pure (wants0 rfl) (d := 107) (v := (.pointer (some ⟨b20, 1, none⟩))) rfl (by kernel_rfl) ?_
      refine wl_pure (wants0 rfl) (d := 108) (v := (.int .i64 ((voteD ls k).cut.round))) rfl (e_load1 rfl (by kernel_rfl) (H49.cell 3 rfl (by kernel_rfl))) ?_
      refine wl_do (wants0 rfl) (fun K51 hK51 => ?_)
      refine d_call (d := 109) rfl (by kernel_rfl) (talMost_any w48 t hb cb ab lb f c (addV f (playL f ls L k) ⟨((voteD ls k).cut.kind), ((voteD ls k).cut.round), ((voteD ls k).cut.replica), ((voteD ls k).cut.h)⟩) (H49.at 0 rfl) ((voteD ls k).cut.kind) ((voteD ls k).cut.round)) ?_
      rintro _ w52 ⟨h55, n56, q57, rfl, u54⟩
      have H53 := H49.keepU u54
      have hmq := mostP_uniq q57 (rmF_most _ _ _)
      refine ⟨_, rfl, ?_⟩
      refine hK51 _ _ ?_
      clear hK51 K51
      refine wl_pure (wants0 rfl) (d := 103) (v := (.tuple #[(.agg ⟨(hc h55)⟩), (.int .i64 (n56))])) rfl (by kernel_rfl) ?_
      refine wl_pure (wants0 rfl) (d := 110) (v := (.agg ⟨(hc h55)⟩)) rfl (by kernel_rfl) ?_
      refine wl_pure (wants0 rfl) (d := 111) (v := (.int .i64 (n56))) rfl (by kernel_rfl) ?_
      refine wl_do (wants0 rfl) (fun K58 hK58 => ?_)
      refine d_alloc (zs := (hc hash0)) (z := (.agg ⟨(hc hash0)⟩)) rfl H53 (by kernel_rfl) (by kernel_rfl) ?_
      intro b59 w60 (H61 : Sat w [talC t hb cb ab lb f c (addV f (playL f ls L k) ⟨((voteD ls k).cut.kind), ((voteD ls k).cut.round), ((voteD ls k).cut.replica), ((voteD ls k).cut.h)⟩), rtC r v41 f c (addV f (playL f ls L k) ⟨((voteD ls k).cut.kind), ((voteD ls k).cut.round), ((voteD ls k).cut.replica), ((voteD ls k).cut.h)⟩), restC w (sepC [talC t hb cb ab lb f c L, rtC r v f c L]).fp, cellC b20 40 (([(.int .i64 ((voteD ls k).cut.kind)), (.int .i64 ((voteD ls k).cut.round)), (.int .i64 ((voteD ls k).cut.replica))] : List Value) ++ hc (voteD ls k).cut.h ++ ([(.bool ((voteD ls k).cut.small))] : List Value)), cellC b59 24 (hc hash0)] w60)
      refine hK58 _ _ ?_
      clear hK58 K58
      refine wl_do (wants0 rfl) (fun K62 hK62 => ?_)
      refine d_store (vs := (hc h55)) rfl H61 4 rfl rfl rfl rfl (by kernel_rfl) (Nat.le_of_ble_eq_true (by kernel_rfl)) (Nat.le_of_ble_eq_true (by kernel_rfl)) (by kernel_rfl) ?_
      intro w63 (H64 : Sat w [talC t hb cb ab lb f c (addV f (playL f ls L k) ⟨((voteD ls k).cut.kind), ((voteD ls k).cut.round), ((voteD ls k).cut.replica), ((voteD ls k).cut.h)⟩), rtC r v41 f c (addV f (playL f ls L k) ⟨((voteD ls k).cut.kind), ((voteD ls k).cut.round), ((voteD ls k).cut.replica), ((voteD ls k).cut.h)⟩), restC w (sepC [talC t hb cb ab lb f c L, rtC r v f c L]).fp, cellC b20 40 (([(.int .i64 ((voteD ls k).cut.kind)), (.int .i64 ((voteD ls k).cut.round)), (.int .i64 ((voteD ls k).cut.replica))] : List Value) ++ hc (voteD ls k).cut.h ++ ([(.bool ((voteD ls k).cut.small))] : List Value)), cellC b59 24 (hc h55)] w63)
      refine hK62 _ _ ?_
      clear hK62 K62
      refine wl_pure (wants0 rfl) (d := 10) (v := (.int .i64 (n56))) rfl (by kernel_rfl) ?_
      refine w_nil ?_
      refine then_normal ?_
      refine w_seq ?_
      refine w_lit ?_
      refine wl_pure (wants0 rfl) (d := 113) (v := (.pointer (some ⟨r, 0, none⟩))) rfl (by kernel_rfl) ?_
      refine wl_pure (wants0 rfl) (d := 114) (v := (.pointer (some ⟨b20, 0, none⟩))) rfl (by kernel_rfl) ?_
      refine wl_pure (wants0 rfl) (d := 115) (v := (.int .i64 ((voteD ls k).cut.kind))) rfl (e_load1 rfl (by kernel_rfl) (H64.cell 3 rfl (by kernel_rfl))) ?_
      refine wl_pure (wants0 rfl) (d := 116) (v := (.pointer (some ⟨b20, 1, none⟩))) rfl (by kernel_rfl) ?_
      refine wl_pure (wants0 rfl) (d := 117) (v := (.int .i64 ((voteD ls k).cut.round))) rfl (e_load1 rfl (by kernel_rfl) (H64.cell 3 rfl (by kernel_rfl))) ?_
      refine wl_do (wants0 rfl) (fun K66 hK66 => ?_)
      refine d_call (d := 118) rfl (by kernel_rfl) (refMost_any w63 r v41 f c (addV f (playL f ls L k) ⟨((voteD ls k).cut.kind), ((voteD ls k).cut.round), ((voteD ls k).cut.replica), ((voteD ls k).cut.h)⟩) (H64.at 1 rfl) (Nat.le_trans (addV_len f (playL f ls L k) (voteOf (voteD ls k))) (by have := playL_len f ls L k; omega)) ((voteD ls k).cut.kind) ((voteD ls k).cut.round)) ?_
      rintro _ w67 ⟨rfl, u69⟩
      have H68 := H64.keepU u69
      refine ⟨_, rfl, ?_⟩
      refine hK66 _ _ ?_
      clear hK66 K66
      refine wl_pure (wants0 rfl) (d := 112) (v := (.tuple #[(.agg ⟨(hc (rmF (addV f (playL f ls L k) ⟨((voteD ls k).cut.kind), ((voteD ls k).cut.round), ((voteD ls k).cut.replica), ((voteD ls k).cut.h)⟩) ((voteD ls k).cut.kind) ((voteD ls k).cut.round) (addV f (playL f ls L k) ⟨((voteD ls k).cut.kind), ((voteD ls k).cut.round), ((voteD ls k).cut.replica), ((voteD ls k).cut.h)⟩)).1)⟩), (.int .i64 ((rmF (addV f (playL f ls L k) ⟨((voteD ls k).cut.kind), ((voteD ls k).cut.round), ((voteD ls k).cut.replica), ((voteD ls k).cut.h)⟩) ((voteD ls k).cut.kind) ((voteD ls k).cut.round) (addV f (playL f ls L k) ⟨((voteD ls k).cut.kind), ((voteD ls k).cut.round), ((voteD ls k).cut.replica), ((voteD ls k).cut.h)⟩)).2))])) rfl (by kernel_rfl) ?_
      refine wl_pure (wants0 rfl) (d := 119) (v := (.agg ⟨(hc (rmF (addV f (playL f ls L k) ⟨((voteD ls k).cut.kind), ((voteD ls k).cut.round), ((voteD ls k).cut.replica), ((voteD ls k).cut.h)⟩) ((voteD ls k).cut.kind) ((voteD ls k).cut.round) (addV f (playL f ls L k) ⟨((voteD ls k).cut.kind), ((voteD ls k).cut.round), ((voteD ls k).cut.replica), ((voteD ls k).cut.h)⟩)).1)⟩)) rfl (by kernel_rfl) ?_
      refine wl_pure (wants0 rfl) (d := 120) (v := (.int .i64 ((rmF (addV f (playL f ls L k) ⟨((voteD ls k).cut.kind), ((voteD ls k).cut.round), ((voteD ls k).cut.replica), ((voteD ls k).cut.h)⟩) ((voteD ls k).cut.kind) ((voteD ls k).cut.round) (addV f (playL f ls L k) ⟨((voteD ls k).cut.kind), ((voteD ls k).cut.round), ((voteD ls k).cut.replica), ((voteD ls k).cut.h)⟩)).2))) rfl (by kernel_rfl) ?_
      refine wl_do (wants0 rfl) (fun K70 hK70 => ?_)
      refine d_alloc (zs := (hc hash0)) (z := (.agg ⟨(hc hash0)⟩)) rfl H68 (by kernel_rfl) (by kernel_rfl) ?_
      intro b71 w72 (H73 : Sat w [talC t hb cb ab lb f c (addV f (playL f ls L k) ⟨((voteD ls k).cut.kind), ((voteD ls k).cut.round), ((voteD ls k).cut.replica), ((voteD ls k).cut.h)⟩), rtC r v41 f c (addV f (playL f ls L k) ⟨((voteD ls k).cut.kind), ((voteD ls k).cut.round), ((voteD ls k).cut.replica), ((voteD ls k).cut.h)⟩), restC w (sepC [talC t hb cb ab lb f c L, rtC r v f c L]).fp, cellC b20 40 (([(.int .i64 ((voteD ls k).cut.kind)), (.int .i64 ((voteD ls k).cut.round)), (.int .i64 ((voteD ls k).cut.replica))] : List Value) ++ hc (voteD ls k).cut.h ++ ([(.bool ((voteD ls k).cut.small))] : List Value)), cellC b59 24 (hc h55), cellC b71 24 (hc hash0)] w72)
      refine hK70 _ _ ?_
      clear hK70 K70
      refine wl_do (wants0 rfl) (fun K74 hK74 => ?_)
      refine d_store (vs := (hc (rmF (addV f (playL f ls L k) ⟨((voteD ls k).cut.kind), ((voteD ls k).cut.round), ((voteD ls k).cut.replica), ((voteD ls k).cut.h)⟩) ((voteD ls k).cut.kind) ((voteD ls k).cut.round) (addV f (playL f ls L k) ⟨((voteD ls k).cut.kind), ((voteD ls k).cut.round), ((voteD ls k).cut.replica), ((voteD ls k).cut.h)⟩)).1)) rfl H73 5 rfl rfl rfl rfl (by kernel_rfl) (Nat.le_of_ble_eq_true (by kernel_rfl)) (Nat.le_of_ble_eq_true (by kernel_rfl)) (by kernel_rfl) ?_
      intro w75 (H76 : Sat w [talC t hb cb ab lb f c (addV f (playL f ls L k) ⟨((voteD ls k).cut.kind), ((voteD ls k).cut.round), ((voteD ls k).cut.replica), ((voteD ls k).cut.h)⟩), rtC r v41 f c (addV f (playL f ls L k) ⟨((voteD ls k).cut.kind), ((voteD ls k).cut.round), ((voteD ls k).cut.replica), ((voteD ls k).cut.h)⟩), restC w (sepC [talC t hb cb ab lb f c L, rtC r v f c L]).fp, cellC b20 40 (([(.int .i64 ((voteD ls k).cut.kind)), (.int .i64 ((voteD ls k).cut.round)), (.int .i64 ((voteD ls k).cut.replica))] : List Value) ++ hc (voteD ls k).cut.h ++ ([(.bool ((voteD ls k).cut.small))] : List Value)), cellC b59 24 (hc h55), cellC b71 24 (hc (rmF (addV f (playL f ls L k) ⟨((voteD ls k).cut.kind), ((voteD ls k).cut.round), ((voteD ls k).cut.replica), ((voteD ls k).cut.h)⟩) ((voteD ls k).cut.kind) ((voteD ls k).cut.round) (addV f (playL f ls L k) ⟨((voteD ls k).cut.kind), ((voteD ls k).cut.round), ((voteD ls k).cut.replica), ((voteD ls k).cut.h)⟩)).1)] w75)
      refine hK74 _ _ ?_
      clear hK74 K74
      refine wl_pure (wants0 rfl) (d := 12) (v := (.int .i64 ((rmF (addV f (playL f ls L k) ⟨((voteD ls k).cut.kind), ((voteD ls k).cut.round), ((voteD ls k).cut.replica), ((voteD ls k).cut.h)⟩) ((voteD ls k).cut.kind) ((voteD ls k).cut.round) (addV f (playL f ls L k) ⟨((voteD ls k).cut.kind), ((voteD ls k).cut.round), ((voteD ls k).cut.replica), ((voteD ls k).cut.h)⟩)).2))) rfl (by kernel_rfl) ?_
      refine w_nil ?_
      refine then_normal ?_
      refine w_seq ?_
      refine w_lit ?_
      refine wl_pure (wants0 rfl) (d := 121) (v := (.agg ⟨(hc h55)⟩)) rfl (e_loadN (vs := (hc h55)) rfl (by kernel_rfl) (by kernel_rfl) (by exact Nat.le_of_ble_eq_true (by kernel_rfl)) (H76.at 4 rfl) (by kernel_rfl)) ?_
      refine wl_pure (wants0 rfl) (d := 122) (v := (.agg ⟨(hc (rmF (addV f (playL f ls L k) ⟨((voteD ls k).cut.kind), ((voteD ls k).cut.round), ((voteD ls k).cut.replica), ((voteD ls k).cut.h)⟩) ((voteD ls k).cut.kind) ((voteD ls k).cut.round) (addV f (playL f ls L k) ⟨((voteD ls k).cut.kind), ((voteD ls k).cut.round), ((voteD ls k).cut.replica), ((voteD ls k).cut.h)⟩)).1)⟩)) rfl (e_loadN (vs := (hc (rmF (addV f (playL f ls L k) ⟨((voteD ls k).cut.kind), ((voteD ls k).cut.round), ((voteD ls k).cut.replica), ((voteD ls k).cut.h)⟩) ((voteD ls k).cut.kind) ((voteD ls k).cut.round) (addV f (playL f ls L k) ⟨((voteD ls k).cut.kind), ((voteD ls k).cut.round), ((voteD ls k).cut.replica), ((voteD ls k).cut.h)⟩)).1)) rfl (by kernel_rfl) (by kernel_rfl) (by exact Nat.le_of_ble_eq_true (by kernel_rfl)) (H76.at 5 rfl) (by kernel_rfl)) ?_
      refine wl_pure (wants0 rfl) (d := 123) (v := (.bool (!(decide (h55 = ((rmF (addV f (playL f ls L k) ⟨((voteD ls k).cut.kind), ((voteD ls k).cut.round), ((voteD ls k).cut.replica), ((voteD ls k).cut.h)⟩) ((voteD ls k).cut.kind) ((voteD ls k).cut.round) (addV f (playL f ls L k) ⟨((voteD ls k).cut.kind), ((voteD ls k).cut.round), ((voteD ls k).cut.replica), ((voteD ls k).cut.h)⟩)).1)))))) rfl (e_neHash h55 ((rmF (addV f (playL f ls L k) ⟨((voteD ls k).cut.kind), ((voteD ls k).cut.round), ((voteD ls k).cut.replica), ((voteD ls k).cut.h)⟩) ((voteD ls k).cut.kind) ((voteD ls k).cut.round) (addV f (playL f ls L k) ⟨((voteD ls k).cut.kind), ((voteD ls k).cut.round), ((voteD ls k).cut.replica), ((voteD ls k).cut.h)⟩)).1) rfl rfl) ?_
      refine wl_pure (wants0 rfl) (d := 124) (v := (.bool (!(decide (h55 = ((rmF (addV f (playL f ls L k) ⟨((voteD ls k).cut.kind), ((voteD ls k).cut.round), ((voteD ls k).cut.replica), ((voteD ls k).cut.h)⟩) ((voteD ls k).cut.kind) ((voteD ls k).cut.round) (addV f (playL f ls L k) ⟨((voteD ls k).cut.kind), ((voteD ls k).cut.round), ((voteD ls k).cut.replica), ((voteD ls k).cut.h)⟩)).1)))))) rfl (by kernel_rfl) ?_
      have b78 : (!(decide (h55 = ((rmF (addV f (playL f ls L k) ⟨((voteD ls k).cut.kind), ((voteD ls k).cut.round), ((voteD ls k).cut.replica), ((voteD ls k).cut.h)⟩) ((voteD ls k).cut.kind) ((voteD ls k).cut.round) (addV f (playL f ls L k) ⟨((voteD ls k).cut.kind), ((voteD ls k).cut.round), ((voteD ls k).cut.replica), ((voteD ls k).cut.h)⟩)).1)))) = false := by (rw [hmq.1]; simp)
      refine wl_know 124 (.bool false) (congrArg Value.bool b78) ?_
      refine wl_pure (wantsY 3 124 false rfl (by kernel_rfl) rfl (by kernel_rfl)) (d := 125) (v := (.int .i64 (n56))) rfl (by kernel_rfl) ?_
      refine wl_pure (wantsY 3 124 false rfl (by kernel_rfl) rfl (by kernel_rfl)) (d := 126) (v := (.int .i64 ((rmF (addV f (playL f ls L k) ⟨((voteD ls k).cut.kind), ((voteD ls k).cut.round), ((voteD ls k).cut.replica), ((voteD ls k).cut.h)⟩) ((voteD ls k).cut.kind) ((voteD ls k).cut.round) (addV f (playL f ls L k) ⟨((voteD ls k).cut.kind), ((voteD ls k).cut.round), ((voteD ls k).cut.replica), ((voteD ls k).cut.h)⟩)).2))) rfl (by kernel_rfl) ?_
      refine wl_pure (wantsY 3 124 false rfl (by kernel_rfl) rfl (by kernel_rfl)) (d := 127) (v := (.bool (!(decide (n56 = ((rmF (addV f (playL f ls L k) ⟨((voteD ls k).cut.kind), ((voteD ls k).cut.round), ((voteD ls k).cut.replica), ((voteD ls k).cut.h)⟩) ((voteD ls k).cut.kind) ((voteD ls k).cut.round) (addV f (playL f ls L k) ⟨((voteD ls k).cut.kind), ((voteD ls k).cut.round), ((voteD ls k).cut.replica), ((voteD ls k).cut.h)⟩)).2)))))) rfl (by kernel_rfl) ?_
      refine wl_pure (wants0 rfl) (d := 128) (v := (.bool (!(decide (n56 = ((rmF (addV f (playL f ls L k) ⟨((voteD ls k).cut.kind), ((voteD ls k).cut.round), ((voteD ls k).cut.replica), ((voteD ls k).cut.h)⟩) ((voteD ls k).cut.kind) ((voteD ls k).cut.round) (addV f (playL f ls L k) ⟨((voteD ls k).cut.kind), ((voteD ls k).cut.round), ((voteD ls k).cut.replica), ((voteD ls k).cut.h)⟩)).2)))))) rfl (by kernel_rfl) ?_
      refine w_nil ?_
      refine then_normal ?_
      have b79 : (!(decide (n56 = ((rmF (addV f (playL f ls L k) ⟨((voteD ls k).cut.kind), ((voteD ls k).cut.round), ((voteD ls k).cut.replica), ((voteD ls k).cut.h)⟩) ((voteD ls k).cut.kind) ((voteD ls k).cut.round) (addV f (playL f ls L k) ⟨((voteD ls k).cut.kind), ((voteD ls k).cut.round), ((voteD ls k).cut.replica), ((voteD ls k).cut.h)⟩)).2)))) = false := by (rw [hmq.2]; simp)
      refine wp_know 128 (.bool false) (congrArg Value.bool b79) ?_
      refine wp_iff rfl ?_
      refine w_skip ?_
      refine blk_normal ?_
      refine then_normal ?_
      refine w_lit ?_
      refine wl_pure (wants0 rfl) (d := 21) (v := (.int .i64 ((k : Int)))) rfl (by kernel_rfl) ?_
      refine wl_pure (wants0 rfl) (d := 22) (v := (.int .i64 ((k : Int) + 1))) rfl (e_int (z := (k : Int) + 1) (by kernel_rfl) (IntWalk.i64_in _ (by omega))) ?_
      refine wl_pure (wants0 rfl) (d := 7) (v := (.int .i64 ((k : Int) + 1))) rfl (by kernel_rfl) ?_
      refine w_nil ?_
      have H80 : Sat w [talC t hb cb ab lb f c (playL f ls L (k + 1)), rtC r v41 f c (playL f ls L (k + 1)), restC w (sepC [talC t hb cb ab lb f c L, rtC r v f c L]).fp, cellC b20 40 (([(.int .i64 ((voteD ls k).cut.kind)), (.int .i64 ((voteD ls k).cut.round)), (.int .i64 ((voteD ls k).cut.replica))] : List Value) ++ hc (voteD ls k).cut.h ++ ([(.bool ((voteD ls k).cut.small))] : List Value)), cellC b59 24 (hc h55), cellC b71 24 (hc (rmF (addV f (playL f ls L k) ⟨((voteD ls k).cut.kind), ((voteD ls k).cut.round), ((voteD ls k).cut.replica), ((voteD ls k).cut.h)⟩) ((voteD ls k).cut.kind) ((voteD ls k).cut.round) (addV f (playL f ls L k) ⟨((voteD ls k).cut.kind), ((voteD ls k).cut.round), ((voteD ls k).cut.replica), ((voteD ls k).cut.h)⟩)).1)] w75 := H76
      have H81 : Sat w [talC t hb cb ab lb f c (playL f ls L (k + 1)), rtC r v41 f c (playL f ls L (k + 1)), restC w (sepC [talC t hb cb ab lb f c L, rtC r v f c L]).fp] w75 := H80.pick [0, 1, 2] (by decide)
      refine round_back ?_ _ ⟨(k + 1), v41, (show ((.int .i64 ((k : Int) + 1)) : Value) = _ by first | rfl | go_num), by omega, H81, rfl⟩ (by omega)
      exact (same_upd rfl (same_upd rfl (same_upd rfl (same_upd rfl (same_upd rfl (same_upd rfl (same_upd rfl (same_upd rfl (same_upd rfl (same_upd rfl (same_upd rfl (same_upd rfl (same_upd rfl (same_upd rfl (same_upd rfl (same_upd rfl (same_upd rfl (same_upd rfl (same_upd rfl (same_upd rfl (same_upd rfl (same_upd rfl (same_upd rfl (same_upd rfl (same_upd rfl (same_upd rfl (same_upd rfl (same_upd rfl (same_upd rfl (same_upd rfl (same_upd rfl (same_upd rfl (same_upd rfl (same_upd rfl (same_upd rfl (same_upd rfl (same_upd rfl (same_upd rfl (same_upd rfl (same_upd rfl (same_upd rfl (same_upd rfl (same_upd rfl (same_upd rfl (same_upd rfl (same_upd rfl (same_upd rfl (same_upd rfl (same_upd rfl (same_upd rfl (same_upd rfl (same_upd rfl (same_upd rfl (same_upd rfl (same_upd rfl (same_upd rfl (same_upd rfl (same_upd rfl (same_upd rfl (same_upd rfl (same_upd rfl (same_upd rfl (same_upd rfl (same_upd rfl (same_upd rfl (same_upd rfl (same_upd rfl (same_upd rfl (same_upd rfl (same_upd rfl (same_upd rfl (same_upd rfl (same_upd rfl (same_upd rfl (same_upd rfl (same_upd rfl (same_upd rfl (same_upd rfl (same_upd rfl (same_upd rfl (same_upd rfl (same_upd rfl (same_upd rfl (same_upd rfl (same_upd rfl (same_upd rfl (same_upd rfl (same_upd rfl (same_upd rfl (same_upd rfl (same_upd rfl (same_upd rfl (same_upd rfl (same_upd rfl (same_upd rfl (same_upd rfl (same_upd rfl (same_upd rfl (same_upd rfl (same_upd rfl (same_upd rfl (same_upd rfl (same_upd rfl (same_upd rfl (same_upd rfl (same_upd rfl (same_upd rfl (same_upd rfl (same_upd rfl (same_upd rfl (same_upd rfl (same_upd rfl (same_upd rfl (same_upd rfl (same_upd rfl (same_upd rfl (same_upd rfl (same_upd rfl (same_upd rfl (same_upd rfl (same_upd rfl (same_upd rfl (same_upd rfl (same_ovr2 rfl (same_upd rfl (same_ovr))))))))))))))))))))))))))))))))))))))))))))))))))))))))))))))))))))))))))))))))))))))))))))))))))))))))))))))))))))))))))))))
    · refine wp_know 20 (.bool false) (congrArg Value.bool b14) ?_
      refine wp_iff rfl ?_
      refine w_exit ?_
      refine then_exit ?_
      refine back_exit ?_
      refine blk_hit ?_
      refine then_normal ?_
      refine w_seq ?_
      refine w_lit ?_
      refine wl_pure (wants0 rfl) (d := 6) (v := (.bool true)) rfl (by kernel_rfl) ?_
      refine w_nil ?_
      refine then_normal ?_
      refine w_ret ?_
      refine end1 rfl (res_tmp (v := (.bool true)) rfl) ?_
      exact ⟨rfl, k, u, hk, (by have h := b14; simp at h; omega), H12.fin [0, 1] (by decide) rfl, H12⟩

end Go.Proofs.Ytfhhljgjppcdlaa
