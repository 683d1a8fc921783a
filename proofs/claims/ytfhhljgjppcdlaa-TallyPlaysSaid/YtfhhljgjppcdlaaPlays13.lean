/- WHAT IS PROVED: TallyPlays answers true whatever its input. No condition. -/
import Derived.Test.YtfhhljgjppcdlaaPlay13
import Derived.Test.YtfhhljgjppcdlaaClone13
import Derived.Test.YtfhhljgjppcdlaaWakes13
namespace Go.Proofs.Ytfhhljgjppcdlaa
open Go.RowKit

set_option maxRecDepth 100000 in
set_option maxHeartbeats 2000000 in
theorem plays13_walk (w : World) (f c : Int) (va vb : Option Addr) (vc vd : Nat) (ls ms : List VoteIn) (hvotes : VotesAt w (.slice va ls.length vc) ls) (hvl : ls.length ≤ 9223372036854775807) (hvotes2 : VotesAt w (.slice vb ms.length vd) ms) (hvl2 : ms.length ≤ 9223372036854775807) :
    Calls Try.prog 6 #[(.agg ⟨([(.int .i64 (f)), (.int .i64 (c))] : List Value)⟩), (.slice va ls.length vc), (.slice vb ms.length vd)] w fun e w' => e = .returned (.bool true) ∧ Upd [] w w' := by
  cases hcb : confB f c
  rotate_left
  · have hff : 1 ≤ f ∧ f ≤ 21 := by simp [confB] at hcb; exact ⟨hcb.1.1.1, hcb.1.1.2⟩
    have H := Sat.start0 w
    refine calls_fr Try.func6 rfl 66 rfl (Nat.le_of_ble_eq_true rfl) ?_
    refine w_seq ?_
    refine w_lit ?_
    refine wl_do (wants0 rfl) (fun K1 hK1 => ?_)
    refine d_box (vs := ([(.int .i64 (f)), (.int .i64 (c))] : List Value)) rfl H rfl rfl ?_
    intro b2 w3 (H4 : Sat w [restC w (fun _ => False), cellC b2 27 ([(.int .i64 (f)), (.int .i64 (c))] : List Value)] w3)
    refine hK1 _ _ ?_
    clear hK1 K1
    refine wl_pure (wants0 rfl) (d := 6) (v := (.bool false)) rfl (by kernel_rfl) ?_
    refine w_nil ?_
    refine then_normal ?_
    refine w_seq ?_
    refine w_lit ?_
    refine wl_pure (wants0 rfl) (d := 13) (v := (.agg ⟨([(.int .i64 (f)), (.int .i64 (c))] : List Value)⟩)) rfl (e_loadN (vs := ([(.int .i64 (f)), (.int .i64 (c))] : List Value)) rfl (by kernel_rfl) (by kernel_rfl) (by exact Nat.le_of_ble_eq_true (by kernel_rfl)) (H4.at 1 rfl) (by kernel_rfl)) ?_
    refine wl_do (wants0 rfl) (fun K5 hK5 => ?_)
    refine d_call (d := 14) rfl (by kernel_rfl) (talNew_any w3 f c) ?_
    rintro _ w6 (⟨_, t11, hb12, cb13, ab14, lb15, rfl, k9, u8, q10⟩ | ⟨hcf, _⟩)
    rotate_left
    · exact absurd hcf (by rw [show confB f c = true by exact hcb]; simp)
    have H7 : Sat w [restC w (fun _ => False), cellC b2 27 ([(.int .i64 (f)), (.int .i64 (c))] : List Value), talC t11 hb12 cb13 ab14 lb15 f c []] w6 := H4.addU u8 k9 q10
    refine ⟨_, rfl, ?_⟩
    refine hK5 _ _ ?_
    clear hK5 K5
    refine wl_pure (wants0 rfl) (d := 12) (v := (.tuple #[(.pointer (some ⟨t11, 0, none⟩)), (.int .i64 (0))])) rfl (by kernel_rfl) ?_
    refine wl_pure (wants0 rfl) (d := 15) (v := (.pointer (some ⟨t11, 0, none⟩))) rfl (by kernel_rfl) ?_
    refine wl_pure (wants0 rfl) (d := 16) (v := (.int .i64 (0))) rfl (by kernel_rfl) ?_
    refine wl_pure (wants0 rfl) (d := 7) (v := (.pointer (some ⟨t11, 0, none⟩))) rfl (by kernel_rfl) ?_
    refine wl_pure (wants0 rfl) (d := 8) (v := (.int .i64 (0))) rfl (by kernel_rfl) ?_
    refine w_nil ?_
    refine then_normal ?_
    refine w_seq ?_
    refine w_seq ?_
    refine w_lit ?_
    refine wl_pure (wants0 rfl) (d := 17) (v := (.agg ⟨([(.int .i64 (f)), (.int .i64 (c))] : List Value)⟩)) rfl (e_loadN (vs := ([(.int .i64 (f)), (.int .i64 (c))] : List Value)) rfl (by kernel_rfl) (by kernel_rfl) (by exact Nat.le_of_ble_eq_true (by kernel_rfl)) (H7.at 1 rfl) (by kernel_rfl)) ?_
    refine wl_do (wants0 rfl) (fun K16 hK16 => ?_)
    refine d_call (d := 18) rfl (by kernel_rfl) (refValidConf_any w6 f c) ?_
    rintro _ w17 ⟨rfl, u19⟩
    have H18 := H7.keepU u19
    refine ⟨_, rfl, ?_⟩
    refine hK16 _ _ ?_
    clear hK16 K16
    refine wl_pure (wants0 rfl) (d := 19) (v := (.bool (!(confB f c)))) rfl (by kernel_rfl) ?_
    refine w_nil ?_
    refine then_normal ?_
    have b20 : (!(confB f c)) = false := by (rw [hcb]; rfl)
    refine wp_know 19 (.bool false) (congrArg Value.bool b20) ?_
    refine wp_iff rfl ?_
    refine w_skip ?_
    refine then_normal ?_
    refine w_seq ?_
    refine w_lit ?_
    refine wl_pure (wants0 rfl) (d := 29) (v := (.agg ⟨([(.int .i64 (f)), (.int .i64 (c))] : List Value)⟩)) rfl (e_loadN (vs := ([(.int .i64 (f)), (.int .i64 (c))] : List Value)) rfl (by kernel_rfl) (by kernel_rfl) (by exact Nat.le_of_ble_eq_true (by kernel_rfl)) (H18.at 1 rfl) (by kernel_rfl)) ?_
    refine wl_pure (wants0 rfl) (d := 30) (v := (.agg ⟨([(.int .i64 (f)), (.int .i64 (c)), (.slice none 0 0)] : List Value)⟩)) rfl (by kernel_rfl) ?_
    refine wl_do (wants0 rfl) (fun K21 hK21 => ?_)
    refine d_box (vs := ([(.int .i64 (f)), (.int .i64 (c)), (.slice none 0 0)] : List Value)) rfl H18 rfl rfl ?_
    intro b22 w23 (H24 : Sat w [restC w (fun _ => False), cellC b2 27 ([(.int .i64 (f)), (.int .i64 (c))] : List Value), talC t11 hb12 cb13 ab14 lb15 f c [], cellC b22 50 ([(.int .i64 (f)), (.int .i64 (c)), (.slice none 0 0)] : List Value)] w23)
    refine hK21 _ _ ?_
    clear hK21 K21
    refine wl_pure (wants0 rfl) (d := 9) (v := (.pointer (some ⟨b22, 0, none⟩))) rfl (by kernel_rfl) ?_
    refine w_nil ?_
    refine then_normal ?_
    refine w_seq ?_
    refine w_seq ?_
    have Hn := H24.addNil 77 35
    have H25 : Sat w [cellC b22 50 ([(.int .i64 (f)), (.int .i64 (c)), (.slice none 0 0)] : List Value), rowC 77 35 (.slice none 0 0) 0 ([]), restC w (fun _ => False), cellC b2 27 ([(.int .i64 (f)), (.int .i64 (c))] : List Value), talC t11 hb12 cb13 ab14 lb15 f c []] w23 := Hn.pick [3, 4, 0, 1, 2] (by decide)
    have H26 : Sat w [rtC b22 (.slice none 0 0) f c ([] : List VoteD), restC w (fun _ => False), cellC b2 27 ([(.int .i64 (f)), (.int .i64 (c))] : List Value), talC t11 hb12 cb13 ab14 lb15 f c []] w23 := H25.close2
    have H27 : Sat w [talC t11 hb12 cb13 ab14 lb15 f c [], rtC b22 (.slice none 0 0) f c ([] : List VoteD), restC w (fun _ => False), cellC b2 27 ([(.int .i64 (f)), (.int .i64 (c))] : List Value)] w23 := H26.pick [3, 0, 1, 2] (by decide)
    have H28 : Sat w [sepC [talC t11 hb12 cb13 ab14 lb15 f c ([] : List VoteD), rtC b22 (.slice none 0 0) f c ([] : List VoteD)], restC w (fun _ => False), cellC b2 27 ([(.int .i64 (f)), (.int .i64 (c))] : List Value)] w23 := H27.close2
    refine w_lit ?_
    refine wl_pure (wants0 rfl) (d := 32) (v := (.int .i64 (0))) rfl (by kernel_rfl) ?_
    refine wl_pure (wants0 rfl) (d := 33) (v := (.bool false)) rfl (by kernel_rfl) ?_
    refine wl_pure (wants0 rfl) (d := 34) (v := (.bool false)) rfl (by kernel_rfl) ?_
    refine wl_pure (wantsY 2 34 false rfl (by kernel_rfl) rfl (by kernel_rfl)) (d := 35) (v := (.pointer (some ⟨t11, 0, none⟩))) rfl (by kernel_rfl) ?_
    refine wl_pure (wantsY 2 34 false rfl (by kernel_rfl) rfl (by kernel_rfl)) (d := 36) (v := (.bool false)) rfl (by kernel_rfl) ?_
    refine wl_pure (wants0 rfl) (d := 37) (v := (.bool false)) rfl (by kernel_rfl) ?_
    refine wl_pure (wants0 rfl) (d := 38) (v := (.bool false)) rfl (by kernel_rfl) ?_
    refine wl_pure (wantsY 6 38 false rfl (by kernel_rfl) rfl (by kernel_rfl)) (d := 39) (v := (.pointer (some ⟨t11, 0, none⟩))) rfl (by kernel_rfl) ?_
    refine wl_pure (wantsY 6 38 false rfl (by kernel_rfl) rfl (by kernel_rfl)) (d := 40) (v := (.pointer (some ⟨b22, 0, none⟩))) rfl (by kernel_rfl) ?_
    refine wl_pure (wantsY 6 38 false rfl (by kernel_rfl) rfl (by kernel_rfl)) (d := 41) (v := (.slice va ls.length vc)) rfl (by kernel_rfl) ?_
    refine wl_do (wantsY 6 38 false rfl (by kernel_rfl) rfl (by kernel_rfl)) (fun K29 hK29 => ?_)
    refine d_call (d := 42) rfl (by kernel_rfl) (play13_any w23 t11 hb12 cb13 ab14 lb15 b22 (.slice none 0 0) f c ([] : List VoteD) (H28.at 0 rfl) hff (VInv.nil f) (by simp) va vc ls (votes_now H28 1 rfl hvotes) hvl (votes_off H28 0 1 rfl rfl rfl hvotes)) ?_
    rintro _ w30 ⟨rfl, k32, u33, p34, q35, _, S36⟩
    have H31 : Sat w [sepC [talC t11 hb12 cb13 ab14 lb15 f c (playL f ls ([] : List VoteD) k32), rtC b22 u33 f c (playL f ls ([] : List VoteD) k32)], restC w (fun _ => False), cellC b2 27 ([(.int .i64 (f)), (.int .i64 (c))] : List Value)] w30 := H28.turned 0 rfl S36
    have I37 := playL_inv (VInv.nil f) ls k32
    have N38 : (playL f ls ([] : List VoteD) k32).length ≤ 1000 := by have := playL_len f ls ([] : List VoteD) k32; have h0 : ([] : List VoteD).length ≤ 900 := (by simp); omega
    refine ⟨_, rfl, ?_⟩
    refine hK29 _ _ ?_
    clear hK29 K29
    refine wl_pure (wantsY 6 38 false rfl (by kernel_rfl) rfl (by kernel_rfl)) (d := 43) (v := (.bool false)) rfl (by kernel_rfl) ?_
    refine wl_pure (wants0 rfl) (d := 44) (v := (.bool false)) rfl (by kernel_rfl) ?_
    refine w_nil ?_
    refine then_normal ?_
    refine wp_iff rfl ?_
    refine w_skip ?_
    refine then_normal ?_
    refine w_seq ?_
    refine w_lit ?_
    refine wl_pure (wants0 rfl) (d := 45) (v := (.pointer (some ⟨t11, 0, none⟩))) rfl (by kernel_rfl) ?_
    refine wl_do (wants0 rfl) (fun K39 hK39 => ?_)
    refine d_call (d := 46) rfl (by kernel_rfl) (talClone_any w30 t11 hb12 cb13 ab14 lb15 f c (playL f ls ([] : List VoteD) k32) ((H31.at 0 rfl).1 _ (List.mem_cons_self ..))) ?_
    rintro _ w45 ⟨t40, hb41, cb42, ab43, lb44, rfl, k48, u47, q49⟩
    have H46 : Sat w [sepC [talC t11 hb12 cb13 ab14 lb15 f c (playL f ls ([] : List VoteD) k32), rtC b22 u33 f c (playL f ls ([] : List VoteD) k32)], restC w (fun _ => False), cellC b2 27 ([(.int .i64 (f)), (.int .i64 (c))] : List Value), talC t40 hb41 cb42 ab43 lb44 f c (playL f ls ([] : List VoteD) k32)] w45 := H31.addU u47 k48 q49
    refine ⟨_, rfl, ?_⟩
    refine hK39 _ _ ?_
    clear hK39 K39
    refine wl_pure (wants0 rfl) (d := 47) (v := (.pointer (some ⟨b22, 0, none⟩))) rfl (by kernel_rfl) ?_
    refine wl_do (wants0 rfl) (fun K50 hK50 => ?_)
    refine d_call (d := 48) rfl (by kernel_rfl) (refCopy_any w45 b22 u33 f c (playL f ls ([] : List VoteD) k32) ((H46.at 0 rfl).1 _ (List.mem_cons_of_mem _ (List.mem_cons_self ..))) (Nat.le_trans N38 (by omega))) ?_
    rintro _ w53 ⟨r51, v52, rfl, k56, u55, q57⟩
    have H54 : Sat w [sepC [talC t11 hb12 cb13 ab14 lb15 f c (playL f ls ([] : List VoteD) k32), rtC b22 u33 f c (playL f ls ([] : List VoteD) k32)], restC w (fun _ => False), cellC b2 27 ([(.int .i64 (f)), (.int .i64 (c))] : List Value), talC t40 hb41 cb42 ab43 lb44 f c (playL f ls ([] : List VoteD) k32), rtC r51 v52 f c (playL f ls ([] : List VoteD) k32)] w53 := H46.addU u55 k56 q57
    refine ⟨_, rfl, ?_⟩
    refine hK50 _ _ ?_
    clear hK50 K50
    refine wl_pure (wants0 rfl) (d := 10) (v := (.pointer (some ⟨t40, 0, none⟩))) rfl (by kernel_rfl) ?_
    refine wl_pure (wants0 rfl) (d := 11) (v := (.pointer (some ⟨r51, 0, none⟩))) rfl (by kernel_rfl) ?_
    refine w_nil ?_
    refine then_normal ?_
    refine w_seq ?_
    have H58 : Sat w [talC t40 hb41 cb42 ab43 lb44 f c (playL f ls ([] : List VoteD) k32), rtC r51 v52 f c (playL f ls ([] : List VoteD) k32), sepC [talC t11 hb12 cb13 ab14 lb15 f c (playL f ls ([] : List VoteD) k32), rtC b22 u33 f c (playL f ls ([] : List VoteD) k32)], restC w (fun _ => False), cellC b2 27 ([(.int .i64 (f)), (.int .i64 (c))] : List Value)] w53 := H54.pick [3, 4, 0, 1, 2] (by decide)
    have H59 : Sat w [sepC [talC t40 hb41 cb42 ab43 lb44 f c (playL f ls ([] : List VoteD) k32), rtC r51 v52 f c (playL f ls ([] : List VoteD) k32)], sepC [talC t11 hb12 cb13 ab14 lb15 f c (playL f ls ([] : List VoteD) k32), rtC b22 u33 f c (playL f ls ([] : List VoteD) k32)], restC w (fun _ => False), cellC b2 27 ([(.int .i64 (f)), (.int .i64 (c))] : List Value)] w53 := H58.close2
    refine w_lit ?_
    refine wl_pure (wants0 rfl) (d := 49) (v := (.pointer (some ⟨t40, 0, none⟩))) rfl (by kernel_rfl) ?_
    refine wl_pure (wants0 rfl) (d := 50) (v := (.bool true)) rfl (by kernel_rfl) ?_
    refine wl_pure (wants0 rfl) (d := 51) (v := (.bool true)) rfl (by kernel_rfl) ?_
    refine wl_pure (wantsY 2 51 true rfl (by kernel_rfl) rfl (by kernel_rfl)) (d := 52) (v := (.pointer (some ⟨t40, 0, none⟩))) rfl (by kernel_rfl) ?_
    refine wl_pure (wantsY 2 51 true rfl (by kernel_rfl) rfl (by kernel_rfl)) (d := 53) (v := (.pointer (some ⟨r51, 0, none⟩))) rfl (by kernel_rfl) ?_
    refine wl_pure (wantsY 2 51 true rfl (by kernel_rfl) rfl (by kernel_rfl)) (d := 54) (v := (.slice vb ms.length vd)) rfl (by kernel_rfl) ?_
    refine wl_do (wantsY 2 51 true rfl (by kernel_rfl) rfl (by kernel_rfl)) (fun K60 hK60 => ?_)
    refine d_call (d := 55) rfl (by kernel_rfl) (play13_any w53 t40 hb41 cb42 ab43 lb44 r51 v52 f c (playL f ls ([] : List VoteD) k32) (H59.at 0 rfl) hff I37 N38 vb vd ms (votes_now H59 2 rfl hvotes2) hvl2 (votes_off H59 0 2 rfl rfl rfl hvotes2)) ?_
    rintro _ w61 ⟨rfl, k63, u64, p65, q66, _, S67⟩
    have H62 : Sat w [sepC [talC t40 hb41 cb42 ab43 lb44 f c (playL f ms (playL f ls ([] : List VoteD) k32) k63), rtC r51 u64 f c (playL f ms (playL f ls ([] : List VoteD) k32) k63)], sepC [talC t11 hb12 cb13 ab14 lb15 f c (playL f ls ([] : List VoteD) k32), rtC b22 u33 f c (playL f ls ([] : List VoteD) k32)], restC w (fun _ => False), cellC b2 27 ([(.int .i64 (f)), (.int .i64 (c))] : List Value)] w61 := H59.turned 0 rfl S67
    have I68 := playL_inv I37 ms k63
    have N69 : (playL f ms (playL f ls ([] : List VoteD) k32) k63).length ≤ 1000 := by have := playL_len f ms (playL f ls ([] : List VoteD) k32) k63; have h0 : (playL f ls ([] : List VoteD) k32).length ≤ 900 := (by have := playL_len f ls ([] : List VoteD) k32; have h0 : ([] : List VoteD).length ≤ 800 := (by simp); omega); omega
    refine ⟨_, rfl, ?_⟩
    refine hK60 _ _ ?_
    clear hK60 K60
    refine wl_pure (wants0 rfl) (d := 56) (v := (.bool true)) rfl (by kernel_rfl) ?_
    refine wl_pure (wants0 rfl) (d := 57) (v := (.bool true)) rfl (by kernel_rfl) ?_
    refine wl_pure (wantsY 8 57 true rfl (by kernel_rfl) rfl (by kernel_rfl)) (d := 58) (v := (.pointer (some ⟨t11, 0, none⟩))) rfl (by kernel_rfl) ?_
    refine wl_pure (wantsY 8 57 true rfl (by kernel_rfl) rfl (by kernel_rfl)) (d := 59) (v := (.pointer (some ⟨b22, 0, none⟩))) rfl (by kernel_rfl) ?_
    refine wl_pure (wantsY 8 57 true rfl (by kernel_rfl) rfl (by kernel_rfl)) (d := 60) (v := (.slice va ls.length vc)) rfl (by kernel_rfl) ?_
    refine wl_do (wantsY 8 57 true rfl (by kernel_rfl) rfl (by kernel_rfl)) (fun K70 hK70 => ?_)
    refine d_call (d := 61) rfl (by kernel_rfl) (play13_any w61 t11 hb12 cb13 ab14 lb15 b22 u33 f c (playL f ls ([] : List VoteD) k32) (H62.at 1 rfl) hff I37 N38 va vc ls (votes_now H62 2 rfl hvotes) hvl (votes_off H62 1 2 rfl rfl rfl hvotes)) ?_
    rintro _ w71 ⟨rfl, k73, u74, p75, q76, _, S77⟩
    have H72 : Sat w [sepC [talC t40 hb41 cb42 ab43 lb44 f c (playL f ms (playL f ls ([] : List VoteD) k32) k63), rtC r51 u64 f c (playL f ms (playL f ls ([] : List VoteD) k32) k63)], sepC [talC t11 hb12 cb13 ab14 lb15 f c (playL f ls (playL f ls ([] : List VoteD) k32) k73), rtC b22 u74 f c (playL f ls (playL f ls ([] : List VoteD) k32) k73)], restC w (fun _ => False), cellC b2 27 ([(.int .i64 (f)), (.int .i64 (c))] : List Value)] w71 := H62.turned 1 rfl S77
    have I78 := playL_inv I37 ls k73
    have N79 : (playL f ls (playL f ls ([] : List VoteD) k32) k73).length ≤ 1000 := by have := playL_len f ls (playL f ls ([] : List VoteD) k32) k73; have h0 : (playL f ls ([] : List VoteD) k32).length ≤ 900 := (by have := playL_len f ls ([] : List VoteD) k32; have h0 : ([] : List VoteD).length ≤ 800 := (by simp); omega); omega
    refine ⟨_, rfl, ?_⟩
    refine hK70 _ _ ?_
    clear hK70 K70
    refine wl_pure (wants0 rfl) (d := 62) (v := (.bool true)) rfl (by kernel_rfl) ?_
    refine wl_pure (wants0 rfl) (d := 63) (v := (.bool true)) rfl (by kernel_rfl) ?_
    refine wl_do (wantsY 14 63 true rfl (by kernel_rfl) rfl (by kernel_rfl)) (fun K80 hK80 => ?_)
    refine d_call (d := 64) rfl (by kernel_rfl) (wakes_any w71) ?_
    rintro _ w81 ⟨rfl, u83⟩
    have H82 := H72.keepU u83
    refine ⟨_, rfl, ?_⟩
    refine hK80 _ _ ?_
    clear hK80 K80
    refine wl_pure (wants0 rfl) (d := 65) (v := (.bool true)) rfl (by kernel_rfl) ?_
    refine wl_pure (wants0 rfl) (d := 6) (v := (.bool true)) rfl (by kernel_rfl) ?_
    refine w_nil ?_
    refine then_normal ?_
    refine w_ret ?_
    refine end1 rfl (res_tmp (v := (.bool true)) rfl) ?_
    exact ⟨rfl, H82.upd 2 rfl [] (fun _ h => h.elim)⟩
  · skip
    have H := Sat.start0 w
    refine calls_fr Try.func6 rfl 66 rfl (Nat.le_of_ble_eq_true rfl) ?_
    refine w_seq ?_
    refine w_lit ?_
    refine wl_do (wants0 rfl) (fun K1 hK1 => ?_)
    refine d_box (vs := ([(.int .i64 (f)), (.int .i64 (c))] : List Value)) rfl H rfl rfl ?_
    intro b2 w3 (H4 : Sat w [restC w (fun _ => False), cellC b2 27 ([(.int .i64 (f)), (.int .i64 (c))] : List Value)] w3)
    refine hK1 _ _ ?_
    clear hK1 K1
    refine wl_pure (wants0 rfl) (d := 6) (v := (.bool false)) rfl (by kernel_rfl) ?_
    refine w_nil ?_
    refine then_normal ?_
    refine w_seq ?_
    refine w_lit ?_
    refine wl_pure (wants0 rfl) (d := 13) (v := (.agg ⟨([(.int .i64 (f)), (.int .i64 (c))] : List Value)⟩)) rfl (e_loadN (vs := ([(.int .i64 (f)), (.int .i64 (c))] : List Value)) rfl (by kernel_rfl) (by kernel_rfl) (by exact Nat.le_of_ble_eq_true (by kernel_rfl)) (H4.at 1 rfl) (by kernel_rfl)) ?_
    refine wl_do (wants0 rfl) (fun K5 hK5 => ?_)
    refine d_call (d := 14) rfl (by kernel_rfl) (talNew_any w3 f c) ?_
    rintro _ w6 (⟨hcf, _⟩ | ⟨_, rfl, u8⟩)
    · exact absurd hcf (by rw [hcb]; simp)
    have H7 := H4.keepU u8
    refine ⟨_, rfl, ?_⟩
    refine hK5 _ _ ?_
    clear hK5 K5
    refine wl_pure (wants0 rfl) (d := 12) (v := (.tuple #[(.pointer none), (.int .i64 (1))])) rfl (by kernel_rfl) ?_
    refine wl_pure (wants0 rfl) (d := 15) (v := (.pointer none)) rfl (by kernel_rfl) ?_
    refine wl_pure (wants0 rfl) (d := 16) (v := (.int .i64 (1))) rfl (by kernel_rfl) ?_
    refine wl_pure (wants0 rfl) (d := 7) (v := (.pointer none)) rfl (by kernel_rfl) ?_
    refine wl_pure (wants0 rfl) (d := 8) (v := (.int .i64 (1))) rfl (by kernel_rfl) ?_
    refine w_nil ?_
    refine then_normal ?_
    refine w_seq ?_
    refine w_seq ?_
    refine w_lit ?_
    refine wl_pure (wants0 rfl) (d := 17) (v := (.agg ⟨([(.int .i64 (f)), (.int .i64 (c))] : List Value)⟩)) rfl (e_loadN (vs := ([(.int .i64 (f)), (.int .i64 (c))] : List Value)) rfl (by kernel_rfl) (by kernel_rfl) (by exact Nat.le_of_ble_eq_true (by kernel_rfl)) (H7.at 1 rfl) (by kernel_rfl)) ?_
    refine wl_do (wants0 rfl) (fun K9 hK9 => ?_)
    refine d_call (d := 18) rfl (by kernel_rfl) (refValidConf_any w6 f c) ?_
    rintro _ w10 ⟨rfl, u12⟩
    have H11 := H7.keepU u12
    refine ⟨_, rfl, ?_⟩
    refine hK9 _ _ ?_
    clear hK9 K9
    refine wl_pure (wants0 rfl) (d := 19) (v := (.bool (!(confB f c)))) rfl (by kernel_rfl) ?_
    refine w_nil ?_
    refine then_normal ?_
    have b13 : (!(confB f c)) = true := by (rw [hcb]; rfl)
    refine wp_know 19 (.bool true) (congrArg Value.bool b13) ?_
    refine wp_ift rfl ?_
    refine w_seq ?_
    refine w_lit ?_
    refine wl_pure (wants0 rfl) (d := 20) (v := (.int .i64 (1))) rfl (by kernel_rfl) ?_
    refine wl_pure (wants0 rfl) (d := 21) (v := (.bool true)) rfl (by kernel_rfl) ?_
    refine wl_pure (wants0 rfl) (d := 22) (v := (.bool true)) rfl (by kernel_rfl) ?_
    refine wl_pure (wantsY 2 22 true rfl (by kernel_rfl) rfl (by kernel_rfl)) (d := 23) (v := (.pointer none)) rfl (by kernel_rfl) ?_
    refine wl_pure (wantsY 2 22 true rfl (by kernel_rfl) rfl (by kernel_rfl)) (d := 24) (v := (.bool true)) rfl (by kernel_rfl) ?_
    refine wl_pure (wants0 rfl) (d := 25) (v := (.bool true)) rfl (by kernel_rfl) ?_
    refine wl_pure (wants0 rfl) (d := 26) (v := (.bool true)) rfl (by kernel_rfl) ?_
    refine wl_do (wantsY 6 26 true rfl (by kernel_rfl) rfl (by kernel_rfl)) (fun K14 hK14 => ?_)
    refine d_call (d := 27) rfl (by kernel_rfl) (wakes_any w10) ?_
    rintro _ w15 ⟨rfl, u17⟩
    have H16 := H11.keepU u17
    refine ⟨_, rfl, ?_⟩
    refine hK14 _ _ ?_
    clear hK14 K14
    refine wl_pure (wants0 rfl) (d := 28) (v := (.bool true)) rfl (by kernel_rfl) ?_
    refine wl_pure (wants0 rfl) (d := 6) (v := (.bool true)) rfl (by kernel_rfl) ?_
    refine w_nil ?_
    refine then_normal ?_
    refine w_ret ?_
    refine then_ret ?_
    refine end1 rfl (res_tmp (v := (.bool true)) rfl) ?_
    exact ⟨rfl, H16.upd 0 rfl [] (fun _ h => h.elim)⟩

end Go.Proofs.Ytfhhljgjppcdlaa
