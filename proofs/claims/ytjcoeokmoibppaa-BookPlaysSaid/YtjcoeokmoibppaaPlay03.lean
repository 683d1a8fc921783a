/- WHAT IS PROVED: both books played. Conditions: stated with each. -/
import Derived.Test.YtjcoeokmoibppaaSigT
namespace Go.Proofs.Ytjcoeokmoibppaa
open Go.RowKit

def withinV (v n : Int) : Int := if n < 1 then 0 else v % n
theorem within_lim (v n : Int) (h : 1 ≤ n) : 0 ≤ withinV v n ∧ withinV v n < n := by
  unfold withinV; rw [if_neg (by omega)]
  exact ⟨Int.emod_nonneg _ (by omega), Int.emod_lt_of_pos _ (by omega)⟩

set_option maxRecDepth 100000 in
set_option maxHeartbeats 400000 in
theorem withinC_any (w : World) (v n : Int) (hn : n ≤ 4611686018427387904) :
    Calls Try.prog 14 #[(.int .i64 (v)), (.int .i64 (n))] w fun e w' => e = .returned (.int .i64 (withinV v n)) ∧ Upd [] w w' := by
  have H := Sat.start0 w
  refine calls_fr Try.func14 rfl 17 rfl (Nat.le_of_ble_eq_true rfl) ?_
  refine w_seq ?_
  refine w_lit ?_
  refine wl_pure (wants0 rfl) (d := 4) (v := (.int .i64 (0))) rfl (by kernel_rfl) ?_
  refine w_nil ?_
  refine then_normal ?_
  refine w_seq ?_
  refine w_seq ?_
  refine w_lit ?_
  refine wl_pure (wants0 rfl) (d := 6) (v := (.int .i64 (n))) rfl (by kernel_rfl) ?_
  refine wl_pure (wants0 rfl) (d := 7) (v := (.bool (decide (n < 1)))) rfl (by kernel_rfl) ?_
  refine w_nil ?_
  refine then_normal ?_
  refine (bsplit (decide (n < 1))).elim (fun b1 => ?_) (fun b1 => ?_)
  · have g2 := of_decide_eq_true b1
    refine wp_know 7 (.bool true) (congrArg Value.bool b1) ?_
    refine wp_ift rfl ?_
    refine w_seq ?_
    refine w_lit ?_
    refine wl_pure (wants0 rfl) (d := 4) (v := (.int .i64 (0))) rfl (by kernel_rfl) ?_
    refine w_nil ?_
    refine then_normal ?_
    refine w_ret ?_
    refine then_ret ?_
    refine end1 rfl (res_tmp (v := (.int .i64 (0))) rfl) ?_
    exact ⟨by unfold withinV; rw [if_pos (of_decide_eq_true b1)], H.upd 0 rfl [] (fun _ h => h.elim)⟩
  · have g3 := of_decide_eq_false b1
    refine wp_know 7 (.bool false) (congrArg Value.bool b1) ?_
    refine wp_iff rfl ?_
    refine w_skip ?_
    refine then_normal ?_
    refine w_seq ?_
    refine w_lit ?_
    refine wl_pure (wants0 rfl) (d := 8) (v := (.int .i64 (v))) rfl (by kernel_rfl) ?_
    refine wl_pure (wants0 rfl) (d := 9) (v := (.int .i64 (n))) rfl (by kernel_rfl) ?_
    refine wl_pure (wants0 rfl) (d := 10) (v := (.int .i64 (Int.tmod v n))) rfl (e_tmod (by kernel_rfl) (by omega)) ?_
    refine wl_pure (wants0 rfl) (d := 5) (v := (.int .i64 (Int.tmod v n))) rfl (by kernel_rfl) ?_
    refine w_nil ?_
    refine then_normal ?_
    refine w_seq ?_
    refine w_seq ?_
    refine w_lit ?_
    refine wl_pure (wants0 rfl) (d := 11) (v := (.int .i64 (Int.tmod v n))) rfl (by kernel_rfl) ?_
    refine wl_pure (wants0 rfl) (d := 12) (v := (.bool (decide ((Int.tmod v n) < 0)))) rfl (by kernel_rfl) ?_
    refine w_nil ?_
    refine then_normal ?_
    refine (bsplit (decide ((Int.tmod v n) < 0))).elim (fun b4 => ?_) (fun b4 => ?_)
    · have g5 := of_decide_eq_true b4
      refine wp_know 12 (.bool true) (congrArg Value.bool b4) ?_
      refine wp_ift rfl ?_
      refine w_lit ?_
      refine wl_pure (wants0 rfl) (d := 13) (v := (.int .i64 (Int.tmod v n))) rfl (by kernel_rfl) ?_
      refine wl_pure (wants0 rfl) (d := 14) (v := (.int .i64 (n))) rfl (by kernel_rfl) ?_
      refine wl_pure (wants0 rfl) (d := 15) (v := (.int .i64 ((Int.tmod v n) + n))) rfl (e_int (z := (Int.tmod v n) + n) (by kernel_rfl) (IntWalk.i64_in _ (by have := tmod_lim v n (by omega); omega))) ?_
      refine wl_pure (wants0 rfl) (d := 5) (v := (.int .i64 ((Int.tmod v n) + n))) rfl (by kernel_rfl) ?_
      refine w_nil ?_
      refine then_normal ?_
      refine w_seq ?_
      refine w_lit ?_
      refine wl_pure (wants0 rfl) (d := 16) (v := (.int .i64 ((Int.tmod v n) + n))) rfl (by kernel_rfl) ?_
      refine wl_pure (wants0 rfl) (d := 4) (v := (.int .i64 ((Int.tmod v n) + n))) rfl (by kernel_rfl) ?_
      refine w_nil ?_
      refine then_normal ?_
      refine w_ret ?_
      refine end1 rfl (res_tmp (v := (.int .i64 ((Int.tmod v n) + n))) rfl) ?_
      exact ⟨by unfold withinV; rw [if_neg (of_decide_eq_false b1), tmod_emod v n (by have := of_decide_eq_false b1; omega), if_pos (of_decide_eq_true b4)], H.upd 0 rfl [] (fun _ h => h.elim)⟩
    · have g6 := of_decide_eq_false b4
      refine wp_know 12 (.bool false) (congrArg Value.bool b4) ?_
      refine wp_iff rfl ?_
      refine w_skip ?_
      refine then_normal ?_
      refine w_seq ?_
      refine w_lit ?_
      refine wl_pure (wants0 rfl) (d := 16) (v := (.int .i64 (Int.tmod v n))) rfl (by kernel_rfl) ?_
      refine wl_pure (wants0 rfl) (d := 4) (v := (.int .i64 (Int.tmod v n))) rfl (by kernel_rfl) ?_
      refine w_nil ?_
      refine then_normal ?_
      refine w_ret ?_
      refine end1 rfl (res_tmp (v := (.int .i64 (Int.tmod v n))) rfl) ?_
      exact ⟨by unfold withinV; rw [if_neg (of_decide_eq_false b1), tmod_emod v n (by have := of_decide_eq_false b1; omega), if_neg (of_decide_eq_false b4)], H.upd 0 rfl [] (fun _ h => h.elim)⟩

def bothB (b mb r : Nat) (a : Option Addr) (c : Nat) (L : List Signed) : List Ck := [bookC b mb L, cellC r 44 [.slice a L.length c], rowC 60 2 (.slice a L.length c) L.length (L.flatMap encS)]
theorem spoil_copy {w0 : World} (w : World) {s : List UInt8} {u : Value} (h : (copyC w0 s u).ok w) (hl : s.length ≤ 1000) : Calls Try.prog 21 #[u] w fun e w' => e = .returned (.tuple #[]) ∧ Sat w [restC w (copyC w0 s u).fp] w' := by
  rcases h with ⟨rfl, rfl⟩ | ⟨g, c, D, rfl, h0, hg, hc, hD, ht⟩
  · refine (spoil_nil w).mono ?_
    rintro e w' ⟨rfl, H⟩
    have e : restC w (copyC w0 [] (.slice none 0 0)).fp = restC w (fun _ => False) := by
      congr 1; funext k; simp [copyC, Value.ownBlock]
    rw [e]; exact ⟨rfl, H⟩
  · have hcm : c ≤ 9223372036854775807 := by
      rcases hD.2 with ⟨e, _⟩ | ⟨g', cap, cur, e, _, _, _, h2, _⟩
      · cases e
      · simp only [Value.slice.injEq] at e
        obtain ⟨_, _, rfl⟩ := e
        unfold maxLen at h2; exact h2
    refine (spoil_row w g s.length c D hD hc hcm).mono ?_
    rintro e w' ⟨B, rfl, H⟩
    have H2 : Sat w [restC w (rowY g c c D).fp] w' := H.pick [1] (by decide)
    exact ⟨rfl, H2⟩
theorem lenU_any (w : World) (b mb : Nat) (l : List Signed) (hb : BookAt w b mb l) : Calls Try.prog 12 #[.pointer (some ⟨b, 0, none⟩)] w fun e w' => e = .returned (.int .i64 l.length) ∧ Upd [] w w' :=
  (len_any w b mb l hb).mono (by rintro e w' ⟨h, rfl⟩; exact ⟨h, Upd.refl _ _⟩)
theorem signL_nodup {L : List Signed} (h : L.Nodup) (y : Signed) : (signL L y).Nodup := by
  unfold signL; split
  · exact h
  · rename_i hn
    rw [List.nodup_append]; exact ⟨h, by simp, fun x hx z hz => by rw [List.mem_singleton.1 hz]; exact fun e => hn (e ▸ hx)⟩
theorem right_signed {L : List Signed} (hn : L.Nodup) (p : Int) (s : List UInt8) : rightB (signL L ⟨p, s⟩) p (markOf (signL L ⟨p, s⟩) ⟨p, s⟩) s = true := by
  obtain ⟨i, hi, e⟩ := List.mem_iff_getElem.1 (signL_mem L ⟨p, s⟩)
  have hg : (signL L ⟨p, s⟩)[i]? = some ⟨p, s⟩ := by rw [List.getElem?_eq_getElem hi, e]
  exact (right_iff (signL_nodup hn _)).2 ⟨i, hg, markOf_at (signL_nodup hn _) hg⟩

set_option maxRecDepth 100000 in
set_option maxHeartbeats 400000 in
theorem play03_any (w : World) (b mb r : Nat) (a0 : Option Addr) (c0 : Nat) (L0 : List Signed) (hB : (sepC (bothB b mb r a0 c0 L0)).ok w) (hl0 : L0.length ≤ 1000) (va : Option Addr) (vc : Nat) (acts : List ActT) (hacts : ListAt encT 5 w (.slice va acts.length vc) acts) (hal : ∀ x ∈ acts, ListAt encB 1 w (.slice x.a x.s.length x.c) x.s) (hva : 0 < acts.length → ∀ a, va = some a → ¬ (sepC (bothB b mb r a0 c0 L0)).fp a.block) (hvb : ∀ x ∈ acts, 0 < x.s.length → ∀ a, x.a = some a → ¬ (sepC (bothB b mb r a0 c0 L0)).fp a.block) :
    Calls Try.prog 16 #[(.pointer (some ⟨b, 0, none⟩)), (.pointer (some ⟨r, 0, none⟩)), (.slice va acts.length vc)] w fun e w' => ∃ a' c' L', e = .returned (.bool true) ∧ Sat w [bookC b mb L', cellC r 44 [.slice a' L'.length c'], rowC 60 2 (.slice a' L'.length c') L'.length (L'.flatMap encS), restC w (sepC (bothB b mb r a0 c0 L0)).fp] w' ∧ L'.length ≤ L0.length + 30 := by
  have hget : ∀ i, i < acts.length → acts.getD i actT0 ∈ acts := fun i hi => by
    rw [List.getD_eq_getElem?_getD, List.getElem?_eq_getElem hi]; exact List.getElem_mem hi
  have hact : ∀ i, i < acts.length → ListAt encB 1 w (.slice (acts.getD i actT0).a (acts.getD i actT0).s.length (acts.getD i actT0).c) (acts.getD i actT0).s := fun i hi => hal _ (hget i hi)
  have hfar : ∀ i, i < acts.length → 0 < (acts.getD i actT0).s.length → ∀ a, (acts.getD i actT0).a = some a → ¬ (sepC (bothB b mb r a0 c0 L0)).fp a.block := fun i hi => hvb _ (hget i hi)
  have hsl : ∀ i, i < acts.length → (acts.getD i actT0).s.length ≤ 9223372036854775807 := fun i hi => by have := SliceOf.le (hact i hi); unfold maxLen at this; exact this
  have H : Sat w [bookC b mb L0, cellC r 44 ([(.slice a0 L0.length c0)] : List Value), rowC 60 2 (.slice a0 L0.length c0) L0.length (L0.flatMap encS), restC w (sepC (bothB b mb r a0 c0 L0)).fp] w := Sat.start (bothB b mb r a0 c0 L0) hB
  refine calls_fr Try.func16 rfl 80 rfl (Nat.le_of_ble_eq_true rfl) ?_
  refine w_seq ?_
  refine w_lit ?_
  refine wl_pure (wants0 rfl) (d := 6) (v := (.bool false)) rfl (by kernel_rfl) ?_
  refine w_nil ?_
  refine then_normal ?_
  refine w_seq ?_
  refine w_seq ?_
  refine w_lit ?_
  refine wl_pure (wants0 rfl) (d := 7) (v := (.int .i64 (0))) rfl (by kernel_rfl) ?_
  refine w_nil ?_
  refine then_normal ?_
  refine w_block ?_
  refine wp_round [6, 7, 8, 9, 10, 11, 12, 13, 14, 15, 16, 17, 18, 19, 20, 21, 22, 23, 24, 25, 26, 27, 28, 29, 30, 31, 32, 33, 34, 35, 36, 37, 38, 39, 40, 41, 42, 43, 44, 45, 46, 47, 48, 49, 50, 51, 52, 53, 54, 55, 56, 57, 58, 59, 60, 61, 62, 63, 64, 65, 66, 67, 68, 69, 70, 71, 72, 73, 74, 75, 76, 77, 78, 79] (fun F_ W_ m_ => ∃ (i : Nat) (a : Option Addr) (c : Nat) (L : List Signed), F_ 7 = (.int .i64 ((i : Int))) ∧ (i ≤ 30) ∧ (L.length ≤ L0.length + i) ∧ Sat w [bookC b mb L, cellC r 44 ([(.slice a L.length c)] : List Value), rowC 60 2 (.slice a L.length c) L.length (L.flatMap encS), restC w (sepC (bothB b mb r a0 c0 L0)).fp] W_ ∧ m_ = 31 - i) _ ⟨0, a0, c0, L0, (show ((.int .i64 (0)) : Value) = _ by first | rfl | go_num), by omega, by omega, H, rfl⟩ ?_
  rintro g1 w2 _ ⟨i, a, c, L, v4, hi, hl, H3, rfl⟩
  refine wp_know 7 _ v4 ?_
  have hnd := (H3.at 0 rfl : BookAt _ b mb L).nodup
  refine w_seq ?_
  refine w_seq ?_
  refine w_lit ?_
  refine wl_pure (wants0 rfl) (d := 11) (v := (.int .i64 ((i : Int)))) rfl (by kernel_rfl) ?_
  refine wl_pure (wants0 rfl) (d := 12) (v := (.slice va acts.length vc)) rfl (by kernel_rfl) ?_
  refine wl_pure (wants0 rfl) (d := 13) (v := (.int .i64 ((acts.length : Int)))) rfl (by kernel_rfl) ?_
  refine wl_pure (wants0 rfl) (d := 14) (v := (.bool (decide ((i : Int) < (acts.length : Int))))) rfl (by kernel_rfl) ?_
  refine wl_pure (wants0 rfl) (d := 15) (v := (.bool (decide ((i : Int) < (acts.length : Int))))) rfl (by kernel_rfl) ?_
  refine (bsplit (decide ((i : Int) < (acts.length : Int)))).elim (fun b6 => ?_) (fun b6 => ?_)
  · have g7 := of_decide_eq_true b6
    refine wl_know 15 (.bool true) (congrArg Value.bool b6) ?_
    have g8 := of_decide_eq_true b6
    refine wl_pure (wantsY 4 15 true rfl (by kernel_rfl) rfl (by kernel_rfl)) (d := 16) (v := (.int .i64 ((i : Int)))) rfl (by kernel_rfl) ?_
    refine wl_pure (wantsY 4 15 true rfl (by kernel_rfl) rfl (by kernel_rfl)) (d := 17) (v := (.bool (decide ((i : Int) < 30)))) rfl (by kernel_rfl) ?_
    refine wl_pure (wants0 rfl) (d := 18) (v := (.bool (decide ((i : Int) < 30)))) rfl (by kernel_rfl) ?_
    refine w_nil ?_
    refine then_normal ?_
    refine (bsplit (decide ((i : Int) < 30))).elim (fun b9 => ?_) (fun b9 => ?_)
    · have g10 := of_decide_eq_true b9
      refine wp_know 18 (.bool true) (congrArg Value.bool b9) ?_
      have g11 := of_decide_eq_true b9
      refine wp_ift rfl ?_
      refine w_skip ?_
      refine then_normal ?_
      refine w_seq ?_
      refine w_block ?_
      refine w_seq ?_
      refine w_lit ?_
      refine wl_pure (wants0 rfl) (d := 21) (v := (.slice va acts.length vc)) rfl (by kernel_rfl) ?_
      refine wl_pure (wants0 rfl) (d := 22) (v := (.int .i64 ((i : Int)))) rfl (by kernel_rfl) ?_
      obtain ⟨g12, o13, c14, e15, R16⟩ := SliceOf.atD hacts actT0 (show i < acts.length by omega)
      refine wl_pure (wants0 rfl) (d := 23) (v := (.pointer (some ⟨g12, o13 + ((i : Int)).toNat * 5, none⟩))) rfl (e_indexAddrW (E := 56) (by kernel_rfl) (by kernel_rfl) (Nat.le_of_ble_eq_true rfl) rfl e15 rfl (by omega) (by omega)) ?_
      refine wl_pure (wants0 rfl) (d := 24) (v := (.agg ⟨([(.int .i64 ((acts.getD i actT0).d)), (.int .i64 ((acts.getD i actT0).p)), (.int .i64 ((acts.getD i actT0).sb)), (.int .i64 ((acts.getD i actT0).sm)), (.slice (acts.getD i actT0).a (acts.getD i actT0).s.length (acts.getD i actT0).c)] : List Value)⟩)) rfl (e_loadRun (vs := ([(.int .i64 ((acts.getD i actT0).d)), (.int .i64 ((acts.getD i actT0).p)), (.int .i64 ((acts.getD i actT0).sb)), (.int .i64 ((acts.getD i actT0).sm)), (.slice (acts.getD i actT0).a (acts.getD i actT0).s.length (acts.getD i actT0).c)] : List Value)) rfl (by kernel_rfl) (by kernel_rfl) (Nat.le_of_ble_eq_true (by kernel_rfl)) (H3.runR 3 rfl (cells_run R16 0 (by kernel_rfl) (show o13 + ((i : Int)).toNat * 5 = o13 + i * 5 + 0 by omega)) (hva (by omega) _ (slice_addr e15)))) ?_
      refine wl_do (wants0 rfl) (fun K17 hK17 => ?_)
      refine d_alloc (zs := ([(.int .i64 (0)), (.int .i64 (0)), (.int .i64 (0)), (.int .i64 (0)), (.slice none 0 0)] : List Value)) (z := (.agg ⟨([(.int .i64 (0)), (.int .i64 (0)), (.int .i64 (0)), (.int .i64 (0)), (.slice none 0 0)] : List Value)⟩)) rfl H3 (by kernel_rfl) (by kernel_rfl) ?_
      intro b18 w19 (H20 : Sat w [bookC b mb L, cellC r 44 ([(.slice a L.length c)] : List Value), rowC 60 2 (.slice a L.length c) L.length (L.flatMap encS), restC w (sepC (bothB b mb r a0 c0 L0)).fp, cellC b18 56 ([(.int .i64 (0)), (.int .i64 (0)), (.int .i64 (0)), (.int .i64 (0)), (.slice none 0 0)] : List Value)] w19)
      refine hK17 _ _ ?_
      clear hK17 K17
      refine wl_do (wants0 rfl) (fun K21 hK21 => ?_)
      refine d_store (vs := ([(.int .i64 ((acts.getD i actT0).d)), (.int .i64 ((acts.getD i actT0).p)), (.int .i64 ((acts.getD i actT0).sb)), (.int .i64 ((acts.getD i actT0).sm)), (.slice (acts.getD i actT0).a (acts.getD i actT0).s.length (acts.getD i actT0).c)] : List Value)) rfl H20 4 rfl rfl rfl rfl (by kernel_rfl) (Nat.le_of_ble_eq_true (by kernel_rfl)) (Nat.le_of_ble_eq_true (by kernel_rfl)) (by kernel_rfl) ?_
      intro w22 (H23 : Sat w [bookC b mb L, cellC r 44 ([(.slice a L.length c)] : List Value), rowC 60 2 (.slice a L.length c) L.length (L.flatMap encS), restC w (sepC (bothB b mb r a0 c0 L0)).fp, cellC b18 56 ([(.int .i64 ((acts.getD i actT0).d)), (.int .i64 ((acts.getD i actT0).p)), (.int .i64 ((acts.getD i actT0).sb)), (.int .i64 ((acts.getD i actT0).sm)), (.slice (acts.getD i actT0).a (acts.getD i actT0).s.length (acts.getD i actT0).c)] : List Value)] w22)
      refine hK21 _ _ ?_
      clear hK21 K21
      refine w_nil ?_
      refine then_normal ?_
      refine w_seq ?_
      refine w_lit ?_
      refine wl_pure (wants0 rfl) (d := 25) (v := (.pointer (some ⟨b18, 4, none⟩))) rfl (by kernel_rfl) ?_
      refine wl_pure (wants0 rfl) (d := 26) (v := (.slice (acts.getD i actT0).a (acts.getD i actT0).s.length (acts.getD i actT0).c)) rfl (e_load1 rfl (by kernel_rfl) (H23.cell 4 rfl rfl)) ?_
      refine wl_do (wants0 rfl) (fun K25 hK25 => ?_)
      refine d_call (d := 27) rfl (by kernel_rfl) (cutB_any0 w22 (acts.getD i actT0).a (acts.getD i actT0).c (acts.getD i actT0).s (ListAt.nowD H23 3 rfl (hact i (by omega)) (hfar i (by omega))) (hsl i (by omega)) 40 (by omega)) ?_
      rintro _ w26 ⟨u27, rfl, k28, p29, q30⟩
      have H31 : Sat w [bookC b mb L, cellC r 44 ([(.slice a L.length c)] : List Value), rowC 60 2 (.slice a L.length c) L.length (L.flatMap encS), restC w (sepC (bothB b mb r a0 c0 L0)).fp, cellC b18 56 ([(.int .i64 ((acts.getD i actT0).d)), (.int .i64 ((acts.getD i actT0).p)), (.int .i64 ((acts.getD i actT0).sb)), (.int .i64 ((acts.getD i actT0).sm)), (.slice (acts.getD i actT0).a (acts.getD i actT0).s.length (acts.getD i actT0).c)] : List Value), rowC 5 1 u27 (((acts.getD i actT0).s.take 40).length) (((acts.getD i actT0).s.take 40).flatMap encB)] w26 := H23.addU p29 k28 q30
      obtain ⟨a32, c33, rfl⟩ := ownsRow_shape (H31.at 5 rfl)
      refine ⟨_, rfl, ?_⟩
      refine hK25 _ _ ?_
      clear hK25 K25
      refine wl_pure (wants0 rfl) (d := 28) (v := (.pointer (some ⟨b18, 4, none⟩))) rfl (by kernel_rfl) ?_
      refine wl_do (wants0 rfl) (fun K34 hK34 => ?_)
      refine d_store (vs := ([(.slice a32 (((acts.getD i actT0).s.take 40).length) c33)] : List Value)) rfl H31 4 rfl rfl rfl rfl (by kernel_rfl) (Nat.le_of_ble_eq_true (by kernel_rfl)) (Nat.le_of_ble_eq_true (by kernel_rfl)) (by kernel_rfl) ?_
      intro w35 (H36 : Sat w [bookC b mb L, cellC r 44 ([(.slice a L.length c)] : List Value), rowC 60 2 (.slice a L.length c) L.length (L.flatMap encS), restC w (sepC (bothB b mb r a0 c0 L0)).fp, cellC b18 56 ([(.int .i64 ((acts.getD i actT0).d)), (.int .i64 ((acts.getD i actT0).p)), (.int .i64 ((acts.getD i actT0).sb)), (.int .i64 ((acts.getD i actT0).sm)), (.slice a32 (((acts.getD i actT0).s.take 40).length) c33)] : List Value), rowC 5 1 (.slice a32 (((acts.getD i actT0).s.take 40).length) c33) (((acts.getD i actT0).s.take 40).length) (((acts.getD i actT0).s.take 40).flatMap encB)] w35)
      refine hK34 _ _ ?_
      clear hK34 K34
      refine w_nil ?_
      refine then_normal ?_
      refine w_seq ?_
      refine w_seq ?_
      refine w_lit ?_
      refine wl_pure (wants0 rfl) (d := 29) (v := (.pointer (some ⟨b18, 0, none⟩))) rfl (by kernel_rfl) ?_
      refine wl_pure (wants0 rfl) (d := 30) (v := (.int .i64 ((acts.getD i actT0).d))) rfl (e_load1 rfl (by kernel_rfl) (H36.cell 4 rfl rfl)) ?_
      refine wl_do (wants0 rfl) (fun K38 hK38 => ?_)
      refine d_call (d := 31) rfl (by kernel_rfl) (withinC_any w35 ((acts.getD i actT0).d) 3 (by omega)) ?_
      rintro _ w39 ⟨rfl, u41⟩
      have H40 := H36.keepU u41
      refine ⟨_, rfl, ?_⟩
      refine hK38 _ _ ?_
      clear hK38 K38
      refine wl_pure (wants0 rfl) (d := 32) (v := (.bool (decide ((withinV ((acts.getD i actT0).d) 3) = 2)))) rfl (by kernel_rfl) ?_
      refine w_nil ?_
      refine then_normal ?_
      refine (bsplit (decide ((withinV ((acts.getD i actT0).d) 3) = 2))).elim (fun b42 => ?_) (fun b42 => ?_)
      · have g43 := of_decide_eq_true b42
        refine wp_know 32 (.bool true) (congrArg Value.bool b42) ?_
        have g44 := of_decide_eq_true b42
        refine wp_ift rfl ?_
        refine w_seq ?_
        refine h_start H40 [bookC b mb L, cellC r 44 ([(.slice a L.length c)] : List Value), rowC 60 2 (.slice a L.length c) L.length (L.flatMap encS), restC w (sepC (bothB b mb r a0 c0 L0)).fp, cellC b18 56 ([(.int .i64 ((acts.getD i actT0).d)), (.int .i64 ((acts.getD i actT0).p)), (.int .i64 ((acts.getD i actT0).sb)), (.int .i64 ((acts.getD i actT0).sm)), (.slice a32 (((acts.getD i actT0).s.take 40).length) c33)] : List Value), rowC 5 1 (.slice a32 (((acts.getD i actT0).s.take 40).length) c33) (((acts.getD i actT0).s.take 40).length) (((acts.getD i actT0).s.take 40).flatMap encB)] 13 rfl (by kernel_rfl) (fun Hx => (Hx.pick [0, 1, 2, 3, 4, 5] (by decide))) ?_
        intro w45 H46 S47
        refine h_val 0 rfl (by kernel_rfl) (by kernel_rfl) (by kernel_rfl) (fun _ _ _ h => h) S47 (wants0 rfl) (d := 33) (v := (.pointer (some ⟨b, 0, none⟩))) rfl (fun _ H' => (by kernel_rfl)) ?_
        refine h_val 1 rfl (by kernel_rfl) (by kernel_rfl) (by kernel_rfl) (fun _ _ _ h => h) S47 (wants0 rfl) (d := 34) (v := (.pointer (some ⟨b18, 2, none⟩))) rfl (fun _ H' => (by kernel_rfl)) ?_
        refine h_val 2 rfl (by kernel_rfl) (by kernel_rfl) (by kernel_rfl) (fun _ _ _ h => h) S47 (wants0 rfl) (d := 35) (v := (.agg ⟨([(.int .i64 ((acts.getD i actT0).sb)), (.int .i64 ((acts.getD i actT0).sm))] : List Value)⟩)) rfl (fun _ H' => (e_loadN (vs := ([(.int .i64 ((acts.getD i actT0).sb)), (.int .i64 ((acts.getD i actT0).sm))] : List Value)) rfl (by kernel_rfl) (by kernel_rfl) (by exact Nat.le_of_ble_eq_true (by kernel_rfl)) (H'.at 4 rfl) (by kernel_rfl))) ?_
        refine h_val 3 rfl (by kernel_rfl) (by kernel_rfl) (by kernel_rfl) (fun _ _ _ h => h) S47 (wants0 rfl) (d := 36) (v := (.pointer (some ⟨b18, 4, none⟩))) rfl (fun _ H' => (by kernel_rfl)) ?_
        refine h_val 4 rfl (by kernel_rfl) (by kernel_rfl) (by kernel_rfl) (fun _ _ _ h => h) S47 (wants0 rfl) (d := 37) (v := (.slice a32 (((acts.getD i actT0).s.take 40).length) c33)) rfl (fun _ H' => (e_load1 rfl (by kernel_rfl) (H'.cell 4 rfl rfl))) ?_
        refine h_val 6 rfl (by kernel_rfl) (by kernel_rfl) (by kernel_rfl) (fun _ _ _ h => h) S47 (wants0 rfl) (d := 39) (v := (.pointer (some ⟨r, 0, none⟩))) rfl (fun _ H' => (by kernel_rfl)) ?_
        refine h_val 7 rfl (by kernel_rfl) (by kernel_rfl) (by kernel_rfl) (fun _ _ _ h => h) S47 (wants0 rfl) (d := 40) (v := (.pointer (some ⟨b18, 2, none⟩))) rfl (fun _ H' => (by kernel_rfl)) ?_
        refine h_val 8 rfl (by kernel_rfl) (by kernel_rfl) (by kernel_rfl) (fun _ _ _ h => h) S47 (wants0 rfl) (d := 41) (v := (.agg ⟨([(.int .i64 ((acts.getD i actT0).sb)), (.int .i64 ((acts.getD i actT0).sm))] : List Value)⟩)) rfl (fun _ H' => (e_loadN (vs := ([(.int .i64 ((acts.getD i actT0).sb)), (.int .i64 ((acts.getD i actT0).sm))] : List Value)) rfl (by kernel_rfl) (by kernel_rfl) (by exact Nat.le_of_ble_eq_true (by kernel_rfl)) (H'.at 4 rfl) (by kernel_rfl))) ?_
        refine h_val 9 rfl (by kernel_rfl) (by kernel_rfl) (by kernel_rfl) (fun _ _ _ h => h) S47 (wants0 rfl) (d := 42) (v := (.pointer (some ⟨b18, 4, none⟩))) rfl (fun _ H' => (by kernel_rfl)) ?_
        refine h_val 10 rfl (by kernel_rfl) (by kernel_rfl) (by kernel_rfl) (fun _ _ _ h => h) S47 (wants0 rfl) (d := 43) (v := (.slice a32 (((acts.getD i actT0).s.take 40).length) c33)) rfl (fun _ H' => (e_load1 rfl (by kernel_rfl) (H'.cell 4 rfl rfl))) ?_
        refine h_do 5 rfl (by kernel_rfl) (wants0 rfl) (fun K48 hK48 => ?_)
        refine d_call (d := 38) rfl (by kernel_rfl) (right_any w45 b mb L ((acts.getD i actT0).sb) ((acts.getD i actT0).sm) (.slice a32 (((acts.getD i actT0).s.take 40).length) c33) ((acts.getD i actT0).s.take 40) (H46.at 0 rfl) (list_bytes (ListAt.row (e := 5) (enc := encB) (sz := 1) (xs := ((acts.getD i actT0).s.take 40)) encB_len (by decide) (H46.at 5 rfl)))) ?_
        rintro _ w49 ⟨rfl, u51⟩
        have H50 := H46.keepU u51
        refine ⟨_, rfl, ?_⟩
        have S52 := H50.pick [0, 1, 2, 3, 4, 5] (by decide)
        refine hK48 _ _ S52 ?_
        clear hK48 K48
        refine h_do 11 rfl (by kernel_rfl) (wants0 rfl) (fun K53 hK53 => ?_)
        refine d_call (d := 44) rfl (by kernel_rfl) (rbRight_any w49 r a c L (.slice a32 (((acts.getD i actT0).s.take 40).length) c33) ((acts.getD i actT0).s.take 40) (H50.fin [1, 2, 5] (by decide) rfl) (by omega) hnd ((acts.getD i actT0).sb) ((acts.getD i actT0).sm)) ?_
        rintro _ w54 ⟨rfl, T55⟩
        have H58 : Sat w [bookC b mb L, cellC r 44 ([(.slice a L.length c)] : List Value), rowC 60 2 (.slice a L.length c) L.length (L.flatMap encS), restC w (sepC (bothB b mb r a0 c0 L0)).fp, cellC b18 56 ([(.int .i64 ((acts.getD i actT0).d)), (.int .i64 ((acts.getD i actT0).p)), (.int .i64 ((acts.getD i actT0).sb)), (.int .i64 ((acts.getD i actT0).sm)), (.slice a32 (((acts.getD i actT0).s.take 40).length) c33)] : List Value), rowC 5 1 (.slice a32 (((acts.getD i actT0).s.take 40).length) c33) (((acts.getD i actT0).s.take 40).length) (((acts.getD i actT0).s.take 40).flatMap encB)] w54 := (Sat.turnL (L' := [cellC r 44 ([(.slice a L.length c)] : List Value), rowC 60 2 (.slice a L.length c) L.length (L.flatMap encS), rowC 5 1 (.slice a32 (((acts.getD i actT0).s.take 40).length) c33) (((acts.getD i actT0).s.take 40).length) (((acts.getD i actT0).s.take 40).flatMap encB)]) (R := [bookC b mb L, restC w (sepC (bothB b mb r a0 c0 L0)).fp, cellC b18 56 ([(.int .i64 ((acts.getD i actT0).d)), (.int .i64 ((acts.getD i actT0).p)), (.int .i64 ((acts.getD i actT0).sb)), (.int .i64 ((acts.getD i actT0).sm)), (.slice a32 (((acts.getD i actT0).s.take 40).length) c33)] : List Value)]) H50 [1, 2, 5] [0, 3, 4] (by decide) (by kernel_rfl) rfl T55).pick [3, 0, 1, 4, 5, 2] (by decide)
        refine ⟨_, rfl, ?_⟩
        have S59 := H58.pick [0, 1, 2, 3, 4, 5] (by decide)
        refine hK53 _ _ S59 ?_
        clear hK53 K53
        refine h_val 12 rfl (by kernel_rfl) (by kernel_rfl) (by kernel_rfl) (fun _ _ _ h => h) S59 (wants0 rfl) (d := 45) (v := (.bool (!((rightB L ((acts.getD i actT0).sb) ((acts.getD i actT0).sm) ((acts.getD i actT0).s.take 40)) == (rightB L ((acts.getD i actT0).sb) ((acts.getD i actT0).sm) ((acts.getD i actT0).s.take 40)))))) rfl (fun _ H' => (by kernel_rfl)) ?_
        refine h_fin (by kernel_rfl) ?_
        refine then_normal ?_
        have b60 : (!((rightB L ((acts.getD i actT0).sb) ((acts.getD i actT0).sm) ((acts.getD i actT0).s.take 40)) == (rightB L ((acts.getD i actT0).sb) ((acts.getD i actT0).sm) ((acts.getD i actT0).s.take 40)))) = false := by simp
        refine wp_know 45 (.bool false) (congrArg Value.bool b60) ?_
        have g61 := bnot_false b60
        refine wp_iff rfl ?_
        refine w_skip ?_
        refine then_normal ?_
        refine w_seq ?_
        refine q_start H58 (by kernel_rfl) (by kernel_rfl) ?_
        refine q_val (wants0 rfl) (d := 72) (v := (.pointer (some ⟨b, 0, none⟩))) rfl (fun _ H' => (by kernel_rfl)) ?_
        refine q_call (wants0 rfl) (d := 73) (v := (.int .i64 ((L.length : Int)))) rfl (fun _ _ => by kernel_rfl) (fun w' H' => (lenU_any w' b mb L (H'.at 0 rfl)).mono fun _ _ h => ⟨h.1, H'.keepU h.2⟩) ?_
        refine q_val (wants0 rfl) (d := 74) (v := (.pointer (some ⟨r, 0, none⟩))) rfl (fun _ H' => (by kernel_rfl)) ?_
        refine q_val (wants0 rfl) (d := 75) (v := (.pointer (some ⟨r, 0, none⟩))) rfl (fun _ H' => (by kernel_rfl)) ?_
        refine q_val (wants0 rfl) (d := 76) (v := (.pointer (some ⟨r, 0, none⟩))) rfl (fun _ H' => (by kernel_rfl)) ?_
        refine q_val (wants0 rfl) (d := 77) (v := (.slice a L.length c)) rfl (fun _ H' => (e_load1 rfl (by kernel_rfl) (H'.cell 1 rfl rfl))) ?_
        refine q_val (wants0 rfl) (d := 78) (v := (.int .i64 ((L.length : Int)))) rfl (fun _ H' => (by kernel_rfl)) ?_
        refine q_val (wants0 rfl) (d := 79) (v := (.bool (!(decide ((L.length : Int) = (L.length : Int)))))) rfl (fun _ H' => (by kernel_rfl)) ?_
        refine q_end ?_
        intro w62 H63
        refine then_normal ?_
        have b64 : (!(decide ((L.length : Int) = (L.length : Int)))) = false := by simp
        refine wp_know 79 (.bool false) (congrArg Value.bool b64) ?_
        have g65 := bnot_false b64
        have g66 := of_decide_eq_true g65
        refine wp_iff rfl ?_
        refine w_skip ?_
        refine blk_normal ?_
        refine then_normal ?_
        refine w_lit ?_
        refine wl_pure (wants0 rfl) (d := 19) (v := (.int .i64 ((i : Int)))) rfl (by kernel_rfl) ?_
        refine wl_pure (wants0 rfl) (d := 20) (v := (.int .i64 ((i : Int) + 1))) rfl (e_int (z := (i : Int) + 1) (by kernel_rfl) (IntWalk.i64_in _ (by omega))) ?_
        refine wl_pure (wants0 rfl) (d := 7) (v := (.int .i64 ((i : Int) + 1))) rfl (by kernel_rfl) ?_
        refine w_nil ?_
        have H67 : Sat w [bookC b mb L, cellC r 44 ([(.slice a L.length c)] : List Value), rowC 60 2 (.slice a L.length c) L.length (L.flatMap encS), restC w (sepC (bothB b mb r a0 c0 L0)).fp] w62 := H63.pick [0, 1, 2, 3] (by decide)
        refine round_back ?_ _ ⟨(i + 1), a, c, L, (show ((.int .i64 ((i : Int) + 1)) : Value) = _ by first | rfl | go_num), by omega, (by first | omega | (have q := signL_len L (⟨(acts.getD i actT0).p, (acts.getD i actT0).s.take 40⟩ : Signed); omega)), H67, rfl⟩ (by omega)
        exact (same_upd rfl (same_upd rfl (same_upd rfl (same_upd rfl (same_upd rfl (same_upd rfl (same_upd rfl (same_upd rfl (same_upd rfl (same_upd rfl (same_upd rfl (same_upd rfl (same_upd rfl (same_upd rfl (same_upd rfl (same_upd rfl (same_upd rfl (same_upd rfl (same_upd rfl (same_upd rfl (same_upd rfl (same_upd rfl (same_upd rfl (same_upd rfl (same_upd rfl (same_upd rfl (same_upd rfl (same_upd rfl (same_upd rfl (same_upd rfl (same_upd rfl (same_upd rfl (same_upd rfl (same_upd rfl (same_upd rfl (same_upd rfl (same_upd rfl (same_upd rfl (same_upd rfl (same_upd rfl (same_upd rfl (same_upd rfl (same_upd rfl (same_upd rfl (same_upd rfl (same_upd rfl (same_upd rfl (same_upd rfl (same_upd rfl (same_upd rfl (same_upd rfl (same_ovr))))))))))))))))))))))))))))))))))))))))))))))))))))
      · have g68 := of_decide_eq_false b42
        refine wp_know 32 (.bool false) (congrArg Value.bool b42) ?_
        have g69 := of_decide_eq_false b42
        refine wp_iff rfl ?_
        refine w_seq ?_
        refine w_lit ?_
        refine wl_pure (wants0 rfl) (d := 46) (v := (.pointer (some ⟨b18, 4, none⟩))) rfl (by kernel_rfl) ?_
        refine wl_pure (wants0 rfl) (d := 47) (v := (.slice a32 (((acts.getD i actT0).s.take 40).length) c33)) rfl (e_load1 rfl (by kernel_rfl) (H40.cell 4 rfl rfl)) ?_
        refine wl_do (wants0 rfl) (fun K70 hK70 => ?_)
        refine d_call (d := 48) rfl (by kernel_rfl) (copyB_any w39 (.slice a32 (((acts.getD i actT0).s.take 40).length) c33) ((acts.getD i actT0).s.take 40) (ListAt.row (e := 5) (enc := encB) (sz := 1) (xs := ((acts.getD i actT0).s.take 40)) encB_len (by decide) (H40.at 5 rfl)) (by simp only [List.length_take]; omega)) ?_
        rintro _ w71 ⟨u72, rfl, p73, k74⟩
        have H75 : Sat w [bookC b mb L, cellC r 44 ([(.slice a L.length c)] : List Value), rowC 60 2 (.slice a L.length c) L.length (L.flatMap encS), restC w (sepC (bothB b mb r a0 c0 L0)).fp, cellC b18 56 ([(.int .i64 ((acts.getD i actT0).d)), (.int .i64 ((acts.getD i actT0).p)), (.int .i64 ((acts.getD i actT0).sb)), (.int .i64 ((acts.getD i actT0).sm)), (.slice a32 (((acts.getD i actT0).s.take 40).length) c33)] : List Value), rowC 5 1 (.slice a32 (((acts.getD i actT0).s.take 40).length) c33) (((acts.getD i actT0).s.take 40).length) (((acts.getD i actT0).s.take 40).flatMap encB), copyC w39 ((acts.getD i actT0).s.take 40) u72] w71 := H40.addU p73 k74 k74.row.2
        refine ⟨_, rfl, ?_⟩
        refine hK70 _ _ ?_
        clear hK70 K70
        refine wl_pure (wants0 rfl) (d := 9) (v := (u72)) rfl (by kernel_rfl) ?_
        refine w_nil ?_
        refine then_normal ?_
        refine w_seq ?_
        refine w_lit ?_
        refine wl_pure (wants0 rfl) (d := 49) (v := (.pointer (some ⟨b, 0, none⟩))) rfl (by kernel_rfl) ?_
        refine wl_pure (wants0 rfl) (d := 50) (v := (.pointer (some ⟨b18, 1, none⟩))) rfl (by kernel_rfl) ?_
        refine wl_pure (wants0 rfl) (d := 51) (v := (.int .i64 ((acts.getD i actT0).p))) rfl (e_load1 rfl (by kernel_rfl) (H75.cell 4 rfl rfl)) ?_
        refine wl_pure (wants0 rfl) (d := 52) (v := (u72)) rfl (by kernel_rfl) ?_
        refine wl_do (wants0 rfl) (fun K76 hK76 => ?_)
        refine d_call (d := 53) rfl (by kernel_rfl) (sign_any w71 b mb L ((acts.getD i actT0).p) (u72) ((acts.getD i actT0).s.take 40) (H75.at 0 rfl) (copyOf_bytes (H75.at 6 rfl)) (by omega)) ?_
        rintro _ w77 ⟨rfl, k78, u79⟩
        have H80 : Sat w [bookC b mb (signL L (⟨((acts.getD i actT0).p), ((acts.getD i actT0).s.take 40)⟩ : Signed)), cellC r 44 ([(.slice a L.length c)] : List Value), rowC 60 2 (.slice a L.length c) L.length (L.flatMap encS), restC w (sepC (bothB b mb r a0 c0 L0)).fp, cellC b18 56 ([(.int .i64 ((acts.getD i actT0).d)), (.int .i64 ((acts.getD i actT0).p)), (.int .i64 ((acts.getD i actT0).sb)), (.int .i64 ((acts.getD i actT0).sm)), (.slice a32 (((acts.getD i actT0).s.take 40).length) c33)] : List Value), rowC 5 1 (.slice a32 (((acts.getD i actT0).s.take 40).length) c33) (((acts.getD i actT0).s.take 40).length) (((acts.getD i actT0).s.take 40).flatMap encB), copyC w39 ((acts.getD i actT0).s.take 40) u72] w77 := H75.setU u79 0 rfl (fun b' hb' => Or.inr (List.mem_singleton.1 hb')) k78 (fun b' hb' => .inl hb')
        refine ⟨_, rfl, ?_⟩
        refine hK76 _ _ ?_
        clear hK76 K76
        refine wl_do (wants0 rfl) (fun K81 hK81 => ?_)
        refine d_alloc (zs := ([(.int .i64 (0)), (.int .i64 (0))] : List Value)) (z := (.agg ⟨([(.int .i64 (0)), (.int .i64 (0))] : List Value)⟩)) rfl H80 (by kernel_rfl) (by kernel_rfl) ?_
        intro b82 w83 (H84 : Sat w [bookC b mb (signL L (⟨((acts.getD i actT0).p), ((acts.getD i actT0).s.take 40)⟩ : Signed)), cellC r 44 ([(.slice a L.length c)] : List Value), rowC 60 2 (.slice a L.length c) L.length (L.flatMap encS), restC w (sepC (bothB b mb r a0 c0 L0)).fp, cellC b18 56 ([(.int .i64 ((acts.getD i actT0).d)), (.int .i64 ((acts.getD i actT0).p)), (.int .i64 ((acts.getD i actT0).sb)), (.int .i64 ((acts.getD i actT0).sm)), (.slice a32 (((acts.getD i actT0).s.take 40).length) c33)] : List Value), rowC 5 1 (.slice a32 (((acts.getD i actT0).s.take 40).length) c33) (((acts.getD i actT0).s.take 40).length) (((acts.getD i actT0).s.take 40).flatMap encB), copyC w39 ((acts.getD i actT0).s.take 40) u72, cellC b82 30 ([(.int .i64 (0)), (.int .i64 (0))] : List Value)] w83)
        refine hK81 _ _ ?_
        clear hK81 K81
        refine wl_do (wants0 rfl) (fun K85 hK85 => ?_)
        refine d_store (vs := ([(.int .i64 (((acts.getD i actT0).p))), (.int .i64 (markOf (signL L (⟨((acts.getD i actT0).p), ((acts.getD i actT0).s.take 40)⟩ : Signed)) (⟨((acts.getD i actT0).p), ((acts.getD i actT0).s.take 40)⟩ : Signed)))] : List Value)) rfl H84 7 rfl rfl rfl rfl (by kernel_rfl) (Nat.le_of_ble_eq_true (by kernel_rfl)) (Nat.le_of_ble_eq_true (by kernel_rfl)) (by kernel_rfl) ?_
        intro w86 (H87 : Sat w [bookC b mb (signL L (⟨((acts.getD i actT0).p), ((acts.getD i actT0).s.take 40)⟩ : Signed)), cellC r 44 ([(.slice a L.length c)] : List Value), rowC 60 2 (.slice a L.length c) L.length (L.flatMap encS), restC w (sepC (bothB b mb r a0 c0 L0)).fp, cellC b18 56 ([(.int .i64 ((acts.getD i actT0).d)), (.int .i64 ((acts.getD i actT0).p)), (.int .i64 ((acts.getD i actT0).sb)), (.int .i64 ((acts.getD i actT0).sm)), (.slice a32 (((acts.getD i actT0).s.take 40).length) c33)] : List Value), rowC 5 1 (.slice a32 (((acts.getD i actT0).s.take 40).length) c33) (((acts.getD i actT0).s.take 40).length) (((acts.getD i actT0).s.take 40).flatMap encB), copyC w39 ((acts.getD i actT0).s.take 40) u72, cellC b82 30 ([(.int .i64 (((acts.getD i actT0).p))), (.int .i64 (markOf (signL L (⟨((acts.getD i actT0).p), ((acts.getD i actT0).s.take 40)⟩ : Signed)) (⟨((acts.getD i actT0).p), ((acts.getD i actT0).s.take 40)⟩ : Signed)))] : List Value)] w86)
        refine hK85 _ _ ?_
        clear hK85 K85
        refine w_nil ?_
        refine then_normal ?_
        refine w_seq ?_
        refine w_lit ?_
        refine wl_pure (wants0 rfl) (d := 54) (v := (u72)) rfl (by kernel_rfl) ?_
        refine wl_do (wants0 rfl) (fun K89 hK89 => ?_)
        refine d_call (d := 55) rfl (by kernel_rfl) (spoil_copy w86 (H87.at 6 rfl) (by simp only [List.length_take]; omega)) ?_
        rintro _ w90 ⟨rfl, T91⟩
        have H92 : Sat w [bookC b mb (signL L (⟨((acts.getD i actT0).p), ((acts.getD i actT0).s.take 40)⟩ : Signed)), cellC r 44 ([(.slice a L.length c)] : List Value), rowC 60 2 (.slice a L.length c) L.length (L.flatMap encS), restC w (sepC (bothB b mb r a0 c0 L0)).fp, cellC b18 56 ([(.int .i64 ((acts.getD i actT0).d)), (.int .i64 ((acts.getD i actT0).p)), (.int .i64 ((acts.getD i actT0).sb)), (.int .i64 ((acts.getD i actT0).sm)), (.slice a32 (((acts.getD i actT0).s.take 40).length) c33)] : List Value), rowC 5 1 (.slice a32 (((acts.getD i actT0).s.take 40).length) c33) (((acts.getD i actT0).s.take 40).length) (((acts.getD i actT0).s.take 40).flatMap encB), cellC b82 30 ([(.int .i64 (((acts.getD i actT0).p))), (.int .i64 (markOf (signL L (⟨((acts.getD i actT0).p), ((acts.getD i actT0).s.take 40)⟩ : Signed)) (⟨((acts.getD i actT0).p), ((acts.getD i actT0).s.take 40)⟩ : Signed)))] : List Value)] w90 := Sat.turn1 (L' := []) (R := [bookC b mb (signL L (⟨((acts.getD i actT0).p), ((acts.getD i actT0).s.take 40)⟩ : Signed)), cellC r 44 ([(.slice a L.length c)] : List Value), rowC 60 2 (.slice a L.length c) L.length (L.flatMap encS), restC w (sepC (bothB b mb r a0 c0 L0)).fp, cellC b18 56 ([(.int .i64 ((acts.getD i actT0).d)), (.int .i64 ((acts.getD i actT0).p)), (.int .i64 ((acts.getD i actT0).sb)), (.int .i64 ((acts.getD i actT0).sm)), (.slice a32 (((acts.getD i actT0).s.take 40).length) c33)] : List Value), rowC 5 1 (.slice a32 (((acts.getD i actT0).s.take 40).length) c33) (((acts.getD i actT0).s.take 40).length) (((acts.getD i actT0).s.take 40).flatMap encB), cellC b82 30 ([(.int .i64 (((acts.getD i actT0).p))), (.int .i64 (markOf (signL L (⟨((acts.getD i actT0).p), ((acts.getD i actT0).s.take 40)⟩ : Signed)) (⟨((acts.getD i actT0).p), ((acts.getD i actT0).s.take 40)⟩ : Signed)))] : List Value)]) H87 6 [0, 1, 2, 3, 4, 5, 7] (by decide) rfl rfl T91
        refine ⟨_, rfl, ?_⟩
        refine hK89 _ _ ?_
        clear hK89 K89
        refine w_nil ?_
        refine then_normal ?_
        refine w_seq ?_
        refine h_start H92 [bookC b mb (signL L (⟨((acts.getD i actT0).p), ((acts.getD i actT0).s.take 40)⟩ : Signed)), restC w (sepC (bothB b mb r a0 c0 L0)).fp, cellC b18 56 ([(.int .i64 ((acts.getD i actT0).d)), (.int .i64 ((acts.getD i actT0).p)), (.int .i64 ((acts.getD i actT0).sb)), (.int .i64 ((acts.getD i actT0).sm)), (.slice a32 (((acts.getD i actT0).s.take 40).length) c33)] : List Value), rowC 5 1 (.slice a32 (((acts.getD i actT0).s.take 40).length) c33) (((acts.getD i actT0).s.take 40).length) (((acts.getD i actT0).s.take 40).flatMap encB), cellC b82 30 ([(.int .i64 (((acts.getD i actT0).p))), (.int .i64 (markOf (signL L (⟨((acts.getD i actT0).p), ((acts.getD i actT0).s.take 40)⟩ : Signed)) (⟨((acts.getD i actT0).p), ((acts.getD i actT0).s.take 40)⟩ : Signed)))] : List Value)] 16 rfl (by kernel_rfl) (fun Hx => (Hx.pick [0, 3, 4, 5, 6] (by decide))) ?_
        intro w93 H94 S95
        refine h_val 0 rfl (by kernel_rfl) (by kernel_rfl) (by kernel_rfl) (fun _ _ _ h => h) S95 (wants0 rfl) (d := 56) (v := (.agg ⟨([(.int .i64 (((acts.getD i actT0).p))), (.int .i64 (markOf (signL L (⟨((acts.getD i actT0).p), ((acts.getD i actT0).s.take 40)⟩ : Signed)) (⟨((acts.getD i actT0).p), ((acts.getD i actT0).s.take 40)⟩ : Signed)))] : List Value)⟩)) rfl (fun _ H' => (e_loadN (vs := ([(.int .i64 (((acts.getD i actT0).p))), (.int .i64 (markOf (signL L (⟨((acts.getD i actT0).p), ((acts.getD i actT0).s.take 40)⟩ : Signed)) (⟨((acts.getD i actT0).p), ((acts.getD i actT0).s.take 40)⟩ : Signed)))] : List Value)) rfl (by kernel_rfl) (by kernel_rfl) (by exact Nat.le_of_ble_eq_true (by kernel_rfl)) (H'.at 4 rfl) (by kernel_rfl))) ?_
        refine h_val 1 rfl (by kernel_rfl) (by kernel_rfl) (by kernel_rfl) (fun _ _ _ h => h) S95 (wants0 rfl) (d := 57) (v := (.pointer (some ⟨r, 0, none⟩))) rfl (fun _ H' => (by kernel_rfl)) ?_
        refine h_val 2 rfl (by kernel_rfl) (by kernel_rfl) (by kernel_rfl) (fun _ _ _ h => h) S95 (wants0 rfl) (d := 58) (v := (.pointer (some ⟨b18, 1, none⟩))) rfl (fun _ H' => (by kernel_rfl)) ?_
        refine h_val 3 rfl (by kernel_rfl) (by kernel_rfl) (by kernel_rfl) (fun _ _ _ h => h) S95 (wants0 rfl) (d := 59) (v := (.int .i64 ((acts.getD i actT0).p))) rfl (fun _ H' => (e_load1 rfl (by kernel_rfl) (H'.cell 2 rfl rfl))) ?_
        refine h_val 4 rfl (by kernel_rfl) (by kernel_rfl) (by kernel_rfl) (fun _ _ _ h => h) S95 (wants0 rfl) (d := 60) (v := (.pointer (some ⟨b18, 4, none⟩))) rfl (fun _ H' => (by kernel_rfl)) ?_
        refine h_val 5 rfl (by kernel_rfl) (by kernel_rfl) (by kernel_rfl) (fun _ _ _ h => h) S95 (wants0 rfl) (d := 61) (v := (.slice a32 (((acts.getD i actT0).s.take 40).length) c33)) rfl (fun _ H' => (e_load1 rfl (by kernel_rfl) (H'.cell 2 rfl rfl))) ?_
        refine h_do 6 rfl (by kernel_rfl) (wants0 rfl) (fun K96 hK96 => ?_)
        refine d_call (d := 62) rfl (by kernel_rfl) (rbSign_any w93 r a c L (.slice a32 (((acts.getD i actT0).s.take 40).length) c33) ((acts.getD i actT0).s.take 40) (H94.fin [1, 2, 5] (by decide) rfl) (by omega) hnd ((acts.getD i actT0).p)) ?_
        rintro _ w97 ⟨a99, c100, rfl, T98⟩
        have H101 : Sat w [bookC b mb (signL L (⟨((acts.getD i actT0).p), ((acts.getD i actT0).s.take 40)⟩ : Signed)), cellC r 44 ([(.slice a99 ((signL L (⟨((acts.getD i actT0).p), ((acts.getD i actT0).s.take 40)⟩ : Signed)).length) c100)] : List Value), rowC 60 2 (.slice a99 ((signL L (⟨((acts.getD i actT0).p), ((acts.getD i actT0).s.take 40)⟩ : Signed)).length) c100) ((signL L (⟨((acts.getD i actT0).p), ((acts.getD i actT0).s.take 40)⟩ : Signed)).length) ((signL L (⟨((acts.getD i actT0).p), ((acts.getD i actT0).s.take 40)⟩ : Signed)).flatMap encS), restC w (sepC (bothB b mb r a0 c0 L0)).fp, cellC b18 56 ([(.int .i64 ((acts.getD i actT0).d)), (.int .i64 ((acts.getD i actT0).p)), (.int .i64 ((acts.getD i actT0).sb)), (.int .i64 ((acts.getD i actT0).sm)), (.slice a32 (((acts.getD i actT0).s.take 40).length) c33)] : List Value), rowC 5 1 (.slice a32 (((acts.getD i actT0).s.take 40).length) c33) (((acts.getD i actT0).s.take 40).length) (((acts.getD i actT0).s.take 40).flatMap encB), cellC b82 30 ([(.int .i64 (((acts.getD i actT0).p))), (.int .i64 (markOf (signL L (⟨((acts.getD i actT0).p), ((acts.getD i actT0).s.take 40)⟩ : Signed)) (⟨((acts.getD i actT0).p), ((acts.getD i actT0).s.take 40)⟩ : Signed)))] : List Value)] w97 := (Sat.turnL (L' := [cellC r 44 ([(.slice a99 ((signL L (⟨((acts.getD i actT0).p), ((acts.getD i actT0).s.take 40)⟩ : Signed)).length) c100)] : List Value), rowC 60 2 (.slice a99 ((signL L (⟨((acts.getD i actT0).p), ((acts.getD i actT0).s.take 40)⟩ : Signed)).length) c100) ((signL L (⟨((acts.getD i actT0).p), ((acts.getD i actT0).s.take 40)⟩ : Signed)).length) ((signL L (⟨((acts.getD i actT0).p), ((acts.getD i actT0).s.take 40)⟩ : Signed)).flatMap encS), rowC 5 1 (.slice a32 (((acts.getD i actT0).s.take 40).length) c33) (((acts.getD i actT0).s.take 40).length) (((acts.getD i actT0).s.take 40).flatMap encB)]) (R := [bookC b mb (signL L (⟨((acts.getD i actT0).p), ((acts.getD i actT0).s.take 40)⟩ : Signed)), restC w (sepC (bothB b mb r a0 c0 L0)).fp, cellC b18 56 ([(.int .i64 ((acts.getD i actT0).d)), (.int .i64 ((acts.getD i actT0).p)), (.int .i64 ((acts.getD i actT0).sb)), (.int .i64 ((acts.getD i actT0).sm)), (.slice a32 (((acts.getD i actT0).s.take 40).length) c33)] : List Value), cellC b82 30 ([(.int .i64 (((acts.getD i actT0).p))), (.int .i64 (markOf (signL L (⟨((acts.getD i actT0).p), ((acts.getD i actT0).s.take 40)⟩ : Signed)) (⟨((acts.getD i actT0).p), ((acts.getD i actT0).s.take 40)⟩ : Signed)))] : List Value)]) H94 [1, 2, 5] [0, 3, 4, 6] (by decide) (by kernel_rfl) rfl T98).pick [3, 0, 1, 4, 5, 2, 6] (by decide)
        refine ⟨_, rfl, ?_⟩
        have S102 := H101.pick [0, 3, 4, 5, 6] (by decide)
        refine hK96 _ _ S102 ?_
        clear hK96 K96
        refine h_val 7 rfl (by kernel_rfl) (by kernel_rfl) (by kernel_rfl) (fun _ _ _ h => h) S102 (wants0 rfl) (d := 63) (v := (.bool (!(decide (((acts.getD i actT0).p) = ((acts.getD i actT0).p) ∧ (markOf (signL L (⟨((acts.getD i actT0).p), ((acts.getD i actT0).s.take 40)⟩ : Signed)) (⟨((acts.getD i actT0).p), ((acts.getD i actT0).s.take 40)⟩ : Signed)) = (markOf (signL L (⟨((acts.getD i actT0).p), ((acts.getD i actT0).s.take 40)⟩ : Signed)) (⟨((acts.getD i actT0).p), ((acts.getD i actT0).s.take 40)⟩ : Signed))))))) rfl (fun _ H' => (e_neqSig ((acts.getD i actT0).p) (markOf (signL L (⟨((acts.getD i actT0).p), ((acts.getD i actT0).s.take 40)⟩ : Signed)) (⟨((acts.getD i actT0).p), ((acts.getD i actT0).s.take 40)⟩ : Signed)) ((acts.getD i actT0).p) (markOf (signL L (⟨((acts.getD i actT0).p), ((acts.getD i actT0).s.take 40)⟩ : Signed)) (⟨((acts.getD i actT0).p), ((acts.getD i actT0).s.take 40)⟩ : Signed)) rfl rfl)) ?_
        refine h_val 8 rfl (by kernel_rfl) (by kernel_rfl) (by kernel_rfl) (fun _ _ _ h => h) S102 (wants0 rfl) (d := 64) (v := (.bool (!(decide (((acts.getD i actT0).p) = ((acts.getD i actT0).p) ∧ (markOf (signL L (⟨((acts.getD i actT0).p), ((acts.getD i actT0).s.take 40)⟩ : Signed)) (⟨((acts.getD i actT0).p), ((acts.getD i actT0).s.take 40)⟩ : Signed)) = (markOf (signL L (⟨((acts.getD i actT0).p), ((acts.getD i actT0).s.take 40)⟩ : Signed)) (⟨((acts.getD i actT0).p), ((acts.getD i actT0).s.take 40)⟩ : Signed))))))) rfl (fun _ H' => (by kernel_rfl)) ?_
        have b103 : (!(decide (((acts.getD i actT0).p) = ((acts.getD i actT0).p) ∧ (markOf (signL L (⟨((acts.getD i actT0).p), ((acts.getD i actT0).s.take 40)⟩ : Signed)) (⟨((acts.getD i actT0).p), ((acts.getD i actT0).s.take 40)⟩ : Signed)) = (markOf (signL L (⟨((acts.getD i actT0).p), ((acts.getD i actT0).s.take 40)⟩ : Signed)) (⟨((acts.getD i actT0).p), ((acts.getD i actT0).s.take 40)⟩ : Signed))))) = false := by simp
        refine h_know 64 (.bool false) (congrArg Value.bool b103) ?_
        have g104 := bnot_false b103
        refine h_val 9 rfl (by kernel_rfl) (by kernel_rfl) (by kernel_rfl) (fun _ _ _ h => h) S102 (wantsY 8 64 false rfl (by kernel_rfl) rfl (by kernel_rfl)) (d := 65) (v := (.pointer (some ⟨b, 0, none⟩))) rfl (fun _ H' => (by kernel_rfl)) ?_
        refine h_val 10 rfl (by kernel_rfl) (by kernel_rfl) (by kernel_rfl) (fun _ _ _ h => h) S102 (wantsY 8 64 false rfl (by kernel_rfl) rfl (by kernel_rfl)) (d := 66) (v := (.agg ⟨([(.int .i64 (((acts.getD i actT0).p))), (.int .i64 (markOf (signL L (⟨((acts.getD i actT0).p), ((acts.getD i actT0).s.take 40)⟩ : Signed)) (⟨((acts.getD i actT0).p), ((acts.getD i actT0).s.take 40)⟩ : Signed)))] : List Value)⟩)) rfl (fun _ H' => (e_loadN (vs := ([(.int .i64 (((acts.getD i actT0).p))), (.int .i64 (markOf (signL L (⟨((acts.getD i actT0).p), ((acts.getD i actT0).s.take 40)⟩ : Signed)) (⟨((acts.getD i actT0).p), ((acts.getD i actT0).s.take 40)⟩ : Signed)))] : List Value)) rfl (by kernel_rfl) (by kernel_rfl) (by exact Nat.le_of_ble_eq_true (by kernel_rfl)) (H'.at 4 rfl) (by kernel_rfl))) ?_
        refine h_val 11 rfl (by kernel_rfl) (by kernel_rfl) (by kernel_rfl) (fun _ _ _ h => h) S102 (wantsY 8 64 false rfl (by kernel_rfl) rfl (by kernel_rfl)) (d := 67) (v := (.pointer (some ⟨b18, 4, none⟩))) rfl (fun _ H' => (by kernel_rfl)) ?_
        refine h_val 12 rfl (by kernel_rfl) (by kernel_rfl) (by kernel_rfl) (fun _ _ _ h => h) S102 (wantsY 8 64 false rfl (by kernel_rfl) rfl (by kernel_rfl)) (d := 68) (v := (.slice a32 (((acts.getD i actT0).s.take 40).length) c33)) rfl (fun _ H' => (e_load1 rfl (by kernel_rfl) (H'.cell 2 rfl rfl))) ?_
        refine h_do 13 rfl (by kernel_rfl) (wantsY 8 64 false rfl (by kernel_rfl) rfl (by kernel_rfl)) (fun K105 hK105 => ?_)
        refine d_call (d := 69) rfl (by kernel_rfl) (right_any w97 b mb (signL L (⟨((acts.getD i actT0).p), ((acts.getD i actT0).s.take 40)⟩ : Signed)) ((acts.getD i actT0).p) (markOf (signL L (⟨((acts.getD i actT0).p), ((acts.getD i actT0).s.take 40)⟩ : Signed)) (⟨((acts.getD i actT0).p), ((acts.getD i actT0).s.take 40)⟩ : Signed)) (.slice a32 (((acts.getD i actT0).s.take 40).length) c33) ((acts.getD i actT0).s.take 40) (H101.at 0 rfl) (list_bytes (ListAt.row (e := 5) (enc := encB) (sz := 1) (xs := ((acts.getD i actT0).s.take 40)) encB_len (by decide) (H101.at 5 rfl)))) ?_
        rintro _ w106 ⟨rfl, u108⟩
        have H107 := H101.keepU u108
        refine ⟨_, rfl, ?_⟩
        have S109 := H107.pick [0, 3, 4, 5, 6] (by decide)
        refine hK105 _ _ S109 ?_
        clear hK105 K105
        refine h_val 14 rfl (by kernel_rfl) (by kernel_rfl) (by kernel_rfl) (fun _ _ _ h => h) S109 (wantsY 8 64 false rfl (by kernel_rfl) rfl (by kernel_rfl)) (d := 70) (v := (.bool (!(rightB (signL L (⟨((acts.getD i actT0).p), ((acts.getD i actT0).s.take 40)⟩ : Signed)) ((acts.getD i actT0).p) (markOf (signL L (⟨((acts.getD i actT0).p), ((acts.getD i actT0).s.take 40)⟩ : Signed)) (⟨((acts.getD i actT0).p), ((acts.getD i actT0).s.take 40)⟩ : Signed)) ((acts.getD i actT0).s.take 40))))) rfl (fun _ H' => (by kernel_rfl)) ?_
        refine h_val 15 rfl (by kernel_rfl) (by kernel_rfl) (by kernel_rfl) (fun _ _ _ h => h) S109 (wants0 rfl) (d := 71) (v := (.bool (!(rightB (signL L (⟨((acts.getD i actT0).p), ((acts.getD i actT0).s.take 40)⟩ : Signed)) ((acts.getD i actT0).p) (markOf (signL L (⟨((acts.getD i actT0).p), ((acts.getD i actT0).s.take 40)⟩ : Signed)) (⟨((acts.getD i actT0).p), ((acts.getD i actT0).s.take 40)⟩ : Signed)) ((acts.getD i actT0).s.take 40))))) rfl (fun _ H' => (by kernel_rfl)) ?_
        refine h_fin (by kernel_rfl) ?_
        refine then_normal ?_
        have b110 : (!(rightB (signL L (⟨((acts.getD i actT0).p), ((acts.getD i actT0).s.take 40)⟩ : Signed)) ((acts.getD i actT0).p) (markOf (signL L (⟨((acts.getD i actT0).p), ((acts.getD i actT0).s.take 40)⟩ : Signed)) (⟨((acts.getD i actT0).p), ((acts.getD i actT0).s.take 40)⟩ : Signed)) ((acts.getD i actT0).s.take 40))) = false := by rw [right_signed hnd]; rfl
        refine wp_know 71 (.bool false) (congrArg Value.bool b110) ?_
        have g111 := bnot_false b110
        refine wp_iff rfl ?_
        refine w_skip ?_
        refine then_normal ?_
        refine w_seq ?_
        refine q_start H107 (by kernel_rfl) (by kernel_rfl) ?_
        refine q_val (wants0 rfl) (d := 72) (v := (.pointer (some ⟨b, 0, none⟩))) rfl (fun _ H' => (by kernel_rfl)) ?_
        refine q_call (wants0 rfl) (d := 73) (v := (.int .i64 (((signL L (⟨((acts.getD i actT0).p), ((acts.getD i actT0).s.take 40)⟩ : Signed)).length : Int)))) rfl (fun _ _ => by kernel_rfl) (fun w' H' => (lenU_any w' b mb (signL L (⟨((acts.getD i actT0).p), ((acts.getD i actT0).s.take 40)⟩ : Signed)) (H'.at 0 rfl)).mono fun _ _ h => ⟨h.1, H'.keepU h.2⟩) ?_
        refine q_val (wants0 rfl) (d := 74) (v := (.pointer (some ⟨r, 0, none⟩))) rfl (fun _ H' => (by kernel_rfl)) ?_
        refine q_val (wants0 rfl) (d := 75) (v := (.pointer (some ⟨r, 0, none⟩))) rfl (fun _ H' => (by kernel_rfl)) ?_
        refine q_val (wants0 rfl) (d := 76) (v := (.pointer (some ⟨r, 0, none⟩))) rfl (fun _ H' => (by kernel_rfl)) ?_
        refine q_val (wants0 rfl) (d := 77) (v := (.slice a99 ((signL L (⟨((acts.getD i actT0).p), ((acts.getD i actT0).s.take 40)⟩ : Signed)).length) c100)) rfl (fun _ H' => (e_load1 rfl (by kernel_rfl) (H'.cell 1 rfl rfl))) ?_
        refine q_val (wants0 rfl) (d := 78) (v := (.int .i64 (((signL L (⟨((acts.getD i actT0).p), ((acts.getD i actT0).s.take 40)⟩ : Signed)).length : Int)))) rfl (fun _ H' => (by kernel_rfl)) ?_
        refine q_val (wants0 rfl) (d := 79) (v := (.bool (!(decide (((signL L (⟨((acts.getD i actT0).p), ((acts.getD i actT0).s.take 40)⟩ : Signed)).length : Int) = ((signL L (⟨((acts.getD i actT0).p), ((acts.getD i actT0).s.take 40)⟩ : Signed)).length : Int)))))) rfl (fun _ H' => (by kernel_rfl)) ?_
        refine q_end ?_
        intro w112 H113
        refine then_normal ?_
        have b114 : (!(decide (((signL L (⟨((acts.getD i actT0).p), ((acts.getD i actT0).s.take 40)⟩ : Signed)).length : Int) = ((signL L (⟨((acts.getD i actT0).p), ((acts.getD i actT0).s.take 40)⟩ : Signed)).length : Int)))) = false := by simp
        refine wp_know 79 (.bool false) (congrArg Value.bool b114) ?_
        have g115 := bnot_false b114
        have g116 := of_decide_eq_true g115
        refine wp_iff rfl ?_
        refine w_skip ?_
        refine blk_normal ?_
        refine then_normal ?_
        refine w_lit ?_
        refine wl_pure (wants0 rfl) (d := 19) (v := (.int .i64 ((i : Int)))) rfl (by kernel_rfl) ?_
        refine wl_pure (wants0 rfl) (d := 20) (v := (.int .i64 ((i : Int) + 1))) rfl (e_int (z := (i : Int) + 1) (by kernel_rfl) (IntWalk.i64_in _ (by omega))) ?_
        refine wl_pure (wants0 rfl) (d := 7) (v := (.int .i64 ((i : Int) + 1))) rfl (by kernel_rfl) ?_
        refine w_nil ?_
        have H117 : Sat w [bookC b mb (signL L (⟨((acts.getD i actT0).p), ((acts.getD i actT0).s.take 40)⟩ : Signed)), cellC r 44 ([(.slice a99 ((signL L (⟨((acts.getD i actT0).p), ((acts.getD i actT0).s.take 40)⟩ : Signed)).length) c100)] : List Value), rowC 60 2 (.slice a99 ((signL L (⟨((acts.getD i actT0).p), ((acts.getD i actT0).s.take 40)⟩ : Signed)).length) c100) ((signL L (⟨((acts.getD i actT0).p), ((acts.getD i actT0).s.take 40)⟩ : Signed)).length) ((signL L (⟨((acts.getD i actT0).p), ((acts.getD i actT0).s.take 40)⟩ : Signed)).flatMap encS), restC w (sepC (bothB b mb r a0 c0 L0)).fp] w112 := H113.pick [0, 1, 2, 3] (by decide)
        refine round_back ?_ _ ⟨(i + 1), a99, c100, (signL L (⟨((acts.getD i actT0).p), ((acts.getD i actT0).s.take 40)⟩ : Signed)), (show ((.int .i64 ((i : Int) + 1)) : Value) = _ by first | rfl | go_num), by omega, (by first | omega | (have q := signL_len L (⟨(acts.getD i actT0).p, (acts.getD i actT0).s.take 40⟩ : Signed); omega)), H117, rfl⟩ (by omega)
        exact (same_upd rfl (same_upd rfl (same_upd rfl (same_upd rfl (same_upd rfl (same_upd rfl (same_upd rfl (same_upd rfl (same_upd rfl (same_upd rfl (same_upd rfl (same_upd rfl (same_upd rfl (same_upd rfl (same_upd rfl (same_upd rfl (same_upd rfl (same_upd rfl (same_upd rfl (same_upd rfl (same_upd rfl (same_upd rfl (same_upd rfl (same_upd rfl (same_upd rfl (same_upd rfl (same_upd rfl (same_upd rfl (same_upd rfl (same_upd rfl (same_upd rfl (same_upd rfl (same_upd rfl (same_upd rfl (same_upd rfl (same_upd rfl (same_upd rfl (same_upd rfl (same_upd rfl (same_upd rfl (same_upd rfl (same_upd rfl (same_upd rfl (same_upd rfl (same_upd rfl (same_upd rfl (same_upd rfl (same_upd rfl (same_upd rfl (same_upd rfl (same_upd rfl (same_upd rfl (same_upd rfl (same_upd rfl (same_upd rfl (same_upd rfl (same_upd rfl (same_upd rfl (same_upd rfl (same_upd rfl (same_upd rfl (same_upd rfl (same_upd rfl (same_upd rfl (same_upd rfl (same_upd rfl (same_upd rfl (same_ovr))))))))))))))))))))))))))))))))))))))))))))))))))))))))))))))))))))
    · have g118 := of_decide_eq_false b9
      refine wp_know 18 (.bool false) (congrArg Value.bool b9) ?_
      have g119 := of_decide_eq_false b9
      refine wp_iff rfl ?_
      refine w_exit ?_
      refine then_exit ?_
      refine back_exit ?_
      refine blk_hit ?_
      refine then_normal ?_
      refine w_seq ?_
      refine w_lit ?_
      refine wl_pure (wants0 rfl) (d := 6) (v := (.bool true)) rfl (by kernel_rfl) ?_
      refine w_nil ?_
      refine then_normal ?_
      refine w_ret ?_
      refine end1 rfl (res_tmp (v := (.bool true)) rfl) ?_
      exact ⟨a, c, L, rfl, H3.pick [0, 1, 2, 3] (by decide), by omega⟩
  · have g120 := of_decide_eq_false b6
    refine wl_know 15 (.bool false) (congrArg Value.bool b6) ?_
    have g121 := of_decide_eq_false b6
    refine wl_pass (wantsN 4 15 true rfl (by kernel_rfl) rfl (by kernel_rfl)) rfl ?_
    refine wl_pass (wantsN 4 15 true rfl (by kernel_rfl) rfl (by kernel_rfl)) rfl ?_
    refine wl_pure (wants0 rfl) (d := 18) (v := (.bool false)) rfl (by kernel_rfl) ?_
    refine w_nil ?_
    refine then_normal ?_
    refine wp_iff rfl ?_
    refine w_exit ?_
    refine then_exit ?_
    refine back_exit ?_
    refine blk_hit ?_
    refine then_normal ?_
    refine w_seq ?_
    refine w_lit ?_
    refine wl_pure (wants0 rfl) (d := 6) (v := (.bool true)) rfl (by kernel_rfl) ?_
    refine w_nil ?_
    refine then_normal ?_
    refine w_ret ?_
    refine end1 rfl (res_tmp (v := (.bool true)) rfl) ?_
    exact ⟨a, c, L, rfl, H3.pick [0, 1, 2, 3] (by decide), by omega⟩

end Go.Proofs.Ytjcoeokmoibppaa
