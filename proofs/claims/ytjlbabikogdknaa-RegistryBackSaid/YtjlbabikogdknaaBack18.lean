/- WHAT IS PROVED: RegistryBack: its walk. Conditions: stated with each. -/
import Derived.Test.YtjlbabikogdknaaItems18
namespace Go.Proofs.Ytjlbabikogdknaa
open Go.RowKit

set_option maxRecDepth 100000 in
set_option maxHeartbeats 400000 in
theorem back18_all (w : World) (va : Option Addr) (vc : Nat) (acts : List ActS) (hacts : ListAt encA 3 w (.slice va acts.length vc) acts) (_hwl : acts.length ≤ 9223372036854775807) (hal : ∀ x ∈ acts, x.s.length ≤ 9223372036854775807) (c : Int) :
    Calls Try.prog 5 #[(.slice va acts.length vc), (.int .i64 (c))] w fun e w' => e = .returned (.bool true) ∧ Upd [] w w' := by
  have H := Sat.start0 w
  have hw := within_lim c 5 (by omega)
  obtain ⟨C, hC⟩ : ∃ C, C = withinV c 5 := ⟨_, rfl⟩
  have hact : ∀ i, i < acts.length → (acts.getD i act0).s.length ≤ 9223372036854775807 := fun i hi => by
    rw [List.getD_eq_getElem?_getD, List.getElem?_eq_getElem hi]; exact hal _ (List.getElem_mem hi)
  refine calls_fr Try.func5 rfl 110 rfl (Nat.le_of_ble_eq_true rfl) ?_
  refine w_seq ?_
  refine w_lit ?_
  refine wl_pure (wants0 rfl) (d := 4) (v := (.bool false)) rfl (by kernel_rfl) ?_
  refine w_nil ?_
  refine then_normal ?_
  refine w_seq ?_
  refine w_lit ?_
  refine wl_do (wants0 rfl) (fun K1 hK1 => ?_)
  refine d_call (d := 12) rfl (by kernel_rfl) (new_any w) ?_
  rintro _ w4 ⟨r2, b3, rfl, k5, u6, p7, q8⟩
  have H9 : Sat w [restC w (fun _ => False), regC r2 b3 []] w4 := H.addU u6 k5 (fun x hx => by simp [regC, regL, sepC, cellC, mapC] at hx; omega)
  have H10 : Sat w [restC w (fun _ => False), cellC r2 52 ([(.map (some b3))] : List Value), mapC b3 strV (Value.int .i64) []] w4 := H9.open 1 rfl
  refine ⟨_, rfl, ?_⟩
  refine hK1 _ _ ?_
  clear hK1 K1
  refine wl_pure (wants0 rfl) (d := 5) (v := (.pointer (some ⟨r2, 0, none⟩))) rfl (by kernel_rfl) ?_
  refine w_nil ?_
  refine then_normal ?_
  refine w_seq ?_
  refine w_seq ?_
  refine w_lit ?_
  refine wl_pure (wants0 rfl) (d := 13) (v := (.pointer (some ⟨r2, 0, none⟩))) rfl (by kernel_rfl) ?_
  refine wl_pure (wants0 rfl) (d := 14) (v := (.bool false)) rfl (by kernel_rfl) ?_
  refine w_nil ?_
  refine then_normal ?_
  refine wp_iff rfl ?_
  refine w_skip ?_
  refine then_normal ?_
  refine w_seq ?_
  refine w_seq ?_
  refine w_lit ?_
  refine wl_pure (wants0 rfl) (d := 6) (v := (.int .i64 (0))) rfl (by kernel_rfl) ?_
  refine w_nil ?_
  refine then_normal ?_
  refine w_block ?_
  refine wp_round [6, 15, 16, 17, 18, 19, 20, 21, 22, 23, 24, 25, 26, 27, 28, 29, 30, 31, 32, 33, 34, 35, 36, 37] (fun F_ W_ m_ => ∃ (i : Nat) (L : RegL), F_ 6 = (.int .i64 ((i : Int))) ∧ (i ≤ 20) ∧ (Short L) ∧ (Few L) ∧ Sat w [restC w (fun _ => False), cellC r2 52 ([(.map (some b3))] : List Value), mapC b3 strV (Value.int .i64) L] W_ ∧ m_ = 21 - i) _ ⟨0, [], (show ((.int .i64 (0)) : Value) = _ by first | rfl | go_num), by omega, Short.nil, (fun _ h => by cases h), H10, rfl⟩ ?_
  rintro g11 w12 _ ⟨i, L, v14, hi, hS, hF, H13, rfl⟩
  refine wp_know 6 _ v14 ?_
  refine w_seq ?_
  refine w_seq ?_
  refine w_lit ?_
  refine wl_pure (wants0 rfl) (d := 15) (v := (.int .i64 ((i : Int)))) rfl (by kernel_rfl) ?_
  refine wl_pure (wants0 rfl) (d := 16) (v := (.slice va acts.length vc)) rfl (by kernel_rfl) ?_
  refine wl_pure (wants0 rfl) (d := 17) (v := (.int .i64 ((acts.length : Int)))) rfl (by kernel_rfl) ?_
  refine wl_pure (wants0 rfl) (d := 18) (v := (.bool (decide ((i : Int) < (acts.length : Int))))) rfl (by kernel_rfl) ?_
  refine wl_pure (wants0 rfl) (d := 19) (v := (.bool (decide ((i : Int) < (acts.length : Int))))) rfl (by kernel_rfl) ?_
  refine (bsplit (decide ((i : Int) < (acts.length : Int)))).elim (fun b16 => ?_) (fun b16 => ?_)
  · have g17 := of_decide_eq_true b16
    refine wl_know 19 (.bool true) (congrArg Value.bool b16) ?_
    have g18 := of_decide_eq_true b16
    refine wl_pure (wantsY 4 19 true rfl (by kernel_rfl) rfl (by kernel_rfl)) (d := 20) (v := (.int .i64 ((i : Int)))) rfl (by kernel_rfl) ?_
    refine wl_pure (wantsY 4 19 true rfl (by kernel_rfl) rfl (by kernel_rfl)) (d := 21) (v := (.bool (decide ((i : Int) < 20)))) rfl (by kernel_rfl) ?_
    refine wl_pure (wants0 rfl) (d := 22) (v := (.bool (decide ((i : Int) < 20)))) rfl (by kernel_rfl) ?_
    refine w_nil ?_
    refine then_normal ?_
    refine (bsplit (decide ((i : Int) < 20))).elim (fun b19 => ?_) (fun b19 => ?_)
    · have g20 := of_decide_eq_true b19
      refine wp_know 22 (.bool true) (congrArg Value.bool b19) ?_
      have g21 := of_decide_eq_true b19
      refine wp_ift rfl ?_
      refine w_skip ?_
      refine then_normal ?_
      refine w_seq ?_
      refine w_block ?_
      obtain ⟨g22, o23, c24, e25, R26⟩ := SliceOf.atD hacts act0 (show i < acts.length by omega)
      obtain ⟨g27, o28, c29, e30, R31⟩ := SliceOf.atD hacts act0 (show i < acts.length by omega)
      refine h_start H13 [restC w (fun _ => False)] 13 rfl (by kernel_rfl) (fun Hx => (Hx.pick [0] (by decide))) ?_
      intro w32 H33 S34
      refine h_val 0 rfl (by kernel_rfl) (by kernel_rfl) (by kernel_rfl) (fun _ _ _ h => h) S34 (wants0 rfl) (d := 25) (v := (.pointer (some ⟨r2, 0, none⟩))) rfl (fun _ H' => (by kernel_rfl)) ?_
      refine h_val 1 rfl (by kernel_rfl) (by kernel_rfl) (by kernel_rfl) (fun _ _ _ h => h) S34 (wants0 rfl) (d := 26) (v := (.slice va acts.length vc)) rfl (fun _ H' => (by kernel_rfl)) ?_
      refine h_val 2 rfl (by kernel_rfl) (by kernel_rfl) (by kernel_rfl) (fun _ _ _ h => h) S34 (wants0 rfl) (d := 27) (v := (.int .i64 ((i : Int)))) rfl (fun _ H' => (by kernel_rfl)) ?_
      obtain ⟨g35, o36, c37, e38, R39⟩ := SliceOf.atD hacts act0 (show i < acts.length by omega)
      refine h_val 3 rfl (by kernel_rfl) (by kernel_rfl) (by kernel_rfl) (fun _ _ _ h => h) S34 (wants0 rfl) (d := 28) (v := (.pointer (some ⟨g35, o36 + ((i : Int)).toNat * 3, none⟩))) rfl (fun _ H' => (e_indexAddrW (E := 40) (by kernel_rfl) (by kernel_rfl) (Nat.le_of_ble_eq_true rfl) rfl e38 rfl (by omega) (by omega))) ?_
      refine h_val 4 rfl (by kernel_rfl) (by kernel_rfl) (by kernel_rfl) (fun _ _ _ h => h) S34 (wants0 rfl) (d := 29) (v := (.agg ⟨([(.int .i64 ((acts.getD i act0).d)), (.int .i64 ((acts.getD i act0).c)), (strV ((acts.getD i act0).s))] : List Value)⟩)) rfl (fun _ H' => (e_loadRun (vs := ([(.int .i64 ((acts.getD i act0).d)), (.int .i64 ((acts.getD i act0).c)), (strV ((acts.getD i act0).s))] : List Value)) rfl (by kernel_rfl) (by kernel_rfl) (Nat.le_of_ble_eq_true (by kernel_rfl)) (H'.runR 0 rfl (cells_run R39 0 (by kernel_rfl) (show o36 + ((i : Int)).toNat * 3 = o36 + i * 3 + 0 by omega)) (fun h => h)))) ?_
      refine h_val 6 rfl (by kernel_rfl) (by kernel_rfl) (by kernel_rfl) (fun _ _ _ h => h) S34 (wants0 rfl) (d := 31) (v := (.slice va acts.length vc)) rfl (fun _ H' => (by kernel_rfl)) ?_
      refine h_val 7 rfl (by kernel_rfl) (by kernel_rfl) (by kernel_rfl) (fun _ _ _ h => h) S34 (wants0 rfl) (d := 32) (v := (.int .i64 ((i : Int)))) rfl (fun _ H' => (by kernel_rfl)) ?_
      refine h_val 8 rfl (by kernel_rfl) (by kernel_rfl) (by kernel_rfl) (fun _ _ _ h => h) S34 (wants0 rfl) (d := 33) (v := (.pointer (some ⟨g35, o36 + ((i : Int)).toNat * 3, none⟩))) rfl (fun _ H' => (e_indexAddrW (E := 40) (by kernel_rfl) (by kernel_rfl) (Nat.le_of_ble_eq_true rfl) rfl e38 rfl (by omega) (by omega))) ?_
      refine h_val 9 rfl (by kernel_rfl) (by kernel_rfl) (by kernel_rfl) (fun _ _ _ h => h) S34 (wants0 rfl) (d := 34) (v := (.pointer (some ⟨g35, o36 + ((i : Int)).toNat * 3 + 1, none⟩))) rfl (fun _ H' => (by kernel_rfl)) ?_
      refine h_val 10 rfl (by kernel_rfl) (by kernel_rfl) (by kernel_rfl) (fun _ _ _ h => h) S34 (wants0 rfl) (d := 35) (v := (.int .i64 ((acts.getD i act0).c))) rfl (fun _ H' => (e_load1 rfl (by kernel_rfl) (H'.cellR 0 rfl (cells_at R39 1 (by kernel_rfl) (show o36 + ((i : Int)).toNat * 3 + 1 = o36 + i * 3 + 1 by omega)) (fun h => h)))) ?_
      refine h_do 5 rfl (by kernel_rfl) (wants0 rfl) (fun K40 hK40 => ?_)
      refine d_call (d := 30) rfl (by kernel_rfl) (item_any w32 ((acts.getD i act0).d) ((acts.getD i act0).c) ((acts.getD i act0).s) (hact _ (by omega))) ?_
      rintro _ w41 ⟨rfl, u43⟩
      have H42 := H33.keepU u43
      refine ⟨_, rfl, ?_⟩
      have S44 := H42.pick [0] (by decide)
      refine hK40 _ _ S44 ?_
      clear hK40 K40
      refine h_do 11 rfl (by kernel_rfl) (wants0 rfl) (fun K45 hK45 => ?_)
      refine d_call (d := 36) rfl (by kernel_rfl) (within_any w41 ((acts.getD i act0).c) 5 (by omega)) ?_
      rintro _ w46 ⟨rfl, u48⟩
      have H47 := H42.keepU u48
      refine ⟨_, rfl, ?_⟩
      have S49 := H47.pick [0] (by decide)
      refine hK45 _ _ S49 ?_
      clear hK45 K45
      refine h_do 12 rfl (by kernel_rfl) (wants0 rfl) (fun K50 hK50 => ?_)
      refine d_call (d := 37) rfl (by kernel_rfl) (reserve_any w46 r2 b3 L (H47.fin [1, 2] (by decide) rfl) hS (itemV ((acts.getD i act0).d) ((acts.getD i act0).s)) (by have q := itemV_len (acts.getD i act0).d (acts.getD i act0).s; omega) (withinV ((acts.getD i act0).c) 5)) ?_
      rintro _ w51 ⟨rfl, T52⟩
      have H54 : Sat w [restC w (fun _ => False), cellC r2 52 ([(.map (some b3))] : List Value), mapC b3 strV (Value.int .i64) (resL L (itemV ((acts.getD i act0).d) ((acts.getD i act0).s)) (withinV ((acts.getD i act0).c) 5))] w51 := (Sat.turnL (L' := [cellC r2 52 ([(.map (some b3))] : List Value), mapC b3 strV (Value.int .i64) (resL L (itemV ((acts.getD i act0).d) ((acts.getD i act0).s)) (withinV ((acts.getD i act0).c) 5))]) (R := [restC w (fun _ => False)]) H47 [1, 2] [0] (by decide) (by kernel_rfl) rfl T52).pick [2, 0, 1] (by decide)
      refine ⟨_, rfl, ?_⟩
      have S55 := H54.pick [0] (by decide)
      refine hK50 _ _ S55 ?_
      clear hK50 K50
      refine h_fin (by kernel_rfl) ?_
      refine blk_normal ?_
      refine then_normal ?_
      refine w_lit ?_
      refine wl_pure (wants0 rfl) (d := 23) (v := (.int .i64 ((i : Int)))) rfl (by kernel_rfl) ?_
      refine wl_pure (wants0 rfl) (d := 24) (v := (.int .i64 ((i : Int) + 1))) rfl (e_int (z := (i : Int) + 1) (by kernel_rfl) (IntWalk.i64_in _ (by omega))) ?_
      refine wl_pure (wants0 rfl) (d := 6) (v := (.int .i64 ((i : Int) + 1))) rfl (by kernel_rfl) ?_
      refine w_nil ?_
      refine round_back ?_ _ ⟨(i + 1), (resL L (itemV ((acts.getD i act0).d) ((acts.getD i act0).s)) (withinV ((acts.getD i act0).c) 5)), (show ((.int .i64 ((i : Int) + 1)) : Value) = _ by first | rfl | go_num), by omega, (Short.res hS (itemV ((acts.getD i act0).d) ((acts.getD i act0).s)) (withinV ((acts.getD i act0).c) 5)), (hF.res _ (within_lim _ 5 (by omega))), H54, rfl⟩ (by omega)
      exact (same_upd rfl (same_upd rfl (same_upd rfl (same_upd rfl (same_upd rfl (same_upd rfl (same_upd rfl (same_upd rfl (same_upd rfl (same_upd rfl (same_upd rfl (same_upd rfl (same_upd rfl (same_upd rfl (same_upd rfl (same_upd rfl (same_upd rfl (same_upd rfl (same_upd rfl (same_upd rfl (same_upd rfl (same_upd rfl (same_upd rfl (same_upd rfl (same_upd rfl (same_upd rfl (same_upd rfl (same_ovr))))))))))))))))))))))))))))
    · have g56 := of_decide_eq_false b19
      refine wp_know 22 (.bool false) (congrArg Value.bool b19) ?_
      have g57 := of_decide_eq_false b19
      refine wp_iff rfl ?_
      refine w_exit ?_
      refine then_exit ?_
      refine back_exit ?_
      refine blk_hit ?_
      refine then_normal ?_
      refine w_seq ?_
      refine w_lit ?_
      refine wl_pure (wants0 rfl) (d := 38) (v := (.pointer (some ⟨r2, 0, none⟩))) rfl (by kernel_rfl) ?_
      refine wl_do (wants0 rfl) (fun K58 hK58 => ?_)
      refine d_call (d := 39) rfl (by kernel_rfl) (items_any w12 r2 b3 L (H13.fin [1, 2] (by decide) rfl) hS) ?_
      rintro _ w59 ⟨u60, rfl, k61, p62, q63⟩
      have H64 : Sat w [restC w (fun _ => False), cellC r2 52 ([(.map (some b3))] : List Value), mapC b3 strV (Value.int .i64) L, rowC 9 1 u60 ((sortK (L : RegL)).length) ((sortK (L : RegL)).flatMap encS)] w59 := H13.addU p62 k61 q63
      obtain ⟨a65, c66, rfl⟩ := ownsRow_shape (H64.at 3 rfl)
      refine ⟨_, rfl, ?_⟩
      refine hK58 _ _ ?_
      clear hK58 K58
      refine wl_pure (wants0 rfl) (d := 7) (v := (.slice a65 ((sortK (L : RegL)).length) c66)) rfl (by kernel_rfl) ?_
      refine w_nil ?_
      refine then_normal ?_
      refine w_seq ?_
      refine w_lit ?_
      refine wl_pure (wants0 rfl) (d := 40) (v := (.int .i64 (c))) rfl (by kernel_rfl) ?_
      refine wl_do (wants0 rfl) (fun K67 hK67 => ?_)
      refine d_call (d := 41) rfl (by kernel_rfl) (within_any w59 c 5 (by omega)) ?_
      rintro _ w68 ⟨rfl, u70⟩
      have H69 := H64.keepU u70
      refine ⟨_, rfl, ?_⟩
      refine hK67 _ _ ?_
      clear hK67 K67
      refine wl_pure (wants0 rfl) (d := 1) (v := (.int .i64 (withinV c 5))) rfl (by kernel_rfl) ?_
      refine w_nil ?_
      refine then_normal ?_
      refine w_seq ?_
      refine wp_know 1 (.int .i64 (C)) (show ((.int .i64 (withinV c 5)) : Value) = _ by rw [hC]) ?_
      have hsl := sortK_len (L : RegL)
      have hS1 := hS.1
      have hcn : 0 ≤ cntL L C ∧ cntL L C ≤ 64 := by
        have q2 := List.countP_le_length (l := L) (p := fun x => decide (x.2 = C))
        unfold cntL
        omega
      have hxl : ∀ (x : List UInt8) (j : Nat), (sortK L)[j]? = some x → x.length ≤ 9223372036854775807 := fun x j hx => by
        obtain ⟨v, _, hm⟩ := sortK_look hx
        have : x.length ≤ 16 := hS.2 _ hm
        omega
      refine w_lit ?_
      refine wl_pure (wants0 rfl) (d := 42) (v := (.pointer (some ⟨r2, 0, none⟩))) rfl (by kernel_rfl) ?_
      refine wl_pure (wants0 rfl) (d := 43) (v := (.int .i64 (C))) rfl (by kernel_rfl) ?_
      refine wl_do (wants0 rfl) (fun K71 hK71 => ?_)
      refine d_call (d := 44) rfl (by kernel_rfl) (count_any w68 r2 b3 L (H69.fin [1, 2] (by decide) rfl) hS C) ?_
      rintro _ w72 ⟨rfl, u74⟩
      have H73 := H69.keepU u74
      refine ⟨_, rfl, ?_⟩
      refine hK71 _ _ ?_
      clear hK71 K71
      refine wl_pure (wants0 rfl) (d := 8) (v := (.int .i64 (cntL L C))) rfl (by kernel_rfl) ?_
      refine w_nil ?_
      refine then_normal ?_
      refine w_seq ?_
      refine w_seq ?_
      refine (bsplit (decide (resE L Q16 C = 0))).elim (fun b75 => ?_) (fun b75 => ?_)
      · have g76 := of_decide_eq_true b75
        have hq := of_decide_eq_true b75
        refine w_lit ?_
        refine wl_pure (wants0 rfl) (d := 45) (v := (.pointer (some ⟨r2, 0, none⟩))) rfl (by kernel_rfl) ?_
        refine wl_pure (wants0 rfl) (d := 46) (v := (.int .i64 (C))) rfl (by kernel_rfl) ?_
        refine wl_do (wants0 rfl) (fun K77 hK77 => ?_)
        refine d_call (d := 47) rfl (by kernel_rfl) (reserve_any w72 r2 b3 L (H73.fin [1, 2] (by decide) rfl) hS ([113, 113, 113, 113, 113, 113, 113, 113, 113, 113, 113, 113, 113, 113, 113, 113]) (by decide) C) ?_
        rintro _ w78 ⟨e80, T79⟩
        rw [show resE L [113, 113, 113, 113, 113, 113, 113, 113, 113, 113, 113, 113, 113, 113, 113, 113] C = 0 from hq] at e80
        rw [show resL L [113, 113, 113, 113, 113, 113, 113, 113, 113, 113, 113, 113, 113, 113, 113, 113] C = _ from back_put hq] at T79
        subst e80
        have H81 : Sat w [restC w (fun _ => False), cellC r2 52 ([(.map (some b3))] : List Value), mapC b3 strV (Value.int .i64) (L ++ [(Q16, C)]), rowC 9 1 (.slice a65 ((sortK (L : RegL)).length) c66) ((sortK (L : RegL)).length) ((sortK (L : RegL)).flatMap encS)] w78 := (Sat.turnL (L' := [cellC r2 52 ([(.map (some b3))] : List Value), mapC b3 strV (Value.int .i64) (L ++ [(Q16, C)])]) (R := [restC w (fun _ => False), rowC 9 1 (.slice a65 ((sortK (L : RegL)).length) c66) ((sortK (L : RegL)).length) ((sortK (L : RegL)).flatMap encS)]) H73 [1, 2] [0, 3] (by decide) (by kernel_rfl) rfl T79).pick [2, 0, 1, 3] (by decide)
        refine ⟨_, rfl, ?_⟩
        refine hK77 _ _ ?_
        clear hK77 K77
        refine wl_pure (wants0 rfl) (d := 48) (v := (.bool true)) rfl (by kernel_rfl) ?_
        refine w_nil ?_
        refine then_normal ?_
        refine wp_ift rfl ?_
        refine w_seq ?_
        refine w_lit ?_
        refine wl_pure (wants0 rfl) (d := 49) (v := (.pointer (some ⟨r2, 0, none⟩))) rfl (by kernel_rfl) ?_
        refine wl_pure (wants0 rfl) (d := 50) (v := (.int .i64 (C))) rfl (by kernel_rfl) ?_
        refine wl_do (wants0 rfl) (fun K82 hK82 => ?_)
        refine d_call (d := 51) rfl (by kernel_rfl) (count_any w78 r2 b3 (L ++ [(Q16, C)]) (H81.fin [1, 2] (by decide) rfl) (back_short hS hq) C) ?_
        rintro _ w83 ⟨rfl, u85⟩
        have H84 := H81.keepU u85
        refine ⟨_, rfl, ?_⟩
        refine hK82 _ _ ?_
        clear hK82 K82
        refine wl_pure (wants0 rfl) (d := 52) (v := (.int .i64 (cntL L C))) rfl (by kernel_rfl) ?_
        refine wl_pure (wants0 rfl) (d := 53) (v := (.int .i64 ((cntL L C) + 1))) rfl (e_int (z := (cntL L C) + 1) (by kernel_rfl) (IntWalk.i64_in _ (by omega))) ?_
        refine wl_pure (wants0 rfl) (d := 54) (v := (.bool (!(decide ((cntL (L ++ [(Q16, C)]) C) = ((cntL L C) + 1)))))) rfl (by kernel_rfl) ?_
        refine wl_pure (wants0 rfl) (d := 55) (v := (.bool (!(decide ((cntL (L ++ [(Q16, C)]) C) = ((cntL L C) + 1)))))) rfl (by kernel_rfl) ?_
        have b86 : (!(decide ((cntL (L ++ [(Q16, C)]) C) = ((cntL L C) + 1)))) = false := by rw [decide_eq_true cnt_app]; rfl
        refine wl_know 55 (.bool false) (congrArg Value.bool b86) ?_
        have g87 := bnot_false b86
        have g88 := of_decide_eq_true g87
        refine wl_pure (wantsY 6 55 false rfl (by kernel_rfl) rfl (by kernel_rfl)) (d := 56) (v := (.pointer (some ⟨r2, 0, none⟩))) rfl (by kernel_rfl) ?_
        refine wl_pure (wantsY 6 55 false rfl (by kernel_rfl) rfl (by kernel_rfl)) (d := 57) (v := (.int .i64 (C))) rfl (by kernel_rfl) ?_
        refine wl_pure (wantsY 6 55 false rfl (by kernel_rfl) rfl (by kernel_rfl)) (d := 58) (v := (.int .i64 (C + 1))) rfl (e_int (z := C + 1) (by kernel_rfl) (IntWalk.i64_in _ (by omega))) ?_
        refine wl_do (wantsY 6 55 false rfl (by kernel_rfl) rfl (by kernel_rfl)) (fun K89 hK89 => ?_)
        refine d_call (d := 59) rfl (by kernel_rfl) (release_any w83 r2 b3 (L ++ [(Q16, C)]) (H84.fin [1, 2] (by decide) rfl) (back_short hS hq) ([113, 113, 113, 113, 113, 113, 113, 113, 113, 113, 113, 113, 113, 113, 113, 113]) (by decide) (C + 1)) ?_
        rintro _ w90 ⟨e92, T91⟩
        rw [show relE (L ++ [(Q16, C)]) [113, 113, 113, 113, 113, 113, 113, 113, 113, 113, 113, 113, 113, 113, 113, 113] (C + 1) = 12 from back_r1 hq (show 0 ≤ C ∧ C < 5 by omega)] at e92
        rw [show relL (L ++ [(Q16, C)]) [113, 113, 113, 113, 113, 113, 113, 113, 113, 113, 113, 113, 113, 113, 113, 113] (C + 1) = _ from back_r1n hq (show 0 ≤ C ∧ C < 5 by omega)] at T91
        subst e92
        have H93 : Sat w [restC w (fun _ => False), cellC r2 52 ([(.map (some b3))] : List Value), mapC b3 strV (Value.int .i64) (L ++ [(Q16, C)]), rowC 9 1 (.slice a65 ((sortK (L : RegL)).length) c66) ((sortK (L : RegL)).length) ((sortK (L : RegL)).flatMap encS)] w90 := (Sat.turnL (L' := [cellC r2 52 ([(.map (some b3))] : List Value), mapC b3 strV (Value.int .i64) (L ++ [(Q16, C)])]) (R := [restC w (fun _ => False), rowC 9 1 (.slice a65 ((sortK (L : RegL)).length) c66) ((sortK (L : RegL)).length) ((sortK (L : RegL)).flatMap encS)]) H84 [1, 2] [0, 3] (by decide) (by kernel_rfl) rfl T91).pick [2, 0, 1, 3] (by decide)
        refine ⟨_, rfl, ?_⟩
        refine hK89 _ _ ?_
        clear hK89 K89
        refine wl_pure (wantsY 6 55 false rfl (by kernel_rfl) rfl (by kernel_rfl)) (d := 60) (v := (.bool false)) rfl (by kernel_rfl) ?_
        refine wl_pure (wants0 rfl) (d := 61) (v := (.bool false)) rfl (by kernel_rfl) ?_
        refine wl_pure (wants0 rfl) (d := 62) (v := (.bool false)) rfl (by kernel_rfl) ?_
        refine wl_pure (wantsY 13 62 false rfl (by kernel_rfl) rfl (by kernel_rfl)) (d := 63) (v := (.pointer (some ⟨r2, 0, none⟩))) rfl (by kernel_rfl) ?_
        refine wl_pure (wantsY 13 62 false rfl (by kernel_rfl) rfl (by kernel_rfl)) (d := 64) (v := (.int .i64 (C))) rfl (by kernel_rfl) ?_
        refine wl_do (wantsY 13 62 false rfl (by kernel_rfl) rfl (by kernel_rfl)) (fun K94 hK94 => ?_)
        refine d_call (d := 65) rfl (by kernel_rfl) (release_any w90 r2 b3 (L ++ [(Q16, C)]) (H93.fin [1, 2] (by decide) rfl) (back_short hS hq) ([113, 113, 113, 113, 113, 113, 113, 113, 113, 113, 113, 113, 113, 113, 113, 113]) (by decide) C) ?_
        rintro _ w95 ⟨e97, T96⟩
        rw [show relE (L ++ [(Q16, C)]) [113, 113, 113, 113, 113, 113, 113, 113, 113, 113, 113, 113, 113, 113, 113, 113] C = 0 from back_r2 hq (show 0 ≤ C ∧ C < 5 by omega)] at e97
        rw [show relL (L ++ [(Q16, C)]) [113, 113, 113, 113, 113, 113, 113, 113, 113, 113, 113, 113, 113, 113, 113, 113] C = _ from back_r2n hq (show 0 ≤ C ∧ C < 5 by omega)] at T96
        subst e97
        have H98 : Sat w [restC w (fun _ => False), cellC r2 52 ([(.map (some b3))] : List Value), mapC b3 strV (Value.int .i64) L, rowC 9 1 (.slice a65 ((sortK (L : RegL)).length) c66) ((sortK (L : RegL)).length) ((sortK (L : RegL)).flatMap encS)] w95 := (Sat.turnL (L' := [cellC r2 52 ([(.map (some b3))] : List Value), mapC b3 strV (Value.int .i64) L]) (R := [restC w (fun _ => False), rowC 9 1 (.slice a65 ((sortK (L : RegL)).length) c66) ((sortK (L : RegL)).length) ((sortK (L : RegL)).flatMap encS)]) H93 [1, 2] [0, 3] (by decide) (by kernel_rfl) rfl T96).pick [2, 0, 1, 3] (by decide)
        refine ⟨_, rfl, ?_⟩
        refine hK94 _ _ ?_
        clear hK94 K94
        refine wl_pure (wantsY 13 62 false rfl (by kernel_rfl) rfl (by kernel_rfl)) (d := 66) (v := (.bool false)) rfl (by kernel_rfl) ?_
        refine wl_pure (wants0 rfl) (d := 67) (v := (.bool false)) rfl (by kernel_rfl) ?_
        refine w_nil ?_
        refine then_normal ?_
        refine wp_iff rfl ?_
        refine w_skip ?_
        refine then_normal ?_
        refine w_seq ?_
        refine w_seq ?_
        refine w_lit ?_
        refine wl_pure (wants0 rfl) (d := 68) (v := (.slice a65 ((sortK (L : RegL)).length) c66)) rfl (by kernel_rfl) ?_
        refine wl_pure (wants0 rfl) (d := 69) (v := (.int .i64 (((sortK (L : RegL)).length : Int)))) rfl (by kernel_rfl) ?_
        refine wl_pure (wants0 rfl) (d := 70) (v := (.int .i64 (0))) rfl (by kernel_rfl) ?_
        refine w_nil ?_
        refine then_normal ?_
        refine w_block ?_
        refine wp_round [4, 9, 10, 11, 70, 71, 72, 73, 74, 75, 76, 77, 78, 79, 80, 81, 82, 83, 84, 85, 86, 87, 88, 89, 90, 91, 92, 93, 94, 95] (fun F_ W_ m_ => ∃ (j : Nat), F_ 70 = (.int .i64 ((j : Int))) ∧ (j ≤ (sortK (L : RegL)).length) ∧ Sat w [restC w (fun _ => False), cellC r2 52 ([(.map (some b3))] : List Value), mapC b3 strV (Value.int .i64) L, rowC 9 1 (.slice a65 ((sortK (L : RegL)).length) c66) ((sortK (L : RegL)).length) ((sortK (L : RegL)).flatMap encS)] W_ ∧ m_ = (sortK (L : RegL)).length + 1 - j) _ ⟨0, (show ((.int .i64 (0)) : Value) = _ by first | rfl | go_num), by omega, H98, rfl⟩ ?_
        rintro g99 w100 _ ⟨j, v102, hj, H101, rfl⟩
        refine wp_know 70 _ v102 ?_
        refine w_seq ?_
        refine w_lit ?_
        refine wl_pure (wants0 rfl) (d := 71) (v := (.bool (decide ((j : Int) < ((sortK (L : RegL)).length : Int))))) rfl (by kernel_rfl) ?_
        refine w_nil ?_
        refine then_normal ?_
        refine w_seq ?_
        refine (bsplit (decide ((j : Int) < ((sortK (L : RegL)).length : Int)))).elim (fun b104 => ?_) (fun b104 => ?_)
        · have g105 := of_decide_eq_true b104
          refine wp_know 71 (.bool true) (congrArg Value.bool b104) ?_
          have g106 := of_decide_eq_true b104
          refine wp_ift rfl ?_
          refine w_skip ?_
          refine then_normal ?_
          refine w_seq ?_
          refine w_block ?_
          refine w_seq ?_
          refine w_lit ?_
          refine wl_pure (wants0 rfl) (d := 72) (v := (.int .i64 ((j : Int)))) rfl (by kernel_rfl) ?_
          refine wl_pure (wants0 rfl) (d := 9) (v := (.int .i64 ((j : Int)))) rfl (by kernel_rfl) ?_
          refine w_nil ?_
          refine then_normal ?_
          refine w_seq ?_
          refine w_lit ?_
          refine wl_pure (wants0 rfl) (d := 74) (v := (.pointer (some ⟨r2, 0, none⟩))) rfl (by kernel_rfl) ?_
          refine wl_pure (wants0 rfl) (d := 75) (v := (.slice a65 ((sortK (L : RegL)).length) c66)) rfl (by kernel_rfl) ?_
          refine wl_pure (wants0 rfl) (d := 76) (v := (.int .i64 ((j : Int)))) rfl (by kernel_rfl) ?_
          obtain ⟨g107, c108, e109⟩ := row_shape (H101.at 3 rfl) (by omega)
          obtain ⟨x110, h111⟩ := get_at (show j < (sortK (L : RegL)).length by omega)
          refine wl_pure (wants0 rfl) (d := 77) (v := (.pointer (some ⟨g107, 0 + ((j : Int)).toNat * 1, none⟩))) rfl (e_indexAddrV (E := 9) (by kernel_rfl) (by kernel_rfl) (Nat.le_of_ble_eq_true rfl) rfl e109 rfl (by omega) (by omega)) ?_
          refine wl_pure (wants0 rfl) (d := 78) (v := (strV x110)) rfl (e_load1 rfl (by kernel_rfl) (rows_cell (H101.at 3 rfl) e109 encS_len h111 0 rfl (show 0 + ((j : Int)).toNat * 1 = j * 1 + 0 by omega) (by kernel_rfl))) ?_
          refine wl_do (wants0 rfl) (fun K112 hK112 => ?_)
          refine d_call (d := 79) rfl (by kernel_rfl) (owner_any w100 r2 b3 L (H101.fin [1, 2] (by decide) rfl) x110) ?_
          rintro _ w113 ⟨rfl, u115⟩
          have H114 := H101.keepU u115
          refine ⟨_, rfl, ?_⟩
          refine hK112 _ _ ?_
          clear hK112 K112
          refine wl_pure (wants0 rfl) (d := 73) (v := (.tuple #[(.int .i64 ((lookM L x110).getD 0)), (.bool ((lookM L x110).isSome))])) rfl (by kernel_rfl) ?_
          refine wl_pure (wants0 rfl) (d := 80) (v := (.int .i64 ((lookM L x110).getD 0))) rfl (by kernel_rfl) ?_
          refine wl_pure (wants0 rfl) (d := 81) (v := (.bool ((lookM L x110).isSome))) rfl (by kernel_rfl) ?_
          refine wl_pure (wants0 rfl) (d := 10) (v := (.int .i64 ((lookM L x110).getD 0))) rfl (by kernel_rfl) ?_
          refine wl_pure (wants0 rfl) (d := 11) (v := (.bool ((lookM L x110).isSome))) rfl (by kernel_rfl) ?_
          refine w_nil ?_
          refine then_normal ?_
          refine w_seq ?_
          obtain ⟨v, hv, hm⟩ := sortK_look h111
          have hvb := hF _ hm
          simp only at hvb
          have hgd : (lookM L x110).getD 0 = v := by rw [hv]; rfl
          refine wp_know 11 (.bool true) (show ((.bool ((lookM L x110).isSome)) : Value) = _ by rw [hv]; rfl) ?_
          refine w_lit ?_
          refine wl_pure (wants0 rfl) (d := 82) (v := (.bool true)) rfl (by kernel_rfl) ?_
          refine wl_pure (wants0 rfl) (d := 83) (v := (.bool false)) rfl (by kernel_rfl) ?_
          refine wl_pure (wants0 rfl) (d := 84) (v := (.bool false)) rfl (by kernel_rfl) ?_
          refine wl_pure (wantsY 2 84 false rfl (by kernel_rfl) rfl (by kernel_rfl)) (d := 85) (v := (.pointer (some ⟨r2, 0, none⟩))) rfl (by kernel_rfl) ?_
          refine wl_pure (wantsY 2 84 false rfl (by kernel_rfl) rfl (by kernel_rfl)) (d := 86) (v := (.slice a65 ((sortK (L : RegL)).length) c66)) rfl (by kernel_rfl) ?_
          refine wl_pure (wantsY 2 84 false rfl (by kernel_rfl) rfl (by kernel_rfl)) (d := 87) (v := (.int .i64 ((j : Int)))) rfl (by kernel_rfl) ?_
          refine wl_pure (wantsY 2 84 false rfl (by kernel_rfl) rfl (by kernel_rfl)) (d := 88) (v := (.pointer (some ⟨g107, 0 + ((j : Int)).toNat * 1, none⟩))) rfl (e_indexAddrV (E := 9) (by kernel_rfl) (by kernel_rfl) (Nat.le_of_ble_eq_true rfl) rfl e109 rfl (by omega) (by omega)) ?_
          refine wl_pure (wantsY 2 84 false rfl (by kernel_rfl) rfl (by kernel_rfl)) (d := 89) (v := (strV x110)) rfl (e_load1 rfl (by kernel_rfl) (rows_cell (H114.at 3 rfl) e109 encS_len h111 0 rfl (show 0 + ((j : Int)).toNat * 1 = j * 1 + 0 by omega) (by kernel_rfl))) ?_
          refine wl_pure (wantsY 2 84 false rfl (by kernel_rfl) rfl (by kernel_rfl)) (d := 90) (v := (.int .i64 ((lookM L x110).getD 0))) rfl (by kernel_rfl) ?_
          refine wl_pure (wantsY 2 84 false rfl (by kernel_rfl) rfl (by kernel_rfl)) (d := 91) (v := (.int .i64 (((lookM L x110).getD 0) + 1))) rfl (e_int (z := ((lookM L x110).getD 0) + 1) (by kernel_rfl) (IntWalk.i64_in _ (by omega))) ?_
          refine wl_do (wantsY 2 84 false rfl (by kernel_rfl) rfl (by kernel_rfl)) (fun K116 hK116 => ?_)
          refine d_call (d := 92) rfl (by kernel_rfl) (release_any w113 r2 b3 L (H114.fin [1, 2] (by decide) rfl) hS x110 (hxl _ _ h111) (((lookM L x110).getD 0) + 1)) ?_
          rintro _ w117 ⟨e119, T118⟩
          rw [show relE L x110 (((lookM L x110).getD 0) + 1) = relE L x110 (((lookM L x110).getD 0) + 1) from rfl] at e119
          rw [rel_otherN hv] at T118
          subst e119
          have H120 : Sat w [restC w (fun _ => False), cellC r2 52 ([(.map (some b3))] : List Value), mapC b3 strV (Value.int .i64) L, rowC 9 1 (.slice a65 ((sortK (L : RegL)).length) c66) ((sortK (L : RegL)).length) ((sortK (L : RegL)).flatMap encS)] w117 := (Sat.turnL (L' := [cellC r2 52 ([(.map (some b3))] : List Value), mapC b3 strV (Value.int .i64) L]) (R := [restC w (fun _ => False), rowC 9 1 (.slice a65 ((sortK (L : RegL)).length) c66) ((sortK (L : RegL)).length) ((sortK (L : RegL)).flatMap encS)]) H114 [1, 2] [0, 3] (by decide) (by kernel_rfl) rfl T118).pick [2, 0, 1, 3] (by decide)
          refine ⟨_, rfl, ?_⟩
          refine hK116 _ _ ?_
          clear hK116 K116
          refine wl_pure (wantsY 2 84 false rfl (by kernel_rfl) rfl (by kernel_rfl)) (d := 93) (v := (.bool (decide ((relE L x110 (((lookM L x110).getD 0) + 1)) = 0)))) rfl (by kernel_rfl) ?_
          refine wl_pure (wants0 rfl) (d := 94) (v := (.bool (decide ((relE L x110 (((lookM L x110).getD 0) + 1)) = 0)))) rfl (by kernel_rfl) ?_
          refine w_nil ?_
          refine then_normal ?_
          have b121 : (decide ((relE L x110 (((lookM L x110).getD 0) + 1)) = 0)) = false := by exact decide_eq_false (rel_other hv)
          refine wp_know 94 (.bool false) (congrArg Value.bool b121) ?_
          have g122 := of_decide_eq_false b121
          refine wp_iff rfl ?_
          refine w_skip ?_
          refine blk_normal ?_
          refine then_normal ?_
          refine w_lit ?_
          refine wl_pure (wants0 rfl) (d := 95) (v := (.int .i64 ((j : Int) + 1))) rfl (e_int (z := (j : Int) + 1) (by kernel_rfl) (IntWalk.i64_in _ (by omega))) ?_
          refine wl_pure (wants0 rfl) (d := 70) (v := (.int .i64 ((j : Int) + 1))) rfl (by kernel_rfl) ?_
          refine w_nil ?_
          refine round_back ?_ _ ⟨(j + 1), (show ((.int .i64 ((j : Int) + 1)) : Value) = _ by first | rfl | go_num), by omega, H120, rfl⟩ (by omega)
          exact (same_upd rfl (same_upd rfl (same_upd rfl (same_upd rfl (same_upd rfl (same_upd rfl (same_upd rfl (same_upd rfl (same_upd rfl (same_upd rfl (same_upd rfl (same_upd rfl (same_upd rfl (same_upd rfl (same_upd rfl (same_upd rfl (same_upd rfl (same_upd rfl (same_upd rfl (same_upd rfl (same_upd rfl (same_upd rfl (same_upd rfl (same_upd rfl (same_upd rfl (same_upd rfl (same_upd rfl (same_upd rfl (same_upd rfl (same_upd rfl (same_upd rfl (same_upd rfl (same_upd rfl (same_ovr))))))))))))))))))))))))))))))))))
        · have g123 := of_decide_eq_false b104
          refine wp_know 71 (.bool false) (congrArg Value.bool b104) ?_
          have g124 := of_decide_eq_false b104
          refine wp_iff rfl ?_
          refine w_exit ?_
          refine then_exit ?_
          refine back_exit ?_
          refine blk_hit ?_
          refine then_normal ?_
          refine w_seq ?_
          refine w_lit ?_
          refine wl_pure (wants0 rfl) (d := 96) (v := (.pointer (some ⟨r2, 0, none⟩))) rfl (by kernel_rfl) ?_
          refine wl_pure (wants0 rfl) (d := 97) (v := (.int .i64 (C))) rfl (by kernel_rfl) ?_
          refine wl_do (wants0 rfl) (fun K125 hK125 => ?_)
          refine d_call (d := 98) rfl (by kernel_rfl) (count_any w100 r2 b3 L (H101.fin [1, 2] (by decide) rfl) hS C) ?_
          rintro _ w126 ⟨rfl, u128⟩
          have H127 := H101.keepU u128
          refine ⟨_, rfl, ?_⟩
          refine hK125 _ _ ?_
          clear hK125 K125
          refine wl_pure (wants0 rfl) (d := 99) (v := (.int .i64 (cntL L C))) rfl (by kernel_rfl) ?_
          refine wl_pure (wants0 rfl) (d := 100) (v := (.bool (decide ((cntL L C) = (cntL L C))))) rfl (by kernel_rfl) ?_
          refine wl_pure (wants0 rfl) (d := 101) (v := (.bool (decide ((cntL L C) = (cntL L C))))) rfl (by kernel_rfl) ?_
          have b129 : (decide ((cntL L C) = (cntL L C))) = true := by exact decide_eq_true rfl
          refine wl_know 101 (.bool true) (congrArg Value.bool b129) ?_
          have g130 := of_decide_eq_true b129
          refine wl_pure (wantsY 5 101 true rfl (by kernel_rfl) rfl (by kernel_rfl)) (d := 102) (v := (.pointer (some ⟨r2, 0, none⟩))) rfl (by kernel_rfl) ?_
          refine wl_do (wantsY 5 101 true rfl (by kernel_rfl) rfl (by kernel_rfl)) (fun K131 hK131 => ?_)
          refine d_call (d := 103) rfl (by kernel_rfl) (items_any w126 r2 b3 L (H127.fin [1, 2] (by decide) rfl) hS) ?_
          rintro _ w132 ⟨u133, rfl, k134, p135, q136⟩
          have H137 : Sat w [restC w (fun _ => False), cellC r2 52 ([(.map (some b3))] : List Value), mapC b3 strV (Value.int .i64) L, rowC 9 1 (.slice a65 ((sortK (L : RegL)).length) c66) ((sortK (L : RegL)).length) ((sortK (L : RegL)).flatMap encS), rowC 9 1 u133 ((sortK (L : RegL)).length) ((sortK (L : RegL)).flatMap encS)] w132 := H127.addU p135 k134 q136
          obtain ⟨a138, c139, rfl⟩ := ownsRow_shape (H137.at 4 rfl)
          refine ⟨_, rfl, ?_⟩
          refine hK131 _ _ ?_
          clear hK131 K131
          refine wl_pure (wantsY 5 101 true rfl (by kernel_rfl) rfl (by kernel_rfl)) (d := 104) (v := (.slice a65 ((sortK (L : RegL)).length) c66)) rfl (by kernel_rfl) ?_
          refine wl_do (wantsY 5 101 true rfl (by kernel_rfl) rfl (by kernel_rfl)) (fun K140 hK140 => ?_)
          refine d_call (d := 105) rfl (by kernel_rfl) (sameS_any w132 (.slice a138 ((sortK (L : RegL)).length) c139) (.slice a65 ((sortK (L : RegL)).length) c66) (sortK (L : RegL)) (sortK (L : RegL)) (ListAt.row (enc := encS) (sz := 1) encS_len (by decide) (H137.at 4 rfl)) (ListAt.row (enc := encS) (sz := 1) encS_len (by decide) (H137.at 3 rfl)) (by omega)) ?_
          rintro _ w141 ⟨rfl, u143⟩
          have H142 := H137.keepU u143
          refine ⟨_, rfl, ?_⟩
          refine hK140 _ _ ?_
          clear hK140 K140
          refine wl_pure (wants0 rfl) (d := 106) (v := (.bool (decide ((sortK (L : RegL)) = (sortK (L : RegL)))))) rfl (by kernel_rfl) ?_
          refine wl_pure (wants0 rfl) (d := 107) (v := (.bool (decide ((sortK (L : RegL)) = (sortK (L : RegL)))))) rfl (by kernel_rfl) ?_
          have b144 : (decide ((sortK (L : RegL)) = (sortK (L : RegL)))) = true := by exact decide_eq_true rfl
          refine wl_know 107 (.bool true) (congrArg Value.bool b144) ?_
          refine wl_do (wantsY 11 107 true rfl (by kernel_rfl) rfl (by kernel_rfl)) (fun K145 hK145 => ?_)
          refine d_call (d := 108) rfl (by kernel_rfl) (wakes_any w141) ?_
          rintro _ w146 ⟨rfl, u148⟩
          have H147 := H142.keepU u148
          refine ⟨_, rfl, ?_⟩
          refine hK145 _ _ ?_
          clear hK145 K145
          refine wl_pure (wants0 rfl) (d := 109) (v := (.bool true)) rfl (by kernel_rfl) ?_
          refine wl_pure (wants0 rfl) (d := 4) (v := (.bool true)) rfl (by kernel_rfl) ?_
          refine w_nil ?_
          refine then_normal ?_
          refine w_ret ?_
          refine end1 rfl (res_tmp (v := (.bool true)) rfl) ?_
          exact ⟨rfl, H147.upd 0 rfl [] (fun _ h => h.elim)⟩
      · have g149 := of_decide_eq_false b75
        have hq := of_decide_eq_false b75
        refine w_lit ?_
        refine wl_pure (wants0 rfl) (d := 45) (v := (.pointer (some ⟨r2, 0, none⟩))) rfl (by kernel_rfl) ?_
        refine wl_pure (wants0 rfl) (d := 46) (v := (.int .i64 (C))) rfl (by kernel_rfl) ?_
        refine wl_do (wants0 rfl) (fun K150 hK150 => ?_)
        refine d_call (d := 47) rfl (by kernel_rfl) (reserve_any w72 r2 b3 L (H73.fin [1, 2] (by decide) rfl) hS ([113, 113, 113, 113, 113, 113, 113, 113, 113, 113, 113, 113, 113, 113, 113, 113]) (by decide) C) ?_
        rintro _ w151 ⟨e153, T152⟩
        rw [show resE L [113, 113, 113, 113, 113, 113, 113, 113, 113, 113, 113, 113, 113, 113, 113, 113] C = resE L Q16 C from rfl] at e153
        rw [show resL L [113, 113, 113, 113, 113, 113, 113, 113, 113, 113, 113, 113, 113, 113, 113, 113] C = _ from back_not hq] at T152
        subst e153
        have H154 : Sat w [restC w (fun _ => False), cellC r2 52 ([(.map (some b3))] : List Value), mapC b3 strV (Value.int .i64) L, rowC 9 1 (.slice a65 ((sortK (L : RegL)).length) c66) ((sortK (L : RegL)).length) ((sortK (L : RegL)).flatMap encS)] w151 := (Sat.turnL (L' := [cellC r2 52 ([(.map (some b3))] : List Value), mapC b3 strV (Value.int .i64) L]) (R := [restC w (fun _ => False), rowC 9 1 (.slice a65 ((sortK (L : RegL)).length) c66) ((sortK (L : RegL)).length) ((sortK (L : RegL)).flatMap encS)]) H73 [1, 2] [0, 3] (by decide) (by kernel_rfl) rfl T152).pick [2, 0, 1, 3] (by decide)
        refine ⟨_, rfl, ?_⟩
        refine hK150 _ _ ?_
        clear hK150 K150
        refine wl_pure (wants0 rfl) (d := 48) (v := (.bool (decide ((resE L Q16 C) = 0)))) rfl (by kernel_rfl) ?_
        refine w_nil ?_
        refine then_normal ?_
        have b155 : (decide ((resE L Q16 C) = 0)) = false := by exact decide_eq_false hq
        refine wp_know 48 (.bool false) (congrArg Value.bool b155) ?_
        have g156 := of_decide_eq_false b155
        refine wp_iff rfl ?_
        refine w_skip ?_
        refine then_normal ?_
        refine w_seq ?_
        refine w_seq ?_
        refine w_lit ?_
        refine wl_pure (wants0 rfl) (d := 68) (v := (.slice a65 ((sortK (L : RegL)).length) c66)) rfl (by kernel_rfl) ?_
        refine wl_pure (wants0 rfl) (d := 69) (v := (.int .i64 (((sortK (L : RegL)).length : Int)))) rfl (by kernel_rfl) ?_
        refine wl_pure (wants0 rfl) (d := 70) (v := (.int .i64 (0))) rfl (by kernel_rfl) ?_
        refine w_nil ?_
        refine then_normal ?_
        refine w_block ?_
        refine wp_round [4, 9, 10, 11, 70, 71, 72, 73, 74, 75, 76, 77, 78, 79, 80, 81, 82, 83, 84, 85, 86, 87, 88, 89, 90, 91, 92, 93, 94, 95] (fun F_ W_ m_ => ∃ (j : Nat), F_ 70 = (.int .i64 ((j : Int))) ∧ (j ≤ (sortK (L : RegL)).length) ∧ Sat w [restC w (fun _ => False), cellC r2 52 ([(.map (some b3))] : List Value), mapC b3 strV (Value.int .i64) L, rowC 9 1 (.slice a65 ((sortK (L : RegL)).length) c66) ((sortK (L : RegL)).length) ((sortK (L : RegL)).flatMap encS)] W_ ∧ m_ = (sortK (L : RegL)).length + 1 - j) _ ⟨0, (show ((.int .i64 (0)) : Value) = _ by first | rfl | go_num), by omega, H154, rfl⟩ ?_
        rintro g157 w158 _ ⟨j, v160, hj, H159, rfl⟩
        refine wp_know 70 _ v160 ?_
        refine w_seq ?_
        refine w_lit ?_
        refine wl_pure (wants0 rfl) (d := 71) (v := (.bool (decide ((j : Int) < ((sortK (L : RegL)).length : Int))))) rfl (by kernel_rfl) ?_
        refine w_nil ?_
        refine then_normal ?_
        refine w_seq ?_
        refine (bsplit (decide ((j : Int) < ((sortK (L : RegL)).length : Int)))).elim (fun b162 => ?_) (fun b162 => ?_)
        · have g163 := of_decide_eq_true b162
          refine wp_know 71 (.bool true) (congrArg Value.bool b162) ?_
          have g164 := of_decide_eq_true b162
          refine wp_ift rfl ?_
          refine w_skip ?_
          refine then_normal ?_
          refine w_seq ?_
          refine w_block ?_
          refine w_seq ?_
          refine w_lit ?_
          refine wl_pure (wants0 rfl) (d := 72) (v := (.int .i64 ((j : Int)))) rfl (by kernel_rfl) ?_
          refine wl_pure (wants0 rfl) (d := 9) (v := (.int .i64 ((j : Int)))) rfl (by kernel_rfl) ?_
          refine w_nil ?_
          refine then_normal ?_
          refine w_seq ?_
          refine w_lit ?_
          refine wl_pure (wants0 rfl) (d := 74) (v := (.pointer (some ⟨r2, 0, none⟩))) rfl (by kernel_rfl) ?_
          refine wl_pure (wants0 rfl) (d := 75) (v := (.slice a65 ((sortK (L : RegL)).length) c66)) rfl (by kernel_rfl) ?_
          refine wl_pure (wants0 rfl) (d := 76) (v := (.int .i64 ((j : Int)))) rfl (by kernel_rfl) ?_
          obtain ⟨g165, c166, e167⟩ := row_shape (H159.at 3 rfl) (by omega)
          obtain ⟨x168, h169⟩ := get_at (show j < (sortK (L : RegL)).length by omega)
          refine wl_pure (wants0 rfl) (d := 77) (v := (.pointer (some ⟨g165, 0 + ((j : Int)).toNat * 1, none⟩))) rfl (e_indexAddrV (E := 9) (by kernel_rfl) (by kernel_rfl) (Nat.le_of_ble_eq_true rfl) rfl e167 rfl (by omega) (by omega)) ?_
          refine wl_pure (wants0 rfl) (d := 78) (v := (strV x168)) rfl (e_load1 rfl (by kernel_rfl) (rows_cell (H159.at 3 rfl) e167 encS_len h169 0 rfl (show 0 + ((j : Int)).toNat * 1 = j * 1 + 0 by omega) (by kernel_rfl))) ?_
          refine wl_do (wants0 rfl) (fun K170 hK170 => ?_)
          refine d_call (d := 79) rfl (by kernel_rfl) (owner_any w158 r2 b3 L (H159.fin [1, 2] (by decide) rfl) x168) ?_
          rintro _ w171 ⟨rfl, u173⟩
          have H172 := H159.keepU u173
          refine ⟨_, rfl, ?_⟩
          refine hK170 _ _ ?_
          clear hK170 K170
          refine wl_pure (wants0 rfl) (d := 73) (v := (.tuple #[(.int .i64 ((lookM L x168).getD 0)), (.bool ((lookM L x168).isSome))])) rfl (by kernel_rfl) ?_
          refine wl_pure (wants0 rfl) (d := 80) (v := (.int .i64 ((lookM L x168).getD 0))) rfl (by kernel_rfl) ?_
          refine wl_pure (wants0 rfl) (d := 81) (v := (.bool ((lookM L x168).isSome))) rfl (by kernel_rfl) ?_
          refine wl_pure (wants0 rfl) (d := 10) (v := (.int .i64 ((lookM L x168).getD 0))) rfl (by kernel_rfl) ?_
          refine wl_pure (wants0 rfl) (d := 11) (v := (.bool ((lookM L x168).isSome))) rfl (by kernel_rfl) ?_
          refine w_nil ?_
          refine then_normal ?_
          refine w_seq ?_
          obtain ⟨v, hv, hm⟩ := sortK_look h169
          have hvb := hF _ hm
          simp only at hvb
          have hgd : (lookM L x168).getD 0 = v := by rw [hv]; rfl
          refine wp_know 11 (.bool true) (show ((.bool ((lookM L x168).isSome)) : Value) = _ by rw [hv]; rfl) ?_
          refine w_lit ?_
          refine wl_pure (wants0 rfl) (d := 82) (v := (.bool true)) rfl (by kernel_rfl) ?_
          refine wl_pure (wants0 rfl) (d := 83) (v := (.bool false)) rfl (by kernel_rfl) ?_
          refine wl_pure (wants0 rfl) (d := 84) (v := (.bool false)) rfl (by kernel_rfl) ?_
          refine wl_pure (wantsY 2 84 false rfl (by kernel_rfl) rfl (by kernel_rfl)) (d := 85) (v := (.pointer (some ⟨r2, 0, none⟩))) rfl (by kernel_rfl) ?_
          refine wl_pure (wantsY 2 84 false rfl (by kernel_rfl) rfl (by kernel_rfl)) (d := 86) (v := (.slice a65 ((sortK (L : RegL)).length) c66)) rfl (by kernel_rfl) ?_
          refine wl_pure (wantsY 2 84 false rfl (by kernel_rfl) rfl (by kernel_rfl)) (d := 87) (v := (.int .i64 ((j : Int)))) rfl (by kernel_rfl) ?_
          refine wl_pure (wantsY 2 84 false rfl (by kernel_rfl) rfl (by kernel_rfl)) (d := 88) (v := (.pointer (some ⟨g165, 0 + ((j : Int)).toNat * 1, none⟩))) rfl (e_indexAddrV (E := 9) (by kernel_rfl) (by kernel_rfl) (Nat.le_of_ble_eq_true rfl) rfl e167 rfl (by omega) (by omega)) ?_
          refine wl_pure (wantsY 2 84 false rfl (by kernel_rfl) rfl (by kernel_rfl)) (d := 89) (v := (strV x168)) rfl (e_load1 rfl (by kernel_rfl) (rows_cell (H172.at 3 rfl) e167 encS_len h169 0 rfl (show 0 + ((j : Int)).toNat * 1 = j * 1 + 0 by omega) (by kernel_rfl))) ?_
          refine wl_pure (wantsY 2 84 false rfl (by kernel_rfl) rfl (by kernel_rfl)) (d := 90) (v := (.int .i64 ((lookM L x168).getD 0))) rfl (by kernel_rfl) ?_
          refine wl_pure (wantsY 2 84 false rfl (by kernel_rfl) rfl (by kernel_rfl)) (d := 91) (v := (.int .i64 (((lookM L x168).getD 0) + 1))) rfl (e_int (z := ((lookM L x168).getD 0) + 1) (by kernel_rfl) (IntWalk.i64_in _ (by omega))) ?_
          refine wl_do (wantsY 2 84 false rfl (by kernel_rfl) rfl (by kernel_rfl)) (fun K174 hK174 => ?_)
          refine d_call (d := 92) rfl (by kernel_rfl) (release_any w171 r2 b3 L (H172.fin [1, 2] (by decide) rfl) hS x168 (hxl _ _ h169) (((lookM L x168).getD 0) + 1)) ?_
          rintro _ w175 ⟨e177, T176⟩
          rw [show relE L x168 (((lookM L x168).getD 0) + 1) = relE L x168 (((lookM L x168).getD 0) + 1) from rfl] at e177
          rw [rel_otherN hv] at T176
          subst e177
          have H178 : Sat w [restC w (fun _ => False), cellC r2 52 ([(.map (some b3))] : List Value), mapC b3 strV (Value.int .i64) L, rowC 9 1 (.slice a65 ((sortK (L : RegL)).length) c66) ((sortK (L : RegL)).length) ((sortK (L : RegL)).flatMap encS)] w175 := (Sat.turnL (L' := [cellC r2 52 ([(.map (some b3))] : List Value), mapC b3 strV (Value.int .i64) L]) (R := [restC w (fun _ => False), rowC 9 1 (.slice a65 ((sortK (L : RegL)).length) c66) ((sortK (L : RegL)).length) ((sortK (L : RegL)).flatMap encS)]) H172 [1, 2] [0, 3] (by decide) (by kernel_rfl) rfl T176).pick [2, 0, 1, 3] (by decide)
          refine ⟨_, rfl, ?_⟩
          refine hK174 _ _ ?_
          clear hK174 K174
          refine wl_pure (wantsY 2 84 false rfl (by kernel_rfl) rfl (by kernel_rfl)) (d := 93) (v := (.bool (decide ((relE L x168 (((lookM L x168).getD 0) + 1)) = 0)))) rfl (by kernel_rfl) ?_
          refine wl_pure (wants0 rfl) (d := 94) (v := (.bool (decide ((relE L x168 (((lookM L x168).getD 0) + 1)) = 0)))) rfl (by kernel_rfl) ?_
          refine w_nil ?_
          refine then_normal ?_
          have b179 : (decide ((relE L x168 (((lookM L x168).getD 0) + 1)) = 0)) = false := by exact decide_eq_false (rel_other hv)
          refine wp_know 94 (.bool false) (congrArg Value.bool b179) ?_
          have g180 := of_decide_eq_false b179
          refine wp_iff rfl ?_
          refine w_skip ?_
          refine blk_normal ?_
          refine then_normal ?_
          refine w_lit ?_
          refine wl_pure (wants0 rfl) (d := 95) (v := (.int .i64 ((j : Int) + 1))) rfl (e_int (z := (j : Int) + 1) (by kernel_rfl) (IntWalk.i64_in _ (by omega))) ?_
          refine wl_pure (wants0 rfl) (d := 70) (v := (.int .i64 ((j : Int) + 1))) rfl (by kernel_rfl) ?_
          refine w_nil ?_
          refine round_back ?_ _ ⟨(j + 1), (show ((.int .i64 ((j : Int) + 1)) : Value) = _ by first | rfl | go_num), by omega, H178, rfl⟩ (by omega)
          exact (same_upd rfl (same_upd rfl (same_upd rfl (same_upd rfl (same_upd rfl (same_upd rfl (same_upd rfl (same_upd rfl (same_upd rfl (same_upd rfl (same_upd rfl (same_upd rfl (same_upd rfl (same_upd rfl (same_upd rfl (same_upd rfl (same_upd rfl (same_upd rfl (same_upd rfl (same_upd rfl (same_upd rfl (same_upd rfl (same_upd rfl (same_upd rfl (same_upd rfl (same_upd rfl (same_upd rfl (same_upd rfl (same_upd rfl (same_upd rfl (same_upd rfl (same_upd rfl (same_upd rfl (same_ovr))))))))))))))))))))))))))))))))))
        · have g181 := of_decide_eq_false b162
          refine wp_know 71 (.bool false) (congrArg Value.bool b162) ?_
          have g182 := of_decide_eq_false b162
          refine wp_iff rfl ?_
          refine w_exit ?_
          refine then_exit ?_
          refine back_exit ?_
          refine blk_hit ?_
          refine then_normal ?_
          refine w_seq ?_
          refine w_lit ?_
          refine wl_pure (wants0 rfl) (d := 96) (v := (.pointer (some ⟨r2, 0, none⟩))) rfl (by kernel_rfl) ?_
          refine wl_pure (wants0 rfl) (d := 97) (v := (.int .i64 (C))) rfl (by kernel_rfl) ?_
          refine wl_do (wants0 rfl) (fun K183 hK183 => ?_)
          refine d_call (d := 98) rfl (by kernel_rfl) (count_any w158 r2 b3 L (H159.fin [1, 2] (by decide) rfl) hS C) ?_
          rintro _ w184 ⟨rfl, u186⟩
          have H185 := H159.keepU u186
          refine ⟨_, rfl, ?_⟩
          refine hK183 _ _ ?_
          clear hK183 K183
          refine wl_pure (wants0 rfl) (d := 99) (v := (.int .i64 (cntL L C))) rfl (by kernel_rfl) ?_
          refine wl_pure (wants0 rfl) (d := 100) (v := (.bool (decide ((cntL L C) = (cntL L C))))) rfl (by kernel_rfl) ?_
          refine wl_pure (wants0 rfl) (d := 101) (v := (.bool (decide ((cntL L C) = (cntL L C))))) rfl (by kernel_rfl) ?_
          have b187 : (decide ((cntL L C) = (cntL L C))) = true := by exact decide_eq_true rfl
          refine wl_know 101 (.bool true) (congrArg Value.bool b187) ?_
          have g188 := of_decide_eq_true b187
          refine wl_pure (wantsY 5 101 true rfl (by kernel_rfl) rfl (by kernel_rfl)) (d := 102) (v := (.pointer (some ⟨r2, 0, none⟩))) rfl (by kernel_rfl) ?_
          refine wl_do (wantsY 5 101 true rfl (by kernel_rfl) rfl (by kernel_rfl)) (fun K189 hK189 => ?_)
          refine d_call (d := 103) rfl (by kernel_rfl) (items_any w184 r2 b3 L (H185.fin [1, 2] (by decide) rfl) hS) ?_
          rintro _ w190 ⟨u191, rfl, k192, p193, q194⟩
          have H195 : Sat w [restC w (fun _ => False), cellC r2 52 ([(.map (some b3))] : List Value), mapC b3 strV (Value.int .i64) L, rowC 9 1 (.slice a65 ((sortK (L : RegL)).length) c66) ((sortK (L : RegL)).length) ((sortK (L : RegL)).flatMap encS), rowC 9 1 u191 ((sortK (L : RegL)).length) ((sortK (L : RegL)).flatMap encS)] w190 := H185.addU p193 k192 q194
          obtain ⟨a196, c197, rfl⟩ := ownsRow_shape (H195.at 4 rfl)
          refine ⟨_, rfl, ?_⟩
          refine hK189 _ _ ?_
          clear hK189 K189
          refine wl_pure (wantsY 5 101 true rfl (by kernel_rfl) rfl (by kernel_rfl)) (d := 104) (v := (.slice a65 ((sortK (L : RegL)).length) c66)) rfl (by kernel_rfl) ?_
          refine wl_do (wantsY 5 101 true rfl (by kernel_rfl) rfl (by kernel_rfl)) (fun K198 hK198 => ?_)
          refine d_call (d := 105) rfl (by kernel_rfl) (sameS_any w190 (.slice a196 ((sortK (L : RegL)).length) c197) (.slice a65 ((sortK (L : RegL)).length) c66) (sortK (L : RegL)) (sortK (L : RegL)) (ListAt.row (enc := encS) (sz := 1) encS_len (by decide) (H195.at 4 rfl)) (ListAt.row (enc := encS) (sz := 1) encS_len (by decide) (H195.at 3 rfl)) (by omega)) ?_
          rintro _ w199 ⟨rfl, u201⟩
          have H200 := H195.keepU u201
          refine ⟨_, rfl, ?_⟩
          refine hK198 _ _ ?_
          clear hK198 K198
          refine wl_pure (wants0 rfl) (d := 106) (v := (.bool (decide ((sortK (L : RegL)) = (sortK (L : RegL)))))) rfl (by kernel_rfl) ?_
          refine wl_pure (wants0 rfl) (d := 107) (v := (.bool (decide ((sortK (L : RegL)) = (sortK (L : RegL)))))) rfl (by kernel_rfl) ?_
          have b202 : (decide ((sortK (L : RegL)) = (sortK (L : RegL)))) = true := by exact decide_eq_true rfl
          refine wl_know 107 (.bool true) (congrArg Value.bool b202) ?_
          refine wl_do (wantsY 11 107 true rfl (by kernel_rfl) rfl (by kernel_rfl)) (fun K203 hK203 => ?_)
          refine d_call (d := 108) rfl (by kernel_rfl) (wakes_any w199) ?_
          rintro _ w204 ⟨rfl, u206⟩
          have H205 := H200.keepU u206
          refine ⟨_, rfl, ?_⟩
          refine hK203 _ _ ?_
          clear hK203 K203
          refine wl_pure (wants0 rfl) (d := 109) (v := (.bool true)) rfl (by kernel_rfl) ?_
          refine wl_pure (wants0 rfl) (d := 4) (v := (.bool true)) rfl (by kernel_rfl) ?_
          refine w_nil ?_
          refine then_normal ?_
          refine w_ret ?_
          refine end1 rfl (res_tmp (v := (.bool true)) rfl) ?_
          exact ⟨rfl, H205.upd 0 rfl [] (fun _ h => h.elim)⟩
  · have g207 := of_decide_eq_false b16
    refine wl_know 19 (.bool false) (congrArg Value.bool b16) ?_
    have g208 := of_decide_eq_false b16
    refine wl_pass (wantsN 4 19 true rfl (by kernel_rfl) rfl (by kernel_rfl)) rfl ?_
    refine wl_pass (wantsN 4 19 true rfl (by kernel_rfl) rfl (by kernel_rfl)) rfl ?_
    refine wl_pure (wants0 rfl) (d := 22) (v := (.bool false)) rfl (by kernel_rfl) ?_
    refine w_nil ?_
    refine then_normal ?_
    refine wp_iff rfl ?_
    refine w_exit ?_
    refine then_exit ?_
    refine back_exit ?_
    refine blk_hit ?_
    refine then_normal ?_
    refine w_seq ?_
    refine w_lit ?_
    refine wl_pure (wants0 rfl) (d := 38) (v := (.pointer (some ⟨r2, 0, none⟩))) rfl (by kernel_rfl) ?_
    refine wl_do (wants0 rfl) (fun K209 hK209 => ?_)
    refine d_call (d := 39) rfl (by kernel_rfl) (items_any w12 r2 b3 L (H13.fin [1, 2] (by decide) rfl) hS) ?_
    rintro _ w210 ⟨u211, rfl, k212, p213, q214⟩
    have H215 : Sat w [restC w (fun _ => False), cellC r2 52 ([(.map (some b3))] : List Value), mapC b3 strV (Value.int .i64) L, rowC 9 1 u211 ((sortK (L : RegL)).length) ((sortK (L : RegL)).flatMap encS)] w210 := H13.addU p213 k212 q214
    obtain ⟨a216, c217, rfl⟩ := ownsRow_shape (H215.at 3 rfl)
    refine ⟨_, rfl, ?_⟩
    refine hK209 _ _ ?_
    clear hK209 K209
    refine wl_pure (wants0 rfl) (d := 7) (v := (.slice a216 ((sortK (L : RegL)).length) c217)) rfl (by kernel_rfl) ?_
    refine w_nil ?_
    refine then_normal ?_
    refine w_seq ?_
    refine w_lit ?_
    refine wl_pure (wants0 rfl) (d := 40) (v := (.int .i64 (c))) rfl (by kernel_rfl) ?_
    refine wl_do (wants0 rfl) (fun K218 hK218 => ?_)
    refine d_call (d := 41) rfl (by kernel_rfl) (within_any w210 c 5 (by omega)) ?_
    rintro _ w219 ⟨rfl, u221⟩
    have H220 := H215.keepU u221
    refine ⟨_, rfl, ?_⟩
    refine hK218 _ _ ?_
    clear hK218 K218
    refine wl_pure (wants0 rfl) (d := 1) (v := (.int .i64 (withinV c 5))) rfl (by kernel_rfl) ?_
    refine w_nil ?_
    refine then_normal ?_
    refine w_seq ?_
    refine wp_know 1 (.int .i64 (C)) (show ((.int .i64 (withinV c 5)) : Value) = _ by rw [hC]) ?_
    have hsl := sortK_len (L : RegL)
    have hS1 := hS.1
    have hcn : 0 ≤ cntL L C ∧ cntL L C ≤ 64 := by
      have q2 := List.countP_le_length (l := L) (p := fun x => decide (x.2 = C))
      unfold cntL
      omega
    have hxl : ∀ (x : List UInt8) (j : Nat), (sortK L)[j]? = some x → x.length ≤ 9223372036854775807 := fun x j hx => by
      obtain ⟨v, _, hm⟩ := sortK_look hx
      have : x.length ≤ 16 := hS.2 _ hm
      omega
    refine w_lit ?_
    refine wl_pure (wants0 rfl) (d := 42) (v := (.pointer (some ⟨r2, 0, none⟩))) rfl (by kernel_rfl) ?_
    refine wl_pure (wants0 rfl) (d := 43) (v := (.int .i64 (C))) rfl (by kernel_rfl) ?_
    refine wl_do (wants0 rfl) (fun K222 hK222 => ?_)
    refine d_call (d := 44) rfl (by kernel_rfl) (count_any w219 r2 b3 L (H220.fin [1, 2] (by decide) rfl) hS C) ?_
    rintro _ w223 ⟨rfl, u225⟩
    have H224 := H220.keepU u225
    refine ⟨_, rfl, ?_⟩
    refine hK222 _ _ ?_
    clear hK222 K222
    refine wl_pure (wants0 rfl) (d := 8) (v := (.int .i64 (cntL L C))) rfl (by kernel_rfl) ?_
    refine w_nil ?_
    refine then_normal ?_
    refine w_seq ?_
    refine w_seq ?_
    refine (bsplit (decide (resE L Q16 C = 0))).elim (fun b226 => ?_) (fun b226 => ?_)
    · have g227 := of_decide_eq_true b226
      have hq := of_decide_eq_true b226
      refine w_lit ?_
      refine wl_pure (wants0 rfl) (d := 45) (v := (.pointer (some ⟨r2, 0, none⟩))) rfl (by kernel_rfl) ?_
      refine wl_pure (wants0 rfl) (d := 46) (v := (.int .i64 (C))) rfl (by kernel_rfl) ?_
      refine wl_do (wants0 rfl) (fun K228 hK228 => ?_)
      refine d_call (d := 47) rfl (by kernel_rfl) (reserve_any w223 r2 b3 L (H224.fin [1, 2] (by decide) rfl) hS ([113, 113, 113, 113, 113, 113, 113, 113, 113, 113, 113, 113, 113, 113, 113, 113]) (by decide) C) ?_
      rintro _ w229 ⟨e231, T230⟩
      rw [show resE L [113, 113, 113, 113, 113, 113, 113, 113, 113, 113, 113, 113, 113, 113, 113, 113] C = 0 from hq] at e231
      rw [show resL L [113, 113, 113, 113, 113, 113, 113, 113, 113, 113, 113, 113, 113, 113, 113, 113] C = _ from back_put hq] at T230
      subst e231
      have H232 : Sat w [restC w (fun _ => False), cellC r2 52 ([(.map (some b3))] : List Value), mapC b3 strV (Value.int .i64) (L ++ [(Q16, C)]), rowC 9 1 (.slice a216 ((sortK (L : RegL)).length) c217) ((sortK (L : RegL)).length) ((sortK (L : RegL)).flatMap encS)] w229 := (Sat.turnL (L' := [cellC r2 52 ([(.map (some b3))] : List Value), mapC b3 strV (Value.int .i64) (L ++ [(Q16, C)])]) (R := [restC w (fun _ => False), rowC 9 1 (.slice a216 ((sortK (L : RegL)).length) c217) ((sortK (L : RegL)).length) ((sortK (L : RegL)).flatMap encS)]) H224 [1, 2] [0, 3] (by decide) (by kernel_rfl) rfl T230).pick [2, 0, 1, 3] (by decide)
      refine ⟨_, rfl, ?_⟩
      refine hK228 _ _ ?_
      clear hK228 K228
      refine wl_pure (wants0 rfl) (d := 48) (v := (.bool true)) rfl (by kernel_rfl) ?_
      refine w_nil ?_
      refine then_normal ?_
      refine wp_ift rfl ?_
      refine w_seq ?_
      refine w_lit ?_
      refine wl_pure (wants0 rfl) (d := 49) (v := (.pointer (some ⟨r2, 0, none⟩))) rfl (by kernel_rfl) ?_
      refine wl_pure (wants0 rfl) (d := 50) (v := (.int .i64 (C))) rfl (by kernel_rfl) ?_
      refine wl_do (wants0 rfl) (fun K233 hK233 => ?_)
      refine d_call (d := 51) rfl (by kernel_rfl) (count_any w229 r2 b3 (L ++ [(Q16, C)]) (H232.fin [1, 2] (by decide) rfl) (back_short hS hq) C) ?_
      rintro _ w234 ⟨rfl, u236⟩
      have H235 := H232.keepU u236
      refine ⟨_, rfl, ?_⟩
      refine hK233 _ _ ?_
      clear hK233 K233
      refine wl_pure (wants0 rfl) (d := 52) (v := (.int .i64 (cntL L C))) rfl (by kernel_rfl) ?_
      refine wl_pure (wants0 rfl) (d := 53) (v := (.int .i64 ((cntL L C) + 1))) rfl (e_int (z := (cntL L C) + 1) (by kernel_rfl) (IntWalk.i64_in _ (by omega))) ?_
      refine wl_pure (wants0 rfl) (d := 54) (v := (.bool (!(decide ((cntL (L ++ [(Q16, C)]) C) = ((cntL L C) + 1)))))) rfl (by kernel_rfl) ?_
      refine wl_pure (wants0 rfl) (d := 55) (v := (.bool (!(decide ((cntL (L ++ [(Q16, C)]) C) = ((cntL L C) + 1)))))) rfl (by kernel_rfl) ?_
      have b237 : (!(decide ((cntL (L ++ [(Q16, C)]) C) = ((cntL L C) + 1)))) = false := by rw [decide_eq_true cnt_app]; rfl
      refine wl_know 55 (.bool false) (congrArg Value.bool b237) ?_
      have g238 := bnot_false b237
      have g239 := of_decide_eq_true g238
      refine wl_pure (wantsY 6 55 false rfl (by kernel_rfl) rfl (by kernel_rfl)) (d := 56) (v := (.pointer (some ⟨r2, 0, none⟩))) rfl (by kernel_rfl) ?_
      refine wl_pure (wantsY 6 55 false rfl (by kernel_rfl) rfl (by kernel_rfl)) (d := 57) (v := (.int .i64 (C))) rfl (by kernel_rfl) ?_
      refine wl_pure (wantsY 6 55 false rfl (by kernel_rfl) rfl (by kernel_rfl)) (d := 58) (v := (.int .i64 (C + 1))) rfl (e_int (z := C + 1) (by kernel_rfl) (IntWalk.i64_in _ (by omega))) ?_
      refine wl_do (wantsY 6 55 false rfl (by kernel_rfl) rfl (by kernel_rfl)) (fun K240 hK240 => ?_)
      refine d_call (d := 59) rfl (by kernel_rfl) (release_any w234 r2 b3 (L ++ [(Q16, C)]) (H235.fin [1, 2] (by decide) rfl) (back_short hS hq) ([113, 113, 113, 113, 113, 113, 113, 113, 113, 113, 113, 113, 113, 113, 113, 113]) (by decide) (C + 1)) ?_
      rintro _ w241 ⟨e243, T242⟩
      rw [show relE (L ++ [(Q16, C)]) [113, 113, 113, 113, 113, 113, 113, 113, 113, 113, 113, 113, 113, 113, 113, 113] (C + 1) = 12 from back_r1 hq (show 0 ≤ C ∧ C < 5 by omega)] at e243
      rw [show relL (L ++ [(Q16, C)]) [113, 113, 113, 113, 113, 113, 113, 113, 113, 113, 113, 113, 113, 113, 113, 113] (C + 1) = _ from back_r1n hq (show 0 ≤ C ∧ C < 5 by omega)] at T242
      subst e243
      have H244 : Sat w [restC w (fun _ => False), cellC r2 52 ([(.map (some b3))] : List Value), mapC b3 strV (Value.int .i64) (L ++ [(Q16, C)]), rowC 9 1 (.slice a216 ((sortK (L : RegL)).length) c217) ((sortK (L : RegL)).length) ((sortK (L : RegL)).flatMap encS)] w241 := (Sat.turnL (L' := [cellC r2 52 ([(.map (some b3))] : List Value), mapC b3 strV (Value.int .i64) (L ++ [(Q16, C)])]) (R := [restC w (fun _ => False), rowC 9 1 (.slice a216 ((sortK (L : RegL)).length) c217) ((sortK (L : RegL)).length) ((sortK (L : RegL)).flatMap encS)]) H235 [1, 2] [0, 3] (by decide) (by kernel_rfl) rfl T242).pick [2, 0, 1, 3] (by decide)
      refine ⟨_, rfl, ?_⟩
      refine hK240 _ _ ?_
      clear hK240 K240
      refine wl_pure (wantsY 6 55 false rfl (by kernel_rfl) rfl (by kernel_rfl)) (d := 60) (v := (.bool false)) rfl (by kernel_rfl) ?_
      refine wl_pure (wants0 rfl) (d := 61) (v := (.bool false)) rfl (by kernel_rfl) ?_
      refine wl_pure (wants0 rfl) (d := 62) (v := (.bool false)) rfl (by kernel_rfl) ?_
      refine wl_pure (wantsY 13 62 false rfl (by kernel_rfl) rfl (by kernel_rfl)) (d := 63) (v := (.pointer (some ⟨r2, 0, none⟩))) rfl (by kernel_rfl) ?_
      refine wl_pure (wantsY 13 62 false rfl (by kernel_rfl) rfl (by kernel_rfl)) (d := 64) (v := (.int .i64 (C))) rfl (by kernel_rfl) ?_
      refine wl_do (wantsY 13 62 false rfl (by kernel_rfl) rfl (by kernel_rfl)) (fun K245 hK245 => ?_)
      refine d_call (d := 65) rfl (by kernel_rfl) (release_any w241 r2 b3 (L ++ [(Q16, C)]) (H244.fin [1, 2] (by decide) rfl) (back_short hS hq) ([113, 113, 113, 113, 113, 113, 113, 113, 113, 113, 113, 113, 113, 113, 113, 113]) (by decide) C) ?_
      rintro _ w246 ⟨e248, T247⟩
      rw [show relE (L ++ [(Q16, C)]) [113, 113, 113, 113, 113, 113, 113, 113, 113, 113, 113, 113, 113, 113, 113, 113] C = 0 from back_r2 hq (show 0 ≤ C ∧ C < 5 by omega)] at e248
      rw [show relL (L ++ [(Q16, C)]) [113, 113, 113, 113, 113, 113, 113, 113, 113, 113, 113, 113, 113, 113, 113, 113] C = _ from back_r2n hq (show 0 ≤ C ∧ C < 5 by omega)] at T247
      subst e248
      have H249 : Sat w [restC w (fun _ => False), cellC r2 52 ([(.map (some b3))] : List Value), mapC b3 strV (Value.int .i64) L, rowC 9 1 (.slice a216 ((sortK (L : RegL)).length) c217) ((sortK (L : RegL)).length) ((sortK (L : RegL)).flatMap encS)] w246 := (Sat.turnL (L' := [cellC r2 52 ([(.map (some b3))] : List Value), mapC b3 strV (Value.int .i64) L]) (R := [restC w (fun _ => False), rowC 9 1 (.slice a216 ((sortK (L : RegL)).length) c217) ((sortK (L : RegL)).length) ((sortK (L : RegL)).flatMap encS)]) H244 [1, 2] [0, 3] (by decide) (by kernel_rfl) rfl T247).pick [2, 0, 1, 3] (by decide)
      refine ⟨_, rfl, ?_⟩
      refine hK245 _ _ ?_
      clear hK245 K245
      refine wl_pure (wantsY 13 62 false rfl (by kernel_rfl) rfl (by kernel_rfl)) (d := 66) (v := (.bool false)) rfl (by kernel_rfl) ?_
      refine wl_pure (wants0 rfl) (d := 67) (v := (.bool false)) rfl (by kernel_rfl) ?_
      refine w_nil ?_
      refine then_normal ?_
      refine wp_iff rfl ?_
      refine w_skip ?_
      refine then_normal ?_
      refine w_seq ?_
      refine w_seq ?_
      refine w_lit ?_
      refine wl_pure (wants0 rfl) (d := 68) (v := (.slice a216 ((sortK (L : RegL)).length) c217)) rfl (by kernel_rfl) ?_
      refine wl_pure (wants0 rfl) (d := 69) (v := (.int .i64 (((sortK (L : RegL)).length : Int)))) rfl (by kernel_rfl) ?_
      refine wl_pure (wants0 rfl) (d := 70) (v := (.int .i64 (0))) rfl (by kernel_rfl) ?_
      refine w_nil ?_
      refine then_normal ?_
      refine w_block ?_
      refine wp_round [4, 9, 10, 11, 70, 71, 72, 73, 74, 75, 76, 77, 78, 79, 80, 81, 82, 83, 84, 85, 86, 87, 88, 89, 90, 91, 92, 93, 94, 95] (fun F_ W_ m_ => ∃ (j : Nat), F_ 70 = (.int .i64 ((j : Int))) ∧ (j ≤ (sortK (L : RegL)).length) ∧ Sat w [restC w (fun _ => False), cellC r2 52 ([(.map (some b3))] : List Value), mapC b3 strV (Value.int .i64) L, rowC 9 1 (.slice a216 ((sortK (L : RegL)).length) c217) ((sortK (L : RegL)).length) ((sortK (L : RegL)).flatMap encS)] W_ ∧ m_ = (sortK (L : RegL)).length + 1 - j) _ ⟨0, (show ((.int .i64 (0)) : Value) = _ by first | rfl | go_num), by omega, H249, rfl⟩ ?_
      rintro g250 w251 _ ⟨j, v253, hj, H252, rfl⟩
      refine wp_know 70 _ v253 ?_
      refine w_seq ?_
      refine w_lit ?_
      refine wl_pure (wants0 rfl) (d := 71) (v := (.bool (decide ((j : Int) < ((sortK (L : RegL)).length : Int))))) rfl (by kernel_rfl) ?_
      refine w_nil ?_
      refine then_normal ?_
      refine w_seq ?_
      refine (bsplit (decide ((j : Int) < ((sortK (L : RegL)).length : Int)))).elim (fun b255 => ?_) (fun b255 => ?_)
      · have g256 := of_decide_eq_true b255
        refine wp_know 71 (.bool true) (congrArg Value.bool b255) ?_
        have g257 := of_decide_eq_true b255
        refine wp_ift rfl ?_
        refine w_skip ?_
        refine then_normal ?_
        refine w_seq ?_
        refine w_block ?_
        refine w_seq ?_
        refine w_lit ?_
        refine wl_pure (wants0 rfl) (d := 72) (v := (.int .i64 ((j : Int)))) rfl (by kernel_rfl) ?_
        refine wl_pure (wants0 rfl) (d := 9) (v := (.int .i64 ((j : Int)))) rfl (by kernel_rfl) ?_
        refine w_nil ?_
        refine then_normal ?_
        refine w_seq ?_
        refine w_lit ?_
        refine wl_pure (wants0 rfl) (d := 74) (v := (.pointer (some ⟨r2, 0, none⟩))) rfl (by kernel_rfl) ?_
        refine wl_pure (wants0 rfl) (d := 75) (v := (.slice a216 ((sortK (L : RegL)).length) c217)) rfl (by kernel_rfl) ?_
        refine wl_pure (wants0 rfl) (d := 76) (v := (.int .i64 ((j : Int)))) rfl (by kernel_rfl) ?_
        obtain ⟨g258, c259, e260⟩ := row_shape (H252.at 3 rfl) (by omega)
        obtain ⟨x261, h262⟩ := get_at (show j < (sortK (L : RegL)).length by omega)
        refine wl_pure (wants0 rfl) (d := 77) (v := (.pointer (some ⟨g258, 0 + ((j : Int)).toNat * 1, none⟩))) rfl (e_indexAddrV (E := 9) (by kernel_rfl) (by kernel_rfl) (Nat.le_of_ble_eq_true rfl) rfl e260 rfl (by omega) (by omega)) ?_
        refine wl_pure (wants0 rfl) (d := 78) (v := (strV x261)) rfl (e_load1 rfl (by kernel_rfl) (rows_cell (H252.at 3 rfl) e260 encS_len h262 0 rfl (show 0 + ((j : Int)).toNat * 1 = j * 1 + 0 by omega) (by kernel_rfl))) ?_
        refine wl_do (wants0 rfl) (fun K263 hK263 => ?_)
        refine d_call (d := 79) rfl (by kernel_rfl) (owner_any w251 r2 b3 L (H252.fin [1, 2] (by decide) rfl) x261) ?_
        rintro _ w264 ⟨rfl, u266⟩
        have H265 := H252.keepU u266
        refine ⟨_, rfl, ?_⟩
        refine hK263 _ _ ?_
        clear hK263 K263
        refine wl_pure (wants0 rfl) (d := 73) (v := (.tuple #[(.int .i64 ((lookM L x261).getD 0)), (.bool ((lookM L x261).isSome))])) rfl (by kernel_rfl) ?_
        refine wl_pure (wants0 rfl) (d := 80) (v := (.int .i64 ((lookM L x261).getD 0))) rfl (by kernel_rfl) ?_
        refine wl_pure (wants0 rfl) (d := 81) (v := (.bool ((lookM L x261).isSome))) rfl (by kernel_rfl) ?_
        refine wl_pure (wants0 rfl) (d := 10) (v := (.int .i64 ((lookM L x261).getD 0))) rfl (by kernel_rfl) ?_
        refine wl_pure (wants0 rfl) (d := 11) (v := (.bool ((lookM L x261).isSome))) rfl (by kernel_rfl) ?_
        refine w_nil ?_
        refine then_normal ?_
        refine w_seq ?_
        obtain ⟨v, hv, hm⟩ := sortK_look h262
        have hvb := hF _ hm
        simp only at hvb
        have hgd : (lookM L x261).getD 0 = v := by rw [hv]; rfl
        refine wp_know 11 (.bool true) (show ((.bool ((lookM L x261).isSome)) : Value) = _ by rw [hv]; rfl) ?_
        refine w_lit ?_
        refine wl_pure (wants0 rfl) (d := 82) (v := (.bool true)) rfl (by kernel_rfl) ?_
        refine wl_pure (wants0 rfl) (d := 83) (v := (.bool false)) rfl (by kernel_rfl) ?_
        refine wl_pure (wants0 rfl) (d := 84) (v := (.bool false)) rfl (by kernel_rfl) ?_
        refine wl_pure (wantsY 2 84 false rfl (by kernel_rfl) rfl (by kernel_rfl)) (d := 85) (v := (.pointer (some ⟨r2, 0, none⟩))) rfl (by kernel_rfl) ?_
        refine wl_pure (wantsY 2 84 false rfl (by kernel_rfl) rfl (by kernel_rfl)) (d := 86) (v := (.slice a216 ((sortK (L : RegL)).length) c217)) rfl (by kernel_rfl) ?_
        refine wl_pure (wantsY 2 84 false rfl (by kernel_rfl) rfl (by kernel_rfl)) (d := 87) (v := (.int .i64 ((j : Int)))) rfl (by kernel_rfl) ?_
        refine wl_pure (wantsY 2 84 false rfl (by kernel_rfl) rfl (by kernel_rfl)) (d := 88) (v := (.pointer (some ⟨g258, 0 + ((j : Int)).toNat * 1, none⟩))) rfl (e_indexAddrV (E := 9) (by kernel_rfl) (by kernel_rfl) (Nat.le_of_ble_eq_true rfl) rfl e260 rfl (by omega) (by omega)) ?_
        refine wl_pure (wantsY 2 84 false rfl (by kernel_rfl) rfl (by kernel_rfl)) (d := 89) (v := (strV x261)) rfl (e_load1 rfl (by kernel_rfl) (rows_cell (H265.at 3 rfl) e260 encS_len h262 0 rfl (show 0 + ((j : Int)).toNat * 1 = j * 1 + 0 by omega) (by kernel_rfl))) ?_
        refine wl_pure (wantsY 2 84 false rfl (by kernel_rfl) rfl (by kernel_rfl)) (d := 90) (v := (.int .i64 ((lookM L x261).getD 0))) rfl (by kernel_rfl) ?_
        refine wl_pure (wantsY 2 84 false rfl (by kernel_rfl) rfl (by kernel_rfl)) (d := 91) (v := (.int .i64 (((lookM L x261).getD 0) + 1))) rfl (e_int (z := ((lookM L x261).getD 0) + 1) (by kernel_rfl) (IntWalk.i64_in _ (by omega))) ?_
        refine wl_do (wantsY 2 84 false rfl (by kernel_rfl) rfl (by kernel_rfl)) (fun K267 hK267 => ?_)
        refine d_call (d := 92) rfl (by kernel_rfl) (release_any w264 r2 b3 L (H265.fin [1, 2] (by decide) rfl) hS x261 (hxl _ _ h262) (((lookM L x261).getD 0) + 1)) ?_
        rintro _ w268 ⟨e270, T269⟩
        rw [show relE L x261 (((lookM L x261).getD 0) + 1) = relE L x261 (((lookM L x261).getD 0) + 1) from rfl] at e270
        rw [rel_otherN hv] at T269
        subst e270
        have H271 : Sat w [restC w (fun _ => False), cellC r2 52 ([(.map (some b3))] : List Value), mapC b3 strV (Value.int .i64) L, rowC 9 1 (.slice a216 ((sortK (L : RegL)).length) c217) ((sortK (L : RegL)).length) ((sortK (L : RegL)).flatMap encS)] w268 := (Sat.turnL (L' := [cellC r2 52 ([(.map (some b3))] : List Value), mapC b3 strV (Value.int .i64) L]) (R := [restC w (fun _ => False), rowC 9 1 (.slice a216 ((sortK (L : RegL)).length) c217) ((sortK (L : RegL)).length) ((sortK (L : RegL)).flatMap encS)]) H265 [1, 2] [0, 3] (by decide) (by kernel_rfl) rfl T269).pick [2, 0, 1, 3] (by decide)
        refine ⟨_, rfl, ?_⟩
        refine hK267 _ _ ?_
        clear hK267 K267
        refine wl_pure (wantsY 2 84 false rfl (by kernel_rfl) rfl (by kernel_rfl)) (d := 93) (v := (.bool (decide ((relE L x261 (((lookM L x261).getD 0) + 1)) = 0)))) rfl (by kernel_rfl) ?_
        refine wl_pure (wants0 rfl) (d := 94) (v := (.bool (decide ((relE L x261 (((lookM L x261).getD 0) + 1)) = 0)))) rfl (by kernel_rfl) ?_
        refine w_nil ?_
        refine then_normal ?_
        have b272 : (decide ((relE L x261 (((lookM L x261).getD 0) + 1)) = 0)) = false := by exact decide_eq_false (rel_other hv)
        refine wp_know 94 (.bool false) (congrArg Value.bool b272) ?_
        have g273 := of_decide_eq_false b272
        refine wp_iff rfl ?_
        refine w_skip ?_
        refine blk_normal ?_
        refine then_normal ?_
        refine w_lit ?_
        refine wl_pure (wants0 rfl) (d := 95) (v := (.int .i64 ((j : Int) + 1))) rfl (e_int (z := (j : Int) + 1) (by kernel_rfl) (IntWalk.i64_in _ (by omega))) ?_
        refine wl_pure (wants0 rfl) (d := 70) (v := (.int .i64 ((j : Int) + 1))) rfl (by kernel_rfl) ?_
        refine w_nil ?_
        refine round_back ?_ _ ⟨(j + 1), (show ((.int .i64 ((j : Int) + 1)) : Value) = _ by first | rfl | go_num), by omega, H271, rfl⟩ (by omega)
        exact (same_upd rfl (same_upd rfl (same_upd rfl (same_upd rfl (same_upd rfl (same_upd rfl (same_upd rfl (same_upd rfl (same_upd rfl (same_upd rfl (same_upd rfl (same_upd rfl (same_upd rfl (same_upd rfl (same_upd rfl (same_upd rfl (same_upd rfl (same_upd rfl (same_upd rfl (same_upd rfl (same_upd rfl (same_upd rfl (same_upd rfl (same_upd rfl (same_upd rfl (same_upd rfl (same_upd rfl (same_upd rfl (same_upd rfl (same_upd rfl (same_upd rfl (same_upd rfl (same_upd rfl (same_ovr))))))))))))))))))))))))))))))))))
      · have g274 := of_decide_eq_false b255
        refine wp_know 71 (.bool false) (congrArg Value.bool b255) ?_
        have g275 := of_decide_eq_false b255
        refine wp_iff rfl ?_
        refine w_exit ?_
        refine then_exit ?_
        refine back_exit ?_
        refine blk_hit ?_
        refine then_normal ?_
        refine w_seq ?_
        refine w_lit ?_
        refine wl_pure (wants0 rfl) (d := 96) (v := (.pointer (some ⟨r2, 0, none⟩))) rfl (by kernel_rfl) ?_
        refine wl_pure (wants0 rfl) (d := 97) (v := (.int .i64 (C))) rfl (by kernel_rfl) ?_
        refine wl_do (wants0 rfl) (fun K276 hK276 => ?_)
        refine d_call (d := 98) rfl (by kernel_rfl) (count_any w251 r2 b3 L (H252.fin [1, 2] (by decide) rfl) hS C) ?_
        rintro _ w277 ⟨rfl, u279⟩
        have H278 := H252.keepU u279
        refine ⟨_, rfl, ?_⟩
        refine hK276 _ _ ?_
        clear hK276 K276
        refine wl_pure (wants0 rfl) (d := 99) (v := (.int .i64 (cntL L C))) rfl (by kernel_rfl) ?_
        refine wl_pure (wants0 rfl) (d := 100) (v := (.bool (decide ((cntL L C) = (cntL L C))))) rfl (by kernel_rfl) ?_
        refine wl_pure (wants0 rfl) (d := 101) (v := (.bool (decide ((cntL L C) = (cntL L C))))) rfl (by kernel_rfl) ?_
        have b280 : (decide ((cntL L C) = (cntL L C))) = true := by exact decide_eq_true rfl
        refine wl_know 101 (.bool true) (congrArg Value.bool b280) ?_
        have g281 := of_decide_eq_true b280
        refine wl_pure (wantsY 5 101 true rfl (by kernel_rfl) rfl (by kernel_rfl)) (d := 102) (v := (.pointer (some ⟨r2, 0, none⟩))) rfl (by kernel_rfl) ?_
        refine wl_do (wantsY 5 101 true rfl (by kernel_rfl) rfl (by kernel_rfl)) (fun K282 hK282 => ?_)
        refine d_call (d := 103) rfl (by kernel_rfl) (items_any w277 r2 b3 L (H278.fin [1, 2] (by decide) rfl) hS) ?_
        rintro _ w283 ⟨u284, rfl, k285, p286, q287⟩
        have H288 : Sat w [restC w (fun _ => False), cellC r2 52 ([(.map (some b3))] : List Value), mapC b3 strV (Value.int .i64) L, rowC 9 1 (.slice a216 ((sortK (L : RegL)).length) c217) ((sortK (L : RegL)).length) ((sortK (L : RegL)).flatMap encS), rowC 9 1 u284 ((sortK (L : RegL)).length) ((sortK (L : RegL)).flatMap encS)] w283 := H278.addU p286 k285 q287
        obtain ⟨a289, c290, rfl⟩ := ownsRow_shape (H288.at 4 rfl)
        refine ⟨_, rfl, ?_⟩
        refine hK282 _ _ ?_
        clear hK282 K282
        refine wl_pure (wantsY 5 101 true rfl (by kernel_rfl) rfl (by kernel_rfl)) (d := 104) (v := (.slice a216 ((sortK (L : RegL)).length) c217)) rfl (by kernel_rfl) ?_
        refine wl_do (wantsY 5 101 true rfl (by kernel_rfl) rfl (by kernel_rfl)) (fun K291 hK291 => ?_)
        refine d_call (d := 105) rfl (by kernel_rfl) (sameS_any w283 (.slice a289 ((sortK (L : RegL)).length) c290) (.slice a216 ((sortK (L : RegL)).length) c217) (sortK (L : RegL)) (sortK (L : RegL)) (ListAt.row (enc := encS) (sz := 1) encS_len (by decide) (H288.at 4 rfl)) (ListAt.row (enc := encS) (sz := 1) encS_len (by decide) (H288.at 3 rfl)) (by omega)) ?_
        rintro _ w292 ⟨rfl, u294⟩
        have H293 := H288.keepU u294
        refine ⟨_, rfl, ?_⟩
        refine hK291 _ _ ?_
        clear hK291 K291
        refine wl_pure (wants0 rfl) (d := 106) (v := (.bool (decide ((sortK (L : RegL)) = (sortK (L : RegL)))))) rfl (by kernel_rfl) ?_
        refine wl_pure (wants0 rfl) (d := 107) (v := (.bool (decide ((sortK (L : RegL)) = (sortK (L : RegL)))))) rfl (by kernel_rfl) ?_
        have b295 : (decide ((sortK (L : RegL)) = (sortK (L : RegL)))) = true := by exact decide_eq_true rfl
        refine wl_know 107 (.bool true) (congrArg Value.bool b295) ?_
        refine wl_do (wantsY 11 107 true rfl (by kernel_rfl) rfl (by kernel_rfl)) (fun K296 hK296 => ?_)
        refine d_call (d := 108) rfl (by kernel_rfl) (wakes_any w292) ?_
        rintro _ w297 ⟨rfl, u299⟩
        have H298 := H293.keepU u299
        refine ⟨_, rfl, ?_⟩
        refine hK296 _ _ ?_
        clear hK296 K296
        refine wl_pure (wants0 rfl) (d := 109) (v := (.bool true)) rfl (by kernel_rfl) ?_
        refine wl_pure (wants0 rfl) (d := 4) (v := (.bool true)) rfl (by kernel_rfl) ?_
        refine w_nil ?_
        refine then_normal ?_
        refine w_ret ?_
        refine end1 rfl (res_tmp (v := (.bool true)) rfl) ?_
        exact ⟨rfl, H298.upd 0 rfl [] (fun _ h => h.elim)⟩
    · have g300 := of_decide_eq_false b226
      have hq := of_decide_eq_false b226
      refine w_lit ?_
      refine wl_pure (wants0 rfl) (d := 45) (v := (.pointer (some ⟨r2, 0, none⟩))) rfl (by kernel_rfl) ?_
      refine wl_pure (wants0 rfl) (d := 46) (v := (.int .i64 (C))) rfl (by kernel_rfl) ?_
      refine wl_do (wants0 rfl) (fun K301 hK301 => ?_)
      refine d_call (d := 47) rfl (by kernel_rfl) (reserve_any w223 r2 b3 L (H224.fin [1, 2] (by decide) rfl) hS ([113, 113, 113, 113, 113, 113, 113, 113, 113, 113, 113, 113, 113, 113, 113, 113]) (by decide) C) ?_
      rintro _ w302 ⟨e304, T303⟩
      rw [show resE L [113, 113, 113, 113, 113, 113, 113, 113, 113, 113, 113, 113, 113, 113, 113, 113] C = resE L Q16 C from rfl] at e304
      rw [show resL L [113, 113, 113, 113, 113, 113, 113, 113, 113, 113, 113, 113, 113, 113, 113, 113] C = _ from back_not hq] at T303
      subst e304
      have H305 : Sat w [restC w (fun _ => False), cellC r2 52 ([(.map (some b3))] : List Value), mapC b3 strV (Value.int .i64) L, rowC 9 1 (.slice a216 ((sortK (L : RegL)).length) c217) ((sortK (L : RegL)).length) ((sortK (L : RegL)).flatMap encS)] w302 := (Sat.turnL (L' := [cellC r2 52 ([(.map (some b3))] : List Value), mapC b3 strV (Value.int .i64) L]) (R := [restC w (fun _ => False), rowC 9 1 (.slice a216 ((sortK (L : RegL)).length) c217) ((sortK (L : RegL)).length) ((sortK (L : RegL)).flatMap encS)]) H224 [1, 2] [0, 3] (by decide) (by kernel_rfl) rfl T303).pick [2, 0, 1, 3] (by decide)
      refine ⟨_, rfl, ?_⟩
      refine hK301 _ _ ?_
      clear hK301 K301
      refine wl_pure (wants0 rfl) (d := 48) (v := (.bool (decide ((resE L Q16 C) = 0)))) rfl (by kernel_rfl) ?_
      refine w_nil ?_
      refine then_normal ?_
      have b306 : (decide ((resE L Q16 C) = 0)) = false := by exact decide_eq_false hq
      refine wp_know 48 (.bool false) (congrArg Value.bool b306) ?_
      have g307 := of_decide_eq_false b306
      refine wp_iff rfl ?_
      refine w_skip ?_
      refine then_normal ?_
      refine w_seq ?_
      refine w_seq ?_
      refine w_lit ?_
      refine wl_pure (wants0 rfl) (d := 68) (v := (.slice a216 ((sortK (L : RegL)).length) c217)) rfl (by kernel_rfl) ?_
      refine wl_pure (wants0 rfl) (d := 69) (v := (.int .i64 (((sortK (L : RegL)).length : Int)))) rfl (by kernel_rfl) ?_
      refine wl_pure (wants0 rfl) (d := 70) (v := (.int .i64 (0))) rfl (by kernel_rfl) ?_
      refine w_nil ?_
      refine then_normal ?_
      refine w_block ?_
      refine wp_round [4, 9, 10, 11, 70, 71, 72, 73, 74, 75, 76, 77, 78, 79, 80, 81, 82, 83, 84, 85, 86, 87, 88, 89, 90, 91, 92, 93, 94, 95] (fun F_ W_ m_ => ∃ (j : Nat), F_ 70 = (.int .i64 ((j : Int))) ∧ (j ≤ (sortK (L : RegL)).length) ∧ Sat w [restC w (fun _ => False), cellC r2 52 ([(.map (some b3))] : List Value), mapC b3 strV (Value.int .i64) L, rowC 9 1 (.slice a216 ((sortK (L : RegL)).length) c217) ((sortK (L : RegL)).length) ((sortK (L : RegL)).flatMap encS)] W_ ∧ m_ = (sortK (L : RegL)).length + 1 - j) _ ⟨0, (show ((.int .i64 (0)) : Value) = _ by first | rfl | go_num), by omega, H305, rfl⟩ ?_
      rintro g308 w309 _ ⟨j, v311, hj, H310, rfl⟩
      refine wp_know 70 _ v311 ?_
      refine w_seq ?_
      refine w_lit ?_
      refine wl_pure (wants0 rfl) (d := 71) (v := (.bool (decide ((j : Int) < ((sortK (L : RegL)).length : Int))))) rfl (by kernel_rfl) ?_
      refine w_nil ?_
      refine then_normal ?_
      refine w_seq ?_
      refine (bsplit (decide ((j : Int) < ((sortK (L : RegL)).length : Int)))).elim (fun b313 => ?_) (fun b313 => ?_)
      · have g314 := of_decide_eq_true b313
        refine wp_know 71 (.bool true) (congrArg Value.bool b313) ?_
        have g315 := of_decide_eq_true b313
        refine wp_ift rfl ?_
        refine w_skip ?_
        refine then_normal ?_
        refine w_seq ?_
        refine w_block ?_
        refine w_seq ?_
        refine w_lit ?_
        refine wl_pure (wants0 rfl) (d := 72) (v := (.int .i64 ((j : Int)))) rfl (by kernel_rfl) ?_
        refine wl_pure (wants0 rfl) (d := 9) (v := (.int .i64 ((j : Int)))) rfl (by kernel_rfl) ?_
        refine w_nil ?_
        refine then_normal ?_
        refine w_seq ?_
        refine w_lit ?_
        refine wl_pure (wants0 rfl) (d := 74) (v := (.pointer (some ⟨r2, 0, none⟩))) rfl (by kernel_rfl) ?_
        refine wl_pure (wants0 rfl) (d := 75) (v := (.slice a216 ((sortK (L : RegL)).length) c217)) rfl (by kernel_rfl) ?_
        refine wl_pure (wants0 rfl) (d := 76) (v := (.int .i64 ((j : Int)))) rfl (by kernel_rfl) ?_
        obtain ⟨g316, c317, e318⟩ := row_shape (H310.at 3 rfl) (by omega)
        obtain ⟨x319, h320⟩ := get_at (show j < (sortK (L : RegL)).length by omega)
        refine wl_pure (wants0 rfl) (d := 77) (v := (.pointer (some ⟨g316, 0 + ((j : Int)).toNat * 1, none⟩))) rfl (e_indexAddrV (E := 9) (by kernel_rfl) (by kernel_rfl) (Nat.le_of_ble_eq_true rfl) rfl e318 rfl (by omega) (by omega)) ?_
        refine wl_pure (wants0 rfl) (d := 78) (v := (strV x319)) rfl (e_load1 rfl (by kernel_rfl) (rows_cell (H310.at 3 rfl) e318 encS_len h320 0 rfl (show 0 + ((j : Int)).toNat * 1 = j * 1 + 0 by omega) (by kernel_rfl))) ?_
        refine wl_do (wants0 rfl) (fun K321 hK321 => ?_)
        refine d_call (d := 79) rfl (by kernel_rfl) (owner_any w309 r2 b3 L (H310.fin [1, 2] (by decide) rfl) x319) ?_
        rintro _ w322 ⟨rfl, u324⟩
        have H323 := H310.keepU u324
        refine ⟨_, rfl, ?_⟩
        refine hK321 _ _ ?_
        clear hK321 K321
        refine wl_pure (wants0 rfl) (d := 73) (v := (.tuple #[(.int .i64 ((lookM L x319).getD 0)), (.bool ((lookM L x319).isSome))])) rfl (by kernel_rfl) ?_
        refine wl_pure (wants0 rfl) (d := 80) (v := (.int .i64 ((lookM L x319).getD 0))) rfl (by kernel_rfl) ?_
        refine wl_pure (wants0 rfl) (d := 81) (v := (.bool ((lookM L x319).isSome))) rfl (by kernel_rfl) ?_
        refine wl_pure (wants0 rfl) (d := 10) (v := (.int .i64 ((lookM L x319).getD 0))) rfl (by kernel_rfl) ?_
        refine wl_pure (wants0 rfl) (d := 11) (v := (.bool ((lookM L x319).isSome))) rfl (by kernel_rfl) ?_
        refine w_nil ?_
        refine then_normal ?_
        refine w_seq ?_
        obtain ⟨v, hv, hm⟩ := sortK_look h320
        have hvb := hF _ hm
        simp only at hvb
        have hgd : (lookM L x319).getD 0 = v := by rw [hv]; rfl
        refine wp_know 11 (.bool true) (show ((.bool ((lookM L x319).isSome)) : Value) = _ by rw [hv]; rfl) ?_
        refine w_lit ?_
        refine wl_pure (wants0 rfl) (d := 82) (v := (.bool true)) rfl (by kernel_rfl) ?_
        refine wl_pure (wants0 rfl) (d := 83) (v := (.bool false)) rfl (by kernel_rfl) ?_
        refine wl_pure (wants0 rfl) (d := 84) (v := (.bool false)) rfl (by kernel_rfl) ?_
        refine wl_pure (wantsY 2 84 false rfl (by kernel_rfl) rfl (by kernel_rfl)) (d := 85) (v := (.pointer (some ⟨r2, 0, none⟩))) rfl (by kernel_rfl) ?_
        refine wl_pure (wantsY 2 84 false rfl (by kernel_rfl) rfl (by kernel_rfl)) (d := 86) (v := (.slice a216 ((sortK (L : RegL)).length) c217)) rfl (by kernel_rfl) ?_
        refine wl_pure (wantsY 2 84 false rfl (by kernel_rfl) rfl (by kernel_rfl)) (d := 87) (v := (.int .i64 ((j : Int)))) rfl (by kernel_rfl) ?_
        refine wl_pure (wantsY 2 84 false rfl (by kernel_rfl) rfl (by kernel_rfl)) (d := 88) (v := (.pointer (some ⟨g316, 0 + ((j : Int)).toNat * 1, none⟩))) rfl (e_indexAddrV (E := 9) (by kernel_rfl) (by kernel_rfl) (Nat.le_of_ble_eq_true rfl) rfl e318 rfl (by omega) (by omega)) ?_
        refine wl_pure (wantsY 2 84 false rfl (by kernel_rfl) rfl (by kernel_rfl)) (d := 89) (v := (strV x319)) rfl (e_load1 rfl (by kernel_rfl) (rows_cell (H323.at 3 rfl) e318 encS_len h320 0 rfl (show 0 + ((j : Int)).toNat * 1 = j * 1 + 0 by omega) (by kernel_rfl))) ?_
        refine wl_pure (wantsY 2 84 false rfl (by kernel_rfl) rfl (by kernel_rfl)) (d := 90) (v := (.int .i64 ((lookM L x319).getD 0))) rfl (by kernel_rfl) ?_
        refine wl_pure (wantsY 2 84 false rfl (by kernel_rfl) rfl (by kernel_rfl)) (d := 91) (v := (.int .i64 (((lookM L x319).getD 0) + 1))) rfl (e_int (z := ((lookM L x319).getD 0) + 1) (by kernel_rfl) (IntWalk.i64_in _ (by omega))) ?_
        refine wl_do (wantsY 2 84 false rfl (by kernel_rfl) rfl (by kernel_rfl)) (fun K325 hK325 => ?_)
        refine d_call (d := 92) rfl (by kernel_rfl) (release_any w322 r2 b3 L (H323.fin [1, 2] (by decide) rfl) hS x319 (hxl _ _ h320) (((lookM L x319).getD 0) + 1)) ?_
        rintro _ w326 ⟨e328, T327⟩
        rw [show relE L x319 (((lookM L x319).getD 0) + 1) = relE L x319 (((lookM L x319).getD 0) + 1) from rfl] at e328
        rw [rel_otherN hv] at T327
        subst e328
        have H329 : Sat w [restC w (fun _ => False), cellC r2 52 ([(.map (some b3))] : List Value), mapC b3 strV (Value.int .i64) L, rowC 9 1 (.slice a216 ((sortK (L : RegL)).length) c217) ((sortK (L : RegL)).length) ((sortK (L : RegL)).flatMap encS)] w326 := (Sat.turnL (L' := [cellC r2 52 ([(.map (some b3))] : List Value), mapC b3 strV (Value.int .i64) L]) (R := [restC w (fun _ => False), rowC 9 1 (.slice a216 ((sortK (L : RegL)).length) c217) ((sortK (L : RegL)).length) ((sortK (L : RegL)).flatMap encS)]) H323 [1, 2] [0, 3] (by decide) (by kernel_rfl) rfl T327).pick [2, 0, 1, 3] (by decide)
        refine ⟨_, rfl, ?_⟩
        refine hK325 _ _ ?_
        clear hK325 K325
        refine wl_pure (wantsY 2 84 false rfl (by kernel_rfl) rfl (by kernel_rfl)) (d := 93) (v := (.bool (decide ((relE L x319 (((lookM L x319).getD 0) + 1)) = 0)))) rfl (by kernel_rfl) ?_
        refine wl_pure (wants0 rfl) (d := 94) (v := (.bool (decide ((relE L x319 (((lookM L x319).getD 0) + 1)) = 0)))) rfl (by kernel_rfl) ?_
        refine w_nil ?_
        refine then_normal ?_
        have b330 : (decide ((relE L x319 (((lookM L x319).getD 0) + 1)) = 0)) = false := by exact decide_eq_false (rel_other hv)
        refine wp_know 94 (.bool false) (congrArg Value.bool b330) ?_
        have g331 := of_decide_eq_false b330
        refine wp_iff rfl ?_
        refine w_skip ?_
        refine blk_normal ?_
        refine then_normal ?_
        refine w_lit ?_
        refine wl_pure (wants0 rfl) (d := 95) (v := (.int .i64 ((j : Int) + 1))) rfl (e_int (z := (j : Int) + 1) (by kernel_rfl) (IntWalk.i64_in _ (by omega))) ?_
        refine wl_pure (wants0 rfl) (d := 70) (v := (.int .i64 ((j : Int) + 1))) rfl (by kernel_rfl) ?_
        refine w_nil ?_
        refine round_back ?_ _ ⟨(j + 1), (show ((.int .i64 ((j : Int) + 1)) : Value) = _ by first | rfl | go_num), by omega, H329, rfl⟩ (by omega)
        exact (same_upd rfl (same_upd rfl (same_upd rfl (same_upd rfl (same_upd rfl (same_upd rfl (same_upd rfl (same_upd rfl (same_upd rfl (same_upd rfl (same_upd rfl (same_upd rfl (same_upd rfl (same_upd rfl (same_upd rfl (same_upd rfl (same_upd rfl (same_upd rfl (same_upd rfl (same_upd rfl (same_upd rfl (same_upd rfl (same_upd rfl (same_upd rfl (same_upd rfl (same_upd rfl (same_upd rfl (same_upd rfl (same_upd rfl (same_upd rfl (same_upd rfl (same_upd rfl (same_upd rfl (same_ovr))))))))))))))))))))))))))))))))))
      · have g332 := of_decide_eq_false b313
        refine wp_know 71 (.bool false) (congrArg Value.bool b313) ?_
        have g333 := of_decide_eq_false b313
        refine wp_iff rfl ?_
        refine w_exit ?_
        refine then_exit ?_
        refine back_exit ?_
        refine blk_hit ?_
        refine then_normal ?_
        refine w_seq ?_
        refine w_lit ?_
        refine wl_pure (wants0 rfl) (d := 96) (v := (.pointer (some ⟨r2, 0, none⟩))) rfl (by kernel_rfl) ?_
        refine wl_pure (wants0 rfl) (d := 97) (v := (.int .i64 (C))) rfl (by kernel_rfl) ?_
        refine wl_do (wants0 rfl) (fun K334 hK334 => ?_)
        refine d_call (d := 98) rfl (by kernel_rfl) (count_any w309 r2 b3 L (H310.fin [1, 2] (by decide) rfl) hS C) ?_
        rintro _ w335 ⟨rfl, u337⟩
        have H336 := H310.keepU u337
        refine ⟨_, rfl, ?_⟩
        refine hK334 _ _ ?_
        clear hK334 K334
        refine wl_pure (wants0 rfl) (d := 99) (v := (.int .i64 (cntL L C))) rfl (by kernel_rfl) ?_
        refine wl_pure (wants0 rfl) (d := 100) (v := (.bool (decide ((cntL L C) = (cntL L C))))) rfl (by kernel_rfl) ?_
        refine wl_pure (wants0 rfl) (d := 101) (v := (.bool (decide ((cntL L C) = (cntL L C))))) rfl (by kernel_rfl) ?_
        have b338 : (decide ((cntL L C) = (cntL L C))) = true := by exact decide_eq_true rfl
        refine wl_know 101 (.bool true) (congrArg Value.bool b338) ?_
        have g339 := of_decide_eq_true b338
        refine wl_pure (wantsY 5 101 true rfl (by kernel_rfl) rfl (by kernel_rfl)) (d := 102) (v := (.pointer (some ⟨r2, 0, none⟩))) rfl (by kernel_rfl) ?_
        refine wl_do (wantsY 5 101 true rfl (by kernel_rfl) rfl (by kernel_rfl)) (fun K340 hK340 => ?_)
        refine d_call (d := 103) rfl (by kernel_rfl) (items_any w335 r2 b3 L (H336.fin [1, 2] (by decide) rfl) hS) ?_
        rintro _ w341 ⟨u342, rfl, k343, p344, q345⟩
        have H346 : Sat w [restC w (fun _ => False), cellC r2 52 ([(.map (some b3))] : List Value), mapC b3 strV (Value.int .i64) L, rowC 9 1 (.slice a216 ((sortK (L : RegL)).length) c217) ((sortK (L : RegL)).length) ((sortK (L : RegL)).flatMap encS), rowC 9 1 u342 ((sortK (L : RegL)).length) ((sortK (L : RegL)).flatMap encS)] w341 := H336.addU p344 k343 q345
        obtain ⟨a347, c348, rfl⟩ := ownsRow_shape (H346.at 4 rfl)
        refine ⟨_, rfl, ?_⟩
        refine hK340 _ _ ?_
        clear hK340 K340
        refine wl_pure (wantsY 5 101 true rfl (by kernel_rfl) rfl (by kernel_rfl)) (d := 104) (v := (.slice a216 ((sortK (L : RegL)).length) c217)) rfl (by kernel_rfl) ?_
        refine wl_do (wantsY 5 101 true rfl (by kernel_rfl) rfl (by kernel_rfl)) (fun K349 hK349 => ?_)
        refine d_call (d := 105) rfl (by kernel_rfl) (sameS_any w341 (.slice a347 ((sortK (L : RegL)).length) c348) (.slice a216 ((sortK (L : RegL)).length) c217) (sortK (L : RegL)) (sortK (L : RegL)) (ListAt.row (enc := encS) (sz := 1) encS_len (by decide) (H346.at 4 rfl)) (ListAt.row (enc := encS) (sz := 1) encS_len (by decide) (H346.at 3 rfl)) (by omega)) ?_
        rintro _ w350 ⟨rfl, u352⟩
        have H351 := H346.keepU u352
        refine ⟨_, rfl, ?_⟩
        refine hK349 _ _ ?_
        clear hK349 K349
        refine wl_pure (wants0 rfl) (d := 106) (v := (.bool (decide ((sortK (L : RegL)) = (sortK (L : RegL)))))) rfl (by kernel_rfl) ?_
        refine wl_pure (wants0 rfl) (d := 107) (v := (.bool (decide ((sortK (L : RegL)) = (sortK (L : RegL)))))) rfl (by kernel_rfl) ?_
        have b353 : (decide ((sortK (L : RegL)) = (sortK (L : RegL)))) = true := by exact decide_eq_true rfl
        refine wl_know 107 (.bool true) (congrArg Value.bool b353) ?_
        refine wl_do (wantsY 11 107 true rfl (by kernel_rfl) rfl (by kernel_rfl)) (fun K354 hK354 => ?_)
        refine d_call (d := 108) rfl (by kernel_rfl) (wakes_any w350) ?_
        rintro _ w355 ⟨rfl, u357⟩
        have H356 := H351.keepU u357
        refine ⟨_, rfl, ?_⟩
        refine hK354 _ _ ?_
        clear hK354 K354
        refine wl_pure (wants0 rfl) (d := 109) (v := (.bool true)) rfl (by kernel_rfl) ?_
        refine wl_pure (wants0 rfl) (d := 4) (v := (.bool true)) rfl (by kernel_rfl) ?_
        refine w_nil ?_
        refine then_normal ?_
        refine w_ret ?_
        refine end1 rfl (res_tmp (v := (.bool true)) rfl) ?_
        exact ⟨rfl, H356.upd 0 rfl [] (fun _ h => h.elim)⟩

end Go.Proofs.Ytjlbabikogdknaa
