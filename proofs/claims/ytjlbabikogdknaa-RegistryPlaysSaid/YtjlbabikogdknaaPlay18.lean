/- WHAT IS PROVED: both registries played. Conditions: stated with each. -/
import Derived.Test.YtjlbabikogdknaaPlayD18
namespace Go.Proofs.Ytjlbabikogdknaa
open Go.RowKit

set_option maxRecDepth 100000 in
set_option maxHeartbeats 400000 in
theorem play18_any (w : World) (r b : Nat) (M0 : RegL) (q : Nat) (a0 : Option Addr) (c0 : Nat) (L0 : RegL) (hB : (sepC (bothL r b M0 q a0 c0 L0)).ok w) (hM : Short M0) (hP0 : M0.Perm L0) (hS0 : SrtK L0) (va : Option Addr) (vc : Nat) (acts : List ActS) (hacts : ListAt encA 3 w (.slice va acts.length vc) acts) (hal : ∀ x ∈ acts, x.s.length ≤ 9223372036854775807) (hva : 0 < acts.length → ∀ a, va = some a → ¬ (sepC (bothL r b M0 q a0 c0 L0)).fp a.block) :
    Calls Try.prog 17 #[(.pointer (some ⟨r, 0, none⟩)), (.pointer (some ⟨q, 0, none⟩)), (.slice va acts.length vc)] w fun e w' => ∃ M' a' c' L', e = .returned (.bool true) ∧ Sat w [cellC r 52 [.map (some b)], mapC b strV (Value.int .i64) M', cellC q 46 [.slice a' L'.length c'], rowC 61 2 (.slice a' L'.length c') L'.length (L'.flatMap encO), restC w (sepC (bothL r b M0 q a0 c0 L0)).fp] w' ∧ Short M' ∧ M'.Perm L' ∧ SrtK L' := by
  have hact : ∀ i, i < acts.length → (acts.getD i act0).s.length ≤ 9223372036854775807 := fun i hi => by
    rw [List.getD_eq_getElem?_getD, List.getElem?_eq_getElem hi]; exact hal _ (List.getElem_mem hi)
  have H : Sat w [cellC r 52 ([(.map (some b))] : List Value), mapC b strV (Value.int .i64) M0, cellC q 46 ([(.slice a0 L0.length c0)] : List Value), rowC 61 2 (.slice a0 L0.length c0) L0.length (L0.flatMap encO), restC w (sepC (bothL r b M0 q a0 c0 L0)).fp] w := Sat.start (bothL r b M0 q a0 c0 L0) hB
  refine calls_fr Try.func17 rfl 102 rfl (Nat.le_of_ble_eq_true rfl) ?_
  refine w_seq ?_
  refine w_lit ?_
  refine wl_pure (wants0 rfl) (d := 6) (v := (.bool false)) rfl (by kernel_rfl) ?_
  refine w_nil ?_
  refine then_normal ?_
  refine w_seq ?_
  refine w_seq ?_
  refine w_lit ?_
  refine wl_pure (wants0 rfl) (d := 7) (v := (.int .i64 (0))) rfl (by kernel_rfl) ?_
  refine w_nil ?_
  refine then_normal ?_
  refine w_block ?_
  refine wp_round [6, 7, 8, 9, 10, 11, 12, 13, 14, 15, 16, 17, 18, 19, 20, 21, 22, 23, 24, 25, 26, 27, 28, 29, 30, 31, 32, 33, 34, 35, 36, 37, 38, 39, 40, 41, 42, 43, 44, 45, 46, 47, 48, 49, 50, 51, 52, 53, 54, 55, 56, 57, 58, 59, 60, 61, 62, 63, 64, 65, 66, 67, 68, 69, 70, 71, 72, 73, 74, 75, 76, 77, 78, 79, 80, 81, 82, 83, 84, 85, 86, 87, 88, 89, 90, 91, 92, 93, 94, 95, 96, 97, 98, 99, 100, 101] (fun F_ W_ m_ => ∃ (i : Nat) (M : RegL) (a : Option Addr) (c : Nat) (L : RegL), F_ 7 = (.int .i64 ((i : Int))) ∧ (i ≤ 40) ∧ (Short M) ∧ (M.Perm L) ∧ (SrtK L) ∧ Sat w [cellC r 52 ([(.map (some b))] : List Value), mapC b strV (Value.int .i64) M, cellC q 46 ([(.slice a L.length c)] : List Value), rowC 61 2 (.slice a L.length c) L.length (L.flatMap encO), restC w (sepC (bothL r b M0 q a0 c0 L0)).fp] W_ ∧ m_ = 41 - i) _ ⟨0, M0, a0, c0, L0, (show ((.int .i64 (0)) : Value) = _ by first | rfl | go_num), by omega, hM, hP0, hS0, H, rfl⟩ ?_
  rintro g1 w2 _ ⟨i, M, a, c, L, v4, hi, hSM, hP, hS, H3, rfl⟩
  refine wp_know 7 _ v4 ?_
  refine w_seq ?_
  refine w_seq ?_
  refine w_lit ?_
  refine wl_pure (wants0 rfl) (d := 16) (v := (.int .i64 ((i : Int)))) rfl (by kernel_rfl) ?_
  refine wl_pure (wants0 rfl) (d := 17) (v := (.slice va acts.length vc)) rfl (by kernel_rfl) ?_
  refine wl_pure (wants0 rfl) (d := 18) (v := (.int .i64 ((acts.length : Int)))) rfl (by kernel_rfl) ?_
  refine wl_pure (wants0 rfl) (d := 19) (v := (.bool (decide ((i : Int) < (acts.length : Int))))) rfl (by kernel_rfl) ?_
  refine wl_pure (wants0 rfl) (d := 20) (v := (.bool (decide ((i : Int) < (acts.length : Int))))) rfl (by kernel_rfl) ?_
  refine (bsplit (decide ((i : Int) < (acts.length : Int)))).elim (fun b6 => ?_) (fun b6 => ?_)
  · have g7 := of_decide_eq_true b6
    refine wl_know 20 (.bool true) (congrArg Value.bool b6) ?_
    have g8 := of_decide_eq_true b6
    refine wl_pure (wantsY 4 20 true rfl (by kernel_rfl) rfl (by kernel_rfl)) (d := 21) (v := (.int .i64 ((i : Int)))) rfl (by kernel_rfl) ?_
    refine wl_pure (wantsY 4 20 true rfl (by kernel_rfl) rfl (by kernel_rfl)) (d := 22) (v := (.bool (decide ((i : Int) < 40)))) rfl (by kernel_rfl) ?_
    refine wl_pure (wants0 rfl) (d := 23) (v := (.bool (decide ((i : Int) < 40)))) rfl (by kernel_rfl) ?_
    refine w_nil ?_
    refine then_normal ?_
    refine (bsplit (decide ((i : Int) < 40))).elim (fun b9 => ?_) (fun b9 => ?_)
    · have g10 := of_decide_eq_true b9
      refine wp_know 23 (.bool true) (congrArg Value.bool b9) ?_
      have g11 := of_decide_eq_true b9
      refine wp_ift rfl ?_
      refine w_skip ?_
      refine then_normal ?_
      refine w_seq ?_
      refine w_block ?_
      refine w_seq ?_
      refine w_lit ?_
      refine wl_pure (wants0 rfl) (d := 26) (v := (.slice va acts.length vc)) rfl (by kernel_rfl) ?_
      refine wl_pure (wants0 rfl) (d := 27) (v := (.int .i64 ((i : Int)))) rfl (by kernel_rfl) ?_
      obtain ⟨g12, o13, c14, e15, R16⟩ := SliceOf.atD hacts act0 (show i < acts.length by omega)
      refine wl_pure (wants0 rfl) (d := 28) (v := (.pointer (some ⟨g12, o13 + ((i : Int)).toNat * 3, none⟩))) rfl (e_indexAddrW (E := 40) (by kernel_rfl) (by kernel_rfl) (Nat.le_of_ble_eq_true rfl) rfl e15 rfl (by omega) (by omega)) ?_
      refine wl_pure (wants0 rfl) (d := 29) (v := (.agg ⟨([(.int .i64 ((acts.getD i act0).d)), (.int .i64 ((acts.getD i act0).c)), (strV ((acts.getD i act0).s))] : List Value)⟩)) rfl (e_loadRun (vs := ([(.int .i64 ((acts.getD i act0).d)), (.int .i64 ((acts.getD i act0).c)), (strV ((acts.getD i act0).s))] : List Value)) rfl (by kernel_rfl) (by kernel_rfl) (Nat.le_of_ble_eq_true (by kernel_rfl)) (H3.runR 4 rfl (cells_run R16 0 (by kernel_rfl) (show o13 + ((i : Int)).toNat * 3 = o13 + i * 3 + 0 by omega)) (hva (by omega) _ (slice_addr e15)))) ?_
      refine wl_do (wants0 rfl) (fun K17 hK17 => ?_)
      refine d_alloc (zs := ([(.int .i64 (0)), (.int .i64 (0)), (strV ([] : List UInt8))] : List Value)) (z := (.agg ⟨([(.int .i64 (0)), (.int .i64 (0)), (strV ([] : List UInt8))] : List Value)⟩)) rfl H3 (by kernel_rfl) (by kernel_rfl) ?_
      intro b18 w19 (H20 : Sat w [cellC r 52 ([(.map (some b))] : List Value), mapC b strV (Value.int .i64) M, cellC q 46 ([(.slice a L.length c)] : List Value), rowC 61 2 (.slice a L.length c) L.length (L.flatMap encO), restC w (sepC (bothL r b M0 q a0 c0 L0)).fp, cellC b18 40 ([(.int .i64 (0)), (.int .i64 (0)), (strV ([] : List UInt8))] : List Value)] w19)
      refine hK17 _ _ ?_
      clear hK17 K17
      refine wl_do (wants0 rfl) (fun K21 hK21 => ?_)
      refine d_store (vs := ([(.int .i64 ((acts.getD i act0).d)), (.int .i64 ((acts.getD i act0).c)), (strV ((acts.getD i act0).s))] : List Value)) rfl H20 5 rfl rfl rfl rfl (by kernel_rfl) (Nat.le_of_ble_eq_true (by kernel_rfl)) (Nat.le_of_ble_eq_true (by kernel_rfl)) (by kernel_rfl) ?_
      intro w22 (H23 : Sat w [cellC r 52 ([(.map (some b))] : List Value), mapC b strV (Value.int .i64) M, cellC q 46 ([(.slice a L.length c)] : List Value), rowC 61 2 (.slice a L.length c) L.length (L.flatMap encO), restC w (sepC (bothL r b M0 q a0 c0 L0)).fp, cellC b18 40 ([(.int .i64 ((acts.getD i act0).d)), (.int .i64 ((acts.getD i act0).c)), (strV ((acts.getD i act0).s))] : List Value)] w22)
      refine hK21 _ _ ?_
      clear hK21 K21
      refine w_nil ?_
      refine then_normal ?_
      refine w_seq ?_
      refine w_lit ?_
      refine wl_pure (wants0 rfl) (d := 30) (v := (.agg ⟨([(.int .i64 ((acts.getD i act0).d)), (.int .i64 ((acts.getD i act0).c)), (strV ((acts.getD i act0).s))] : List Value)⟩)) rfl (e_loadN (vs := ([(.int .i64 ((acts.getD i act0).d)), (.int .i64 ((acts.getD i act0).c)), (strV ((acts.getD i act0).s))] : List Value)) rfl (by kernel_rfl) (by kernel_rfl) (by exact Nat.le_of_ble_eq_true (by kernel_rfl)) (H23.at 5 rfl) (by kernel_rfl)) ?_
      refine wl_do (wants0 rfl) (fun K25 hK25 => ?_)
      refine d_call (d := 31) rfl (by kernel_rfl) (item_any w22 ((acts.getD i act0).d) ((acts.getD i act0).c) ((acts.getD i act0).s) (hact _ (by omega))) ?_
      rintro _ w26 ⟨rfl, u28⟩
      have H27 := H23.keepU u28
      refine ⟨_, rfl, ?_⟩
      refine hK25 _ _ ?_
      clear hK25 K25
      refine wl_pure (wants0 rfl) (d := 9) (v := (strV (itemV ((acts.getD i act0).d) ((acts.getD i act0).s)))) rfl (by kernel_rfl) ?_
      refine w_nil ?_
      refine then_normal ?_
      refine w_seq ?_
      refine w_lit ?_
      refine wl_pure (wants0 rfl) (d := 32) (v := (.pointer (some ⟨b18, 1, none⟩))) rfl (by kernel_rfl) ?_
      refine wl_pure (wants0 rfl) (d := 33) (v := (.int .i64 ((acts.getD i act0).c))) rfl (e_load1 rfl (by kernel_rfl) (H27.cell 5 rfl rfl)) ?_
      refine wl_pure (wants0 rfl) (d := 10) (v := (.int .i64 ((acts.getD i act0).c))) rfl (by kernel_rfl) ?_
      refine w_nil ?_
      refine then_normal ?_
      refine w_seq ?_
      refine w_seq ?_
      refine w_lit ?_
      refine wl_pure (wants0 rfl) (d := 34) (v := (.int .i64 ((acts.getD i act0).c))) rfl (by kernel_rfl) ?_
      refine wl_pure (wants0 rfl) (d := 35) (v := (.int .i64 (Int.tmod ((acts.getD i act0).c) 5))) rfl (e_tmod (by kernel_rfl) (by omega)) ?_
      refine wl_pure (wants0 rfl) (d := 36) (v := (.bool (!(decide ((Int.tmod ((acts.getD i act0).c) 5) = 4))))) rfl (by kernel_rfl) ?_
      refine w_nil ?_
      refine then_normal ?_
      refine (bsplit (!(decide ((Int.tmod ((acts.getD i act0).c) 5) = 4)))).elim (fun b29 => ?_) (fun b29 => ?_)
      · have g30 := bnot_true b29
        have g31 := of_decide_eq_false g30
        refine wp_know 36 (.bool true) (congrArg Value.bool b29) ?_
        have g32 := bnot_true b29
        have g33 := of_decide_eq_false g32
        refine wp_ift rfl ?_
        refine w_lit ?_
        refine wl_pure (wants0 rfl) (d := 37) (v := (.int .i64 ((acts.getD i act0).c))) rfl (by kernel_rfl) ?_
        refine wl_do (wants0 rfl) (fun K34 hK34 => ?_)
        refine d_call (d := 38) rfl (by kernel_rfl) (within_any w26 ((acts.getD i act0).c) 4 (by omega)) ?_
        rintro _ w35 ⟨rfl, u37⟩
        have H36 := H27.keepU u37
        refine ⟨_, rfl, ?_⟩
        refine hK34 _ _ ?_
        clear hK34 K34
        refine wl_pure (wants0 rfl) (d := 10) (v := (.int .i64 (withinV ((acts.getD i act0).c) 4))) rfl (by kernel_rfl) ?_
        refine w_nil ?_
        refine then_normal ?_
        refine w_seq ?_
        refine w_lit ?_
        refine wl_pure (wants0 rfl) (d := 11) (v := (.bool true)) rfl (by kernel_rfl) ?_
        refine w_nil ?_
        refine then_normal ?_
        refine w_seq ?_
        refine w_seq ?_
        refine w_lit ?_
        refine wl_pure (wants0 rfl) (d := 39) (v := (.pointer (some ⟨b18, 0, none⟩))) rfl (by kernel_rfl) ?_
        refine wl_pure (wants0 rfl) (d := 40) (v := (.int .i64 ((acts.getD i act0).d))) rfl (e_load1 rfl (by kernel_rfl) (H36.cell 5 rfl rfl)) ?_
        refine wl_do (wants0 rfl) (fun K38 hK38 => ?_)
        refine d_call (d := 41) rfl (by kernel_rfl) (within_any w35 ((acts.getD i act0).d) 3 (by omega)) ?_
        rintro _ w39 ⟨rfl, u41⟩
        have H40 := H36.keepU u41
        refine ⟨_, rfl, ?_⟩
        refine hK38 _ _ ?_
        clear hK38 K38
        refine wl_pure (wants0 rfl) (d := 42) (v := (.bool (decide ((withinV ((acts.getD i act0).d) 3) = 2)))) rfl (by kernel_rfl) ?_
        refine w_nil ?_
        refine then_normal ?_
        refine (bsplit (decide ((withinV ((acts.getD i act0).d) 3) = 2))).elim (fun b42 => ?_) (fun b42 => ?_)
        · have g43 := of_decide_eq_true b42
          refine wp_know 42 (.bool true) (congrArg Value.bool b42) ?_
          have g44 := of_decide_eq_true b42
          refine wp_ift rfl ?_
          refine w_lit ?_
          refine wl_pure (wants0 rfl) (d := 43) (v := (.pointer (some ⟨r, 0, none⟩))) rfl (by kernel_rfl) ?_
          refine wl_pure (wants0 rfl) (d := 44) (v := (strV (itemV ((acts.getD i act0).d) ((acts.getD i act0).s)))) rfl (by kernel_rfl) ?_
          refine wl_pure (wants0 rfl) (d := 45) (v := (.int .i64 (withinV ((acts.getD i act0).c) 4))) rfl (by kernel_rfl) ?_
          refine wl_do (wants0 rfl) (fun K45 hK45 => ?_)
          refine d_call (d := 46) rfl (by kernel_rfl) (release_any w39 r b M (H40.fin [0, 1] (by decide) rfl) hSM (itemV ((acts.getD i act0).d) ((acts.getD i act0).s)) (by have q := itemV_len (acts.getD i act0).d (acts.getD i act0).s; omega) (withinV ((acts.getD i act0).c) 4)) ?_
          rintro _ w46 ⟨rfl, T47⟩
          have H49 : Sat w [cellC r 52 ([(.map (some b))] : List Value), mapC b strV (Value.int .i64) (relL M (itemV ((acts.getD i act0).d) ((acts.getD i act0).s)) (withinV ((acts.getD i act0).c) 4)), cellC q 46 ([(.slice a L.length c)] : List Value), rowC 61 2 (.slice a L.length c) L.length (L.flatMap encO), restC w (sepC (bothL r b M0 q a0 c0 L0)).fp, cellC b18 40 ([(.int .i64 ((acts.getD i act0).d)), (.int .i64 ((acts.getD i act0).c)), (strV ((acts.getD i act0).s))] : List Value)] w46 := (Sat.turnL (L' := [cellC r 52 ([(.map (some b))] : List Value), mapC b strV (Value.int .i64) (relL M (itemV ((acts.getD i act0).d) ((acts.getD i act0).s)) (withinV ((acts.getD i act0).c) 4))]) (R := [cellC q 46 ([(.slice a L.length c)] : List Value), rowC 61 2 (.slice a L.length c) L.length (L.flatMap encO), restC w (sepC (bothL r b M0 q a0 c0 L0)).fp, cellC b18 40 ([(.int .i64 ((acts.getD i act0).d)), (.int .i64 ((acts.getD i act0).c)), (strV ((acts.getD i act0).s))] : List Value)]) H40 [0, 1] [2, 3, 4, 5] (by decide) (by kernel_rfl) rfl T47).pick [0, 1, 2, 3, 4, 5] (by decide)
          refine ⟨_, rfl, ?_⟩
          refine hK45 _ _ ?_
          clear hK45 K45
          refine wl_pure (wants0 rfl) (d := 47) (v := (.pointer (some ⟨q, 0, none⟩))) rfl (by kernel_rfl) ?_
          refine wl_pure (wants0 rfl) (d := 48) (v := (strV (itemV ((acts.getD i act0).d) ((acts.getD i act0).s)))) rfl (by kernel_rfl) ?_
          refine wl_pure (wants0 rfl) (d := 49) (v := (.int .i64 (withinV ((acts.getD i act0).c) 4))) rfl (by kernel_rfl) ?_
          refine wl_do (wants0 rfl) (fun K50 hK50 => ?_)
          refine d_call (d := 50) rfl (by kernel_rfl) (rRelease_any w46 q a c L (H49.fin [2, 3] (by decide) rfl) (by have q1 := hP.length_eq; have q2 := hSM.1; omega) hS (itemV ((acts.getD i act0).d) ((acts.getD i act0).s)) (by have q := itemV_len (acts.getD i act0).d (acts.getD i act0).s; omega) (withinV ((acts.getD i act0).c) 4)) ?_
          rintro _ w51 ⟨a53, c54, L55, rfl, T52, s56, p57⟩
          have H58 : Sat w [cellC r 52 ([(.map (some b))] : List Value), mapC b strV (Value.int .i64) (relL M (itemV ((acts.getD i act0).d) ((acts.getD i act0).s)) (withinV ((acts.getD i act0).c) 4)), cellC q 46 ([(.slice a53 L55.length c54)] : List Value), rowC 61 2 (.slice a53 L55.length c54) L55.length (L55.flatMap encO), restC w (sepC (bothL r b M0 q a0 c0 L0)).fp, cellC b18 40 ([(.int .i64 ((acts.getD i act0).d)), (.int .i64 ((acts.getD i act0).c)), (strV ((acts.getD i act0).s))] : List Value)] w51 := (Sat.turnL (L' := [cellC q 46 ([(.slice a53 L55.length c54)] : List Value), rowC 61 2 (.slice a53 L55.length c54) L55.length (L55.flatMap encO)]) (R := [cellC r 52 ([(.map (some b))] : List Value), mapC b strV (Value.int .i64) (relL M (itemV ((acts.getD i act0).d) ((acts.getD i act0).s)) (withinV ((acts.getD i act0).c) 4)), restC w (sepC (bothL r b M0 q a0 c0 L0)).fp, cellC b18 40 ([(.int .i64 ((acts.getD i act0).d)), (.int .i64 ((acts.getD i act0).c)), (strV ((acts.getD i act0).s))] : List Value)]) H49 [2, 3] [0, 1, 4, 5] (by decide) (by kernel_rfl) rfl T52).pick [2, 3, 0, 1, 4, 5] (by decide)
          have P59 : (relL M (itemV ((acts.getD i act0).d) ((acts.getD i act0).s)) (withinV ((acts.getD i act0).c) 4)).Perm L55 := (relL_perm hP hS).trans p57.symm
          refine ⟨_, rfl, ?_⟩
          refine hK50 _ _ ?_
          clear hK50 K50
          refine wl_pure (wants0 rfl) (d := 51) (v := (.bool (decide ((relE M (itemV ((acts.getD i act0).d) ((acts.getD i act0).s)) (withinV ((acts.getD i act0).c) 4)) = (relE L (itemV ((acts.getD i act0).d) ((acts.getD i act0).s)) (withinV ((acts.getD i act0).c) 4)))))) rfl (by kernel_rfl) ?_
          refine wl_pure (wants0 rfl) (d := 11) (v := (.bool (decide ((relE M (itemV ((acts.getD i act0).d) ((acts.getD i act0).s)) (withinV ((acts.getD i act0).c) 4)) = (relE L (itemV ((acts.getD i act0).d) ((acts.getD i act0).s)) (withinV ((acts.getD i act0).c) 4)))))) rfl (by kernel_rfl) ?_
          refine w_nil ?_
          refine then_normal ?_
          refine w_seq ?_
          refine wp_know 11 (.bool true) (show ((.bool (decide ((relE M (itemV ((acts.getD i act0).d) ((acts.getD i act0).s)) (withinV ((acts.getD i act0).c) 4)) = (relE L (itemV ((acts.getD i act0).d) ((acts.getD i act0).s)) (withinV ((acts.getD i act0).c) 4))))) : Value) = _ by rw [relE_perm hP hS, decide_eq_true rfl]) ?_
          have hlk := fun s => lookM_perm (s := s) P59 s56
          have hct := fun d => cnt_perm (c := d) P59
          have hso := sortK_perm P59 s56
          have hln := sortK_len ((relL M (itemV ((acts.getD i act0).d) ((acts.getD i act0).s)) (withinV ((acts.getD i act0).c) 4)) : RegL)
          have hsh := ((Short.rel hSM (itemV ((acts.getD i act0).d) ((acts.getD i act0).s)) (withinV ((acts.getD i act0).c) 4))).1
          refine w_lit ?_
          refine wl_pure (wants0 rfl) (d := 62) (v := (.pointer (some ⟨r, 0, none⟩))) rfl (by kernel_rfl) ?_
          refine wl_pure (wants0 rfl) (d := 63) (v := (strV (itemV ((acts.getD i act0).d) ((acts.getD i act0).s)))) rfl (by kernel_rfl) ?_
          refine wl_do (wants0 rfl) (fun K60 hK60 => ?_)
          refine d_call (d := 64) rfl (by kernel_rfl) (owner_any w51 r b (relL M (itemV ((acts.getD i act0).d) ((acts.getD i act0).s)) (withinV ((acts.getD i act0).c) 4)) (H58.fin [0, 1] (by decide) rfl) (itemV ((acts.getD i act0).d) ((acts.getD i act0).s))) ?_
          rintro _ w61 ⟨rfl, u63⟩
          have H62 := H58.keepU u63
          refine ⟨_, rfl, ?_⟩
          refine hK60 _ _ ?_
          clear hK60 K60
          refine wl_pure (wants0 rfl) (d := 61) (v := (.tuple #[(.int .i64 ((lookM (relL M (itemV ((acts.getD i act0).d) ((acts.getD i act0).s)) (withinV ((acts.getD i act0).c) 4)) (itemV ((acts.getD i act0).d) ((acts.getD i act0).s))).getD 0)), (.bool ((lookM (relL M (itemV ((acts.getD i act0).d) ((acts.getD i act0).s)) (withinV ((acts.getD i act0).c) 4)) (itemV ((acts.getD i act0).d) ((acts.getD i act0).s))).isSome))])) rfl (by kernel_rfl) ?_
          refine wl_pure (wants0 rfl) (d := 65) (v := (.int .i64 ((lookM (relL M (itemV ((acts.getD i act0).d) ((acts.getD i act0).s)) (withinV ((acts.getD i act0).c) 4)) (itemV ((acts.getD i act0).d) ((acts.getD i act0).s))).getD 0))) rfl (by kernel_rfl) ?_
          refine wl_pure (wants0 rfl) (d := 66) (v := (.bool ((lookM (relL M (itemV ((acts.getD i act0).d) ((acts.getD i act0).s)) (withinV ((acts.getD i act0).c) 4)) (itemV ((acts.getD i act0).d) ((acts.getD i act0).s))).isSome))) rfl (by kernel_rfl) ?_
          refine wl_pure (wants0 rfl) (d := 12) (v := (.int .i64 ((lookM (relL M (itemV ((acts.getD i act0).d) ((acts.getD i act0).s)) (withinV ((acts.getD i act0).c) 4)) (itemV ((acts.getD i act0).d) ((acts.getD i act0).s))).getD 0))) rfl (by kernel_rfl) ?_
          refine wl_pure (wants0 rfl) (d := 13) (v := (.bool ((lookM (relL M (itemV ((acts.getD i act0).d) ((acts.getD i act0).s)) (withinV ((acts.getD i act0).c) 4)) (itemV ((acts.getD i act0).d) ((acts.getD i act0).s))).isSome))) rfl (by kernel_rfl) ?_
          refine w_nil ?_
          refine then_normal ?_
          refine w_seq ?_
          refine w_lit ?_
          refine wl_pure (wants0 rfl) (d := 68) (v := (.pointer (some ⟨q, 0, none⟩))) rfl (by kernel_rfl) ?_
          refine wl_pure (wants0 rfl) (d := 69) (v := (strV (itemV ((acts.getD i act0).d) ((acts.getD i act0).s)))) rfl (by kernel_rfl) ?_
          refine wl_do (wants0 rfl) (fun K64 hK64 => ?_)
          refine d_call (d := 70) rfl (by kernel_rfl) (rOwner_any w61 q a53 c54 L55 (H62.fin [2, 3] (by decide) rfl) (by have q1 := P59.length_eq; have q2 := ((Short.rel hSM (itemV ((acts.getD i act0).d) ((acts.getD i act0).s)) (withinV ((acts.getD i act0).c) 4))).1; omega) (itemV ((acts.getD i act0).d) ((acts.getD i act0).s))) ?_
          rintro _ w65 ⟨rfl, T66⟩
          have H67 : Sat w [cellC r 52 ([(.map (some b))] : List Value), mapC b strV (Value.int .i64) (relL M (itemV ((acts.getD i act0).d) ((acts.getD i act0).s)) (withinV ((acts.getD i act0).c) 4)), cellC q 46 ([(.slice a53 L55.length c54)] : List Value), rowC 61 2 (.slice a53 L55.length c54) L55.length (L55.flatMap encO), restC w (sepC (bothL r b M0 q a0 c0 L0)).fp, cellC b18 40 ([(.int .i64 ((acts.getD i act0).d)), (.int .i64 ((acts.getD i act0).c)), (strV ((acts.getD i act0).s))] : List Value)] w65 := (Sat.turnL (L' := [cellC q 46 ([(.slice a53 L55.length c54)] : List Value), rowC 61 2 (.slice a53 L55.length c54) L55.length (L55.flatMap encO)]) (R := [cellC r 52 ([(.map (some b))] : List Value), mapC b strV (Value.int .i64) (relL M (itemV ((acts.getD i act0).d) ((acts.getD i act0).s)) (withinV ((acts.getD i act0).c) 4)), restC w (sepC (bothL r b M0 q a0 c0 L0)).fp, cellC b18 40 ([(.int .i64 ((acts.getD i act0).d)), (.int .i64 ((acts.getD i act0).c)), (strV ((acts.getD i act0).s))] : List Value)]) H62 [2, 3] [0, 1, 4, 5] (by decide) (by kernel_rfl) rfl T66).pick [2, 3, 0, 1, 4, 5] (by decide)
          refine ⟨_, rfl, ?_⟩
          refine hK64 _ _ ?_
          clear hK64 K64
          refine wl_pure (wants0 rfl) (d := 67) (v := (.tuple #[(.int .i64 ((lookM L55 (itemV ((acts.getD i act0).d) ((acts.getD i act0).s))).getD 0)), (.bool ((lookM L55 (itemV ((acts.getD i act0).d) ((acts.getD i act0).s))).isSome))])) rfl (by kernel_rfl) ?_
          refine wl_pure (wants0 rfl) (d := 71) (v := (.int .i64 ((lookM L55 (itemV ((acts.getD i act0).d) ((acts.getD i act0).s))).getD 0))) rfl (by kernel_rfl) ?_
          refine wl_pure (wants0 rfl) (d := 72) (v := (.bool ((lookM L55 (itemV ((acts.getD i act0).d) ((acts.getD i act0).s))).isSome))) rfl (by kernel_rfl) ?_
          refine wl_pure (wants0 rfl) (d := 14) (v := (.int .i64 ((lookM L55 (itemV ((acts.getD i act0).d) ((acts.getD i act0).s))).getD 0))) rfl (by kernel_rfl) ?_
          refine wl_pure (wants0 rfl) (d := 15) (v := (.bool ((lookM L55 (itemV ((acts.getD i act0).d) ((acts.getD i act0).s))).isSome))) rfl (by kernel_rfl) ?_
          refine w_nil ?_
          refine then_normal ?_
          refine w_seq ?_
          refine w_lit ?_
          refine wl_pure (wants0 rfl) (d := 73) (v := (.bool true)) rfl (by kernel_rfl) ?_
          refine wl_pure (wants0 rfl) (d := 74) (v := (.bool false)) rfl (by kernel_rfl) ?_
          refine wl_pure (wants0 rfl) (d := 75) (v := (.bool false)) rfl (by kernel_rfl) ?_
          refine wl_pure (wantsY 2 75 false rfl (by kernel_rfl) rfl (by kernel_rfl)) (d := 76) (v := (.int .i64 ((lookM (relL M (itemV ((acts.getD i act0).d) ((acts.getD i act0).s)) (withinV ((acts.getD i act0).c) 4)) (itemV ((acts.getD i act0).d) ((acts.getD i act0).s))).getD 0))) rfl (by kernel_rfl) ?_
          refine wl_pure (wantsY 2 75 false rfl (by kernel_rfl) rfl (by kernel_rfl)) (d := 77) (v := (.int .i64 ((lookM L55 (itemV ((acts.getD i act0).d) ((acts.getD i act0).s))).getD 0))) rfl (by kernel_rfl) ?_
          refine wl_pure (wantsY 2 75 false rfl (by kernel_rfl) rfl (by kernel_rfl)) (d := 78) (v := (.bool (!(decide (((lookM (relL M (itemV ((acts.getD i act0).d) ((acts.getD i act0).s)) (withinV ((acts.getD i act0).c) 4)) (itemV ((acts.getD i act0).d) ((acts.getD i act0).s))).getD 0) = ((lookM L55 (itemV ((acts.getD i act0).d) ((acts.getD i act0).s))).getD 0)))))) rfl (by kernel_rfl) ?_
          refine wl_pure (wants0 rfl) (d := 79) (v := (.bool (!(decide (((lookM (relL M (itemV ((acts.getD i act0).d) ((acts.getD i act0).s)) (withinV ((acts.getD i act0).c) 4)) (itemV ((acts.getD i act0).d) ((acts.getD i act0).s))).getD 0) = ((lookM L55 (itemV ((acts.getD i act0).d) ((acts.getD i act0).s))).getD 0)))))) rfl (by kernel_rfl) ?_
          refine wl_pure (wants0 rfl) (d := 80) (v := (.bool (!(decide (((lookM (relL M (itemV ((acts.getD i act0).d) ((acts.getD i act0).s)) (withinV ((acts.getD i act0).c) 4)) (itemV ((acts.getD i act0).d) ((acts.getD i act0).s))).getD 0) = ((lookM L55 (itemV ((acts.getD i act0).d) ((acts.getD i act0).s))).getD 0)))))) rfl (by kernel_rfl) ?_
          have b68 : (!(decide (((lookM (relL M (itemV ((acts.getD i act0).d) ((acts.getD i act0).s)) (withinV ((acts.getD i act0).c) 4)) (itemV ((acts.getD i act0).d) ((acts.getD i act0).s))).getD 0) = ((lookM L55 (itemV ((acts.getD i act0).d) ((acts.getD i act0).s))).getD 0)))) = false := by rw [hlk, decide_eq_true rfl]; rfl
          refine wl_know 80 (.bool false) (congrArg Value.bool b68) ?_
          have g69 := bnot_false b68
          have g70 := of_decide_eq_true g69
          refine wl_pure (wantsY 7 80 false rfl (by kernel_rfl) rfl (by kernel_rfl)) (d := 81) (v := (.bool ((lookM (relL M (itemV ((acts.getD i act0).d) ((acts.getD i act0).s)) (withinV ((acts.getD i act0).c) 4)) (itemV ((acts.getD i act0).d) ((acts.getD i act0).s))).isSome))) rfl (by kernel_rfl) ?_
          refine wl_pure (wantsY 7 80 false rfl (by kernel_rfl) rfl (by kernel_rfl)) (d := 82) (v := (.bool ((lookM L55 (itemV ((acts.getD i act0).d) ((acts.getD i act0).s))).isSome))) rfl (by kernel_rfl) ?_
          refine wl_pure (wantsY 7 80 false rfl (by kernel_rfl) rfl (by kernel_rfl)) (d := 83) (v := (.bool (!(((lookM (relL M (itemV ((acts.getD i act0).d) ((acts.getD i act0).s)) (withinV ((acts.getD i act0).c) 4)) (itemV ((acts.getD i act0).d) ((acts.getD i act0).s))).isSome) == ((lookM L55 (itemV ((acts.getD i act0).d) ((acts.getD i act0).s))).isSome))))) rfl (by kernel_rfl) ?_
          refine wl_pure (wants0 rfl) (d := 84) (v := (.bool (!(((lookM (relL M (itemV ((acts.getD i act0).d) ((acts.getD i act0).s)) (withinV ((acts.getD i act0).c) 4)) (itemV ((acts.getD i act0).d) ((acts.getD i act0).s))).isSome) == ((lookM L55 (itemV ((acts.getD i act0).d) ((acts.getD i act0).s))).isSome))))) rfl (by kernel_rfl) ?_
          refine wl_pure (wants0 rfl) (d := 85) (v := (.bool (!(((lookM (relL M (itemV ((acts.getD i act0).d) ((acts.getD i act0).s)) (withinV ((acts.getD i act0).c) 4)) (itemV ((acts.getD i act0).d) ((acts.getD i act0).s))).isSome) == ((lookM L55 (itemV ((acts.getD i act0).d) ((acts.getD i act0).s))).isSome))))) rfl (by kernel_rfl) ?_
          have b71 : (!(((lookM (relL M (itemV ((acts.getD i act0).d) ((acts.getD i act0).s)) (withinV ((acts.getD i act0).c) 4)) (itemV ((acts.getD i act0).d) ((acts.getD i act0).s))).isSome) == ((lookM L55 (itemV ((acts.getD i act0).d) ((acts.getD i act0).s))).isSome))) = false := by rw [hlk]; simp
          refine wl_know 85 (.bool false) (congrArg Value.bool b71) ?_
          have g72 := bnot_false b71
          refine wl_pure (wantsY 12 85 false rfl (by kernel_rfl) rfl (by kernel_rfl)) (d := 86) (v := (.pointer (some ⟨r, 0, none⟩))) rfl (by kernel_rfl) ?_
          refine wl_do (wantsY 12 85 false rfl (by kernel_rfl) rfl (by kernel_rfl)) (fun K73 hK73 => ?_)
          refine d_call (d := 87) rfl (by kernel_rfl) (items_any w65 r b (relL M (itemV ((acts.getD i act0).d) ((acts.getD i act0).s)) (withinV ((acts.getD i act0).c) 4)) (H67.fin [0, 1] (by decide) rfl) (Short.rel hSM (itemV ((acts.getD i act0).d) ((acts.getD i act0).s)) (withinV ((acts.getD i act0).c) 4))) ?_
          rintro _ w74 ⟨u75, rfl, k76, p77, q78⟩
          have H79 : Sat w [cellC r 52 ([(.map (some b))] : List Value), mapC b strV (Value.int .i64) (relL M (itemV ((acts.getD i act0).d) ((acts.getD i act0).s)) (withinV ((acts.getD i act0).c) 4)), cellC q 46 ([(.slice a53 L55.length c54)] : List Value), rowC 61 2 (.slice a53 L55.length c54) L55.length (L55.flatMap encO), restC w (sepC (bothL r b M0 q a0 c0 L0)).fp, cellC b18 40 ([(.int .i64 ((acts.getD i act0).d)), (.int .i64 ((acts.getD i act0).c)), (strV ((acts.getD i act0).s))] : List Value), rowC 9 1 u75 ((sortK ((relL M (itemV ((acts.getD i act0).d) ((acts.getD i act0).s)) (withinV ((acts.getD i act0).c) 4)) : RegL)).length) ((sortK ((relL M (itemV ((acts.getD i act0).d) ((acts.getD i act0).s)) (withinV ((acts.getD i act0).c) 4)) : RegL)).flatMap encS)] w74 := H67.addU p77 k76 q78
          obtain ⟨a80, c81, rfl⟩ := ownsRow_shape (H79.at 6 rfl)
          refine ⟨_, rfl, ?_⟩
          refine hK73 _ _ ?_
          clear hK73 K73
          refine wl_pure (wantsY 12 85 false rfl (by kernel_rfl) rfl (by kernel_rfl)) (d := 88) (v := (.pointer (some ⟨q, 0, none⟩))) rfl (by kernel_rfl) ?_
          refine wl_do (wantsY 12 85 false rfl (by kernel_rfl) rfl (by kernel_rfl)) (fun K82 hK82 => ?_)
          refine d_call (d := 89) rfl (by kernel_rfl) (rItems_any w74 q a53 c54 L55 (H79.fin [2, 3] (by decide) rfl) (by have q1 := P59.length_eq; have q2 := ((Short.rel hSM (itemV ((acts.getD i act0).d) ((acts.getD i act0).s)) (withinV ((acts.getD i act0).c) 4))).1; omega)) ?_
          rintro _ w83 ⟨u85, rfl, T84⟩
          have H88 : Sat w [cellC r 52 ([(.map (some b))] : List Value), mapC b strV (Value.int .i64) (relL M (itemV ((acts.getD i act0).d) ((acts.getD i act0).s)) (withinV ((acts.getD i act0).c) 4)), cellC q 46 ([(.slice a53 L55.length c54)] : List Value), rowC 61 2 (.slice a53 L55.length c54) L55.length (L55.flatMap encO), restC w (sepC (bothL r b M0 q a0 c0 L0)).fp, cellC b18 40 ([(.int .i64 ((acts.getD i act0).d)), (.int .i64 ((acts.getD i act0).c)), (strV ((acts.getD i act0).s))] : List Value), rowC 9 1 (.slice a80 ((sortK ((relL M (itemV ((acts.getD i act0).d) ((acts.getD i act0).s)) (withinV ((acts.getD i act0).c) 4)) : RegL)).length) c81) ((sortK ((relL M (itemV ((acts.getD i act0).d) ((acts.getD i act0).s)) (withinV ((acts.getD i act0).c) 4)) : RegL)).length) ((sortK ((relL M (itemV ((acts.getD i act0).d) ((acts.getD i act0).s)) (withinV ((acts.getD i act0).c) 4)) : RegL)).flatMap encS), rowC 9 1 u85 ((L55.map (fun (x : List UInt8 × Int) => x.1)).length) ((L55.map (fun (x : List UInt8 × Int) => x.1)).flatMap encS)] w83 := (Sat.turnL (L' := [cellC q 46 ([(.slice a53 L55.length c54)] : List Value), rowC 61 2 (.slice a53 L55.length c54) L55.length (L55.flatMap encO), rowC 9 1 u85 ((L55.map (fun (x : List UInt8 × Int) => x.1)).length) ((L55.map (fun (x : List UInt8 × Int) => x.1)).flatMap encS)]) (R := [cellC r 52 ([(.map (some b))] : List Value), mapC b strV (Value.int .i64) (relL M (itemV ((acts.getD i act0).d) ((acts.getD i act0).s)) (withinV ((acts.getD i act0).c) 4)), restC w (sepC (bothL r b M0 q a0 c0 L0)).fp, cellC b18 40 ([(.int .i64 ((acts.getD i act0).d)), (.int .i64 ((acts.getD i act0).c)), (strV ((acts.getD i act0).s))] : List Value), rowC 9 1 (.slice a80 ((sortK ((relL M (itemV ((acts.getD i act0).d) ((acts.getD i act0).s)) (withinV ((acts.getD i act0).c) 4)) : RegL)).length) c81) ((sortK ((relL M (itemV ((acts.getD i act0).d) ((acts.getD i act0).s)) (withinV ((acts.getD i act0).c) 4)) : RegL)).length) ((sortK ((relL M (itemV ((acts.getD i act0).d) ((acts.getD i act0).s)) (withinV ((acts.getD i act0).c) 4)) : RegL)).flatMap encS)]) H79 [2, 3] [0, 1, 4, 5, 6] (by decide) (by kernel_rfl) rfl T84).pick [3, 4, 0, 1, 5, 6, 7, 2] (by decide)
          obtain ⟨a86, c87, rfl⟩ := ownsRow_shape (H88.at 7 rfl)
          refine ⟨_, rfl, ?_⟩
          refine hK82 _ _ ?_
          clear hK82 K82
          refine wl_do (wantsY 12 85 false rfl (by kernel_rfl) rfl (by kernel_rfl)) (fun K89 hK89 => ?_)
          refine d_call (d := 90) rfl (by kernel_rfl) (sameS_any w83 (.slice a80 ((sortK ((relL M (itemV ((acts.getD i act0).d) ((acts.getD i act0).s)) (withinV ((acts.getD i act0).c) 4)) : RegL)).length) c81) (.slice a86 ((L55.map (fun (x : List UInt8 × Int) => x.1)).length) c87) (sortK ((relL M (itemV ((acts.getD i act0).d) ((acts.getD i act0).s)) (withinV ((acts.getD i act0).c) 4)) : RegL)) (L55.map (fun (x : List UInt8 × Int) => x.1)) (ListAt.row (enc := encS) (sz := 1) encS_len (by decide) (H88.at 6 rfl)) (ListAt.row (enc := encS) (sz := 1) encS_len (by decide) (H88.at 7 rfl)) (by omega)) ?_
          rintro _ w90 ⟨rfl, u92⟩
          have H91 := H88.keepU u92
          refine ⟨_, rfl, ?_⟩
          refine hK89 _ _ ?_
          clear hK89 K89
          refine wl_pure (wantsY 12 85 false rfl (by kernel_rfl) rfl (by kernel_rfl)) (d := 91) (v := (.bool (!(decide ((sortK ((relL M (itemV ((acts.getD i act0).d) ((acts.getD i act0).s)) (withinV ((acts.getD i act0).c) 4)) : RegL)) = (L55.map (fun (x : List UInt8 × Int) => x.1))))))) rfl (by kernel_rfl) ?_
          refine wl_pure (wants0 rfl) (d := 92) (v := (.bool (!(decide ((sortK ((relL M (itemV ((acts.getD i act0).d) ((acts.getD i act0).s)) (withinV ((acts.getD i act0).c) 4)) : RegL)) = (L55.map (fun (x : List UInt8 × Int) => x.1))))))) rfl (by kernel_rfl) ?_
          refine wl_pure (wants0 rfl) (d := 93) (v := (.bool (!(decide ((sortK ((relL M (itemV ((acts.getD i act0).d) ((acts.getD i act0).s)) (withinV ((acts.getD i act0).c) 4)) : RegL)) = (L55.map (fun (x : List UInt8 × Int) => x.1))))))) rfl (by kernel_rfl) ?_
          have b93 : (!(decide ((sortK ((relL M (itemV ((acts.getD i act0).d) ((acts.getD i act0).s)) (withinV ((acts.getD i act0).c) 4)) : RegL)) = (L55.map (fun (x : List UInt8 × Int) => x.1))))) = false := by rw [hso, decide_eq_true rfl]; rfl
          refine wl_know 93 (.bool false) (congrArg Value.bool b93) ?_
          have g94 := bnot_false b93
          refine wl_pure (wantsY 20 93 false rfl (by kernel_rfl) rfl (by kernel_rfl)) (d := 94) (v := (.pointer (some ⟨r, 0, none⟩))) rfl (by kernel_rfl) ?_
          refine wl_pure (wantsY 20 93 false rfl (by kernel_rfl) rfl (by kernel_rfl)) (d := 95) (v := (.int .i64 (withinV ((acts.getD i act0).c) 4))) rfl (by kernel_rfl) ?_
          refine wl_do (wantsY 20 93 false rfl (by kernel_rfl) rfl (by kernel_rfl)) (fun K95 hK95 => ?_)
          refine d_call (d := 96) rfl (by kernel_rfl) (count_any w90 r b (relL M (itemV ((acts.getD i act0).d) ((acts.getD i act0).s)) (withinV ((acts.getD i act0).c) 4)) (H91.fin [0, 1] (by decide) rfl) (Short.rel hSM (itemV ((acts.getD i act0).d) ((acts.getD i act0).s)) (withinV ((acts.getD i act0).c) 4)) (withinV ((acts.getD i act0).c) 4)) ?_
          rintro _ w96 ⟨rfl, u98⟩
          have H97 := H91.keepU u98
          refine ⟨_, rfl, ?_⟩
          refine hK95 _ _ ?_
          clear hK95 K95
          refine wl_pure (wantsY 20 93 false rfl (by kernel_rfl) rfl (by kernel_rfl)) (d := 97) (v := (.pointer (some ⟨q, 0, none⟩))) rfl (by kernel_rfl) ?_
          refine wl_pure (wantsY 20 93 false rfl (by kernel_rfl) rfl (by kernel_rfl)) (d := 98) (v := (.int .i64 (withinV ((acts.getD i act0).c) 4))) rfl (by kernel_rfl) ?_
          refine wl_do (wantsY 20 93 false rfl (by kernel_rfl) rfl (by kernel_rfl)) (fun K99 hK99 => ?_)
          refine d_call (d := 99) rfl (by kernel_rfl) (rCount_any w96 q a53 c54 L55 (H97.fin [2, 3] (by decide) rfl) (by have q1 := P59.length_eq; have q2 := ((Short.rel hSM (itemV ((acts.getD i act0).d) ((acts.getD i act0).s)) (withinV ((acts.getD i act0).c) 4))).1; omega) (withinV ((acts.getD i act0).c) 4)) ?_
          rintro _ w100 ⟨rfl, T101⟩
          have H102 : Sat w [cellC r 52 ([(.map (some b))] : List Value), mapC b strV (Value.int .i64) (relL M (itemV ((acts.getD i act0).d) ((acts.getD i act0).s)) (withinV ((acts.getD i act0).c) 4)), cellC q 46 ([(.slice a53 L55.length c54)] : List Value), rowC 61 2 (.slice a53 L55.length c54) L55.length (L55.flatMap encO), restC w (sepC (bothL r b M0 q a0 c0 L0)).fp, cellC b18 40 ([(.int .i64 ((acts.getD i act0).d)), (.int .i64 ((acts.getD i act0).c)), (strV ((acts.getD i act0).s))] : List Value), rowC 9 1 (.slice a80 ((sortK ((relL M (itemV ((acts.getD i act0).d) ((acts.getD i act0).s)) (withinV ((acts.getD i act0).c) 4)) : RegL)).length) c81) ((sortK ((relL M (itemV ((acts.getD i act0).d) ((acts.getD i act0).s)) (withinV ((acts.getD i act0).c) 4)) : RegL)).length) ((sortK ((relL M (itemV ((acts.getD i act0).d) ((acts.getD i act0).s)) (withinV ((acts.getD i act0).c) 4)) : RegL)).flatMap encS), rowC 9 1 (.slice a86 ((L55.map (fun (x : List UInt8 × Int) => x.1)).length) c87) ((L55.map (fun (x : List UInt8 × Int) => x.1)).length) ((L55.map (fun (x : List UInt8 × Int) => x.1)).flatMap encS)] w100 := (Sat.turnL (L' := [cellC q 46 ([(.slice a53 L55.length c54)] : List Value), rowC 61 2 (.slice a53 L55.length c54) L55.length (L55.flatMap encO)]) (R := [cellC r 52 ([(.map (some b))] : List Value), mapC b strV (Value.int .i64) (relL M (itemV ((acts.getD i act0).d) ((acts.getD i act0).s)) (withinV ((acts.getD i act0).c) 4)), restC w (sepC (bothL r b M0 q a0 c0 L0)).fp, cellC b18 40 ([(.int .i64 ((acts.getD i act0).d)), (.int .i64 ((acts.getD i act0).c)), (strV ((acts.getD i act0).s))] : List Value), rowC 9 1 (.slice a80 ((sortK ((relL M (itemV ((acts.getD i act0).d) ((acts.getD i act0).s)) (withinV ((acts.getD i act0).c) 4)) : RegL)).length) c81) ((sortK ((relL M (itemV ((acts.getD i act0).d) ((acts.getD i act0).s)) (withinV ((acts.getD i act0).c) 4)) : RegL)).length) ((sortK ((relL M (itemV ((acts.getD i act0).d) ((acts.getD i act0).s)) (withinV ((acts.getD i act0).c) 4)) : RegL)).flatMap encS), rowC 9 1 (.slice a86 ((L55.map (fun (x : List UInt8 × Int) => x.1)).length) c87) ((L55.map (fun (x : List UInt8 × Int) => x.1)).length) ((L55.map (fun (x : List UInt8 × Int) => x.1)).flatMap encS)]) H97 [2, 3] [0, 1, 4, 5, 6, 7] (by decide) (by kernel_rfl) rfl T101).pick [2, 3, 0, 1, 4, 5, 6, 7] (by decide)
          refine ⟨_, rfl, ?_⟩
          refine hK99 _ _ ?_
          clear hK99 K99
          refine wl_pure (wantsY 20 93 false rfl (by kernel_rfl) rfl (by kernel_rfl)) (d := 100) (v := (.bool (!(decide ((cntL (relL M (itemV ((acts.getD i act0).d) ((acts.getD i act0).s)) (withinV ((acts.getD i act0).c) 4)) (withinV ((acts.getD i act0).c) 4)) = (cntL L55 (withinV ((acts.getD i act0).c) 4))))))) rfl (by kernel_rfl) ?_
          refine wl_pure (wants0 rfl) (d := 101) (v := (.bool (!(decide ((cntL (relL M (itemV ((acts.getD i act0).d) ((acts.getD i act0).s)) (withinV ((acts.getD i act0).c) 4)) (withinV ((acts.getD i act0).c) 4)) = (cntL L55 (withinV ((acts.getD i act0).c) 4))))))) rfl (by kernel_rfl) ?_
          refine w_nil ?_
          refine then_normal ?_
          have b103 : (!(decide ((cntL (relL M (itemV ((acts.getD i act0).d) ((acts.getD i act0).s)) (withinV ((acts.getD i act0).c) 4)) (withinV ((acts.getD i act0).c) 4)) = (cntL L55 (withinV ((acts.getD i act0).c) 4))))) = false := by rw [hct, decide_eq_true rfl]; rfl
          refine wp_know 101 (.bool false) (congrArg Value.bool b103) ?_
          have g104 := bnot_false b103
          have g105 := of_decide_eq_true g104
          refine wp_iff rfl ?_
          refine w_skip ?_
          refine blk_normal ?_
          refine then_normal ?_
          refine w_lit ?_
          refine wl_pure (wants0 rfl) (d := 24) (v := (.int .i64 ((i : Int)))) rfl (by kernel_rfl) ?_
          refine wl_pure (wants0 rfl) (d := 25) (v := (.int .i64 ((i : Int) + 1))) rfl (e_int (z := (i : Int) + 1) (by kernel_rfl) (IntWalk.i64_in _ (by omega))) ?_
          refine wl_pure (wants0 rfl) (d := 7) (v := (.int .i64 ((i : Int) + 1))) rfl (by kernel_rfl) ?_
          refine w_nil ?_
          have H106 : Sat w [cellC r 52 ([(.map (some b))] : List Value), mapC b strV (Value.int .i64) (relL M (itemV ((acts.getD i act0).d) ((acts.getD i act0).s)) (withinV ((acts.getD i act0).c) 4)), cellC q 46 ([(.slice a53 L55.length c54)] : List Value), rowC 61 2 (.slice a53 L55.length c54) L55.length (L55.flatMap encO), restC w (sepC (bothL r b M0 q a0 c0 L0)).fp] w100 := H102.pick [0, 1, 2, 3, 4] (by decide)
          refine round_back ?_ _ ⟨(i + 1), (relL M (itemV ((acts.getD i act0).d) ((acts.getD i act0).s)) (withinV ((acts.getD i act0).c) 4)), a53, c54, L55, (show ((.int .i64 ((i : Int) + 1)) : Value) = _ by first | rfl | go_num), by omega, (Short.rel hSM (itemV ((acts.getD i act0).d) ((acts.getD i act0).s)) (withinV ((acts.getD i act0).c) 4)), P59, s56, H106, rfl⟩ (by omega)
          exact (same_upd rfl (same_upd rfl (same_upd rfl (same_upd rfl (same_upd rfl (same_upd rfl (same_upd rfl (same_upd rfl (same_upd rfl (same_upd rfl (same_upd rfl (same_upd rfl (same_upd rfl (same_upd rfl (same_upd rfl (same_upd rfl (same_upd rfl (same_upd rfl (same_upd rfl (same_upd rfl (same_upd rfl (same_upd rfl (same_upd rfl (same_upd rfl (same_upd rfl (same_upd rfl (same_upd rfl (same_upd rfl (same_upd rfl (same_upd rfl (same_upd rfl (same_upd rfl (same_upd rfl (same_upd rfl (same_upd rfl (same_upd rfl (same_upd rfl (same_upd rfl (same_upd rfl (same_upd rfl (same_upd rfl (same_upd rfl (same_upd rfl (same_upd rfl (same_upd rfl (same_upd rfl (same_upd rfl (same_upd rfl (same_upd rfl (same_upd rfl (same_upd rfl (same_upd rfl (same_upd rfl (same_upd rfl (same_upd rfl (same_upd rfl (same_upd rfl (same_upd rfl (same_upd rfl (same_upd rfl (same_upd rfl (same_upd rfl (same_upd rfl (same_upd rfl (same_upd rfl (same_upd rfl (same_upd rfl (same_upd rfl (same_upd rfl (same_upd rfl (same_upd rfl (same_upd rfl (same_upd rfl (same_upd rfl (same_upd rfl (same_upd rfl (same_upd rfl (same_upd rfl (same_upd rfl (same_upd rfl (same_upd rfl (same_upd rfl (same_upd rfl (same_upd rfl (same_upd rfl (same_upd rfl (same_upd rfl (same_upd rfl (same_upd rfl (same_upd rfl (same_upd rfl (same_upd rfl (same_upd rfl (same_upd rfl (same_upd rfl (same_upd rfl (same_upd rfl (same_upd rfl (same_ovr)))))))))))))))))))))))))))))))))))))))))))))))))))))))))))))))))))))))))))))))))))))))))))))))))))
        · have g107 := of_decide_eq_false b42
          refine wp_know 42 (.bool false) (congrArg Value.bool b42) ?_
          have g108 := of_decide_eq_false b42
          refine wp_iff rfl ?_
          refine w_lit ?_
          refine wl_pure (wants0 rfl) (d := 52) (v := (.pointer (some ⟨r, 0, none⟩))) rfl (by kernel_rfl) ?_
          refine wl_pure (wants0 rfl) (d := 53) (v := (strV (itemV ((acts.getD i act0).d) ((acts.getD i act0).s)))) rfl (by kernel_rfl) ?_
          refine wl_pure (wants0 rfl) (d := 54) (v := (.int .i64 (withinV ((acts.getD i act0).c) 4))) rfl (by kernel_rfl) ?_
          refine wl_do (wants0 rfl) (fun K109 hK109 => ?_)
          refine d_call (d := 55) rfl (by kernel_rfl) (reserve_any w39 r b M (H40.fin [0, 1] (by decide) rfl) hSM (itemV ((acts.getD i act0).d) ((acts.getD i act0).s)) (by have q := itemV_len (acts.getD i act0).d (acts.getD i act0).s; omega) (withinV ((acts.getD i act0).c) 4)) ?_
          rintro _ w110 ⟨rfl, T111⟩
          have H113 : Sat w [cellC r 52 ([(.map (some b))] : List Value), mapC b strV (Value.int .i64) (resL M (itemV ((acts.getD i act0).d) ((acts.getD i act0).s)) (withinV ((acts.getD i act0).c) 4)), cellC q 46 ([(.slice a L.length c)] : List Value), rowC 61 2 (.slice a L.length c) L.length (L.flatMap encO), restC w (sepC (bothL r b M0 q a0 c0 L0)).fp, cellC b18 40 ([(.int .i64 ((acts.getD i act0).d)), (.int .i64 ((acts.getD i act0).c)), (strV ((acts.getD i act0).s))] : List Value)] w110 := (Sat.turnL (L' := [cellC r 52 ([(.map (some b))] : List Value), mapC b strV (Value.int .i64) (resL M (itemV ((acts.getD i act0).d) ((acts.getD i act0).s)) (withinV ((acts.getD i act0).c) 4))]) (R := [cellC q 46 ([(.slice a L.length c)] : List Value), rowC 61 2 (.slice a L.length c) L.length (L.flatMap encO), restC w (sepC (bothL r b M0 q a0 c0 L0)).fp, cellC b18 40 ([(.int .i64 ((acts.getD i act0).d)), (.int .i64 ((acts.getD i act0).c)), (strV ((acts.getD i act0).s))] : List Value)]) H40 [0, 1] [2, 3, 4, 5] (by decide) (by kernel_rfl) rfl T111).pick [0, 1, 2, 3, 4, 5] (by decide)
          refine ⟨_, rfl, ?_⟩
          refine hK109 _ _ ?_
          clear hK109 K109
          refine wl_pure (wants0 rfl) (d := 56) (v := (.pointer (some ⟨q, 0, none⟩))) rfl (by kernel_rfl) ?_
          refine wl_pure (wants0 rfl) (d := 57) (v := (strV (itemV ((acts.getD i act0).d) ((acts.getD i act0).s)))) rfl (by kernel_rfl) ?_
          refine wl_pure (wants0 rfl) (d := 58) (v := (.int .i64 (withinV ((acts.getD i act0).c) 4))) rfl (by kernel_rfl) ?_
          refine wl_do (wants0 rfl) (fun K114 hK114 => ?_)
          refine d_call (d := 59) rfl (by kernel_rfl) (rReserve_any w110 q a c L (H113.fin [2, 3] (by decide) rfl) (by have q1 := hP.length_eq; have q2 := hSM.1; omega) hS (itemV ((acts.getD i act0).d) ((acts.getD i act0).s)) (by have q := itemV_len (acts.getD i act0).d (acts.getD i act0).s; omega) (withinV ((acts.getD i act0).c) 4)) ?_
          rintro _ w115 ⟨a117, c118, L119, rfl, T116, s120, p121⟩
          have H122 : Sat w [cellC r 52 ([(.map (some b))] : List Value), mapC b strV (Value.int .i64) (resL M (itemV ((acts.getD i act0).d) ((acts.getD i act0).s)) (withinV ((acts.getD i act0).c) 4)), cellC q 46 ([(.slice a117 L119.length c118)] : List Value), rowC 61 2 (.slice a117 L119.length c118) L119.length (L119.flatMap encO), restC w (sepC (bothL r b M0 q a0 c0 L0)).fp, cellC b18 40 ([(.int .i64 ((acts.getD i act0).d)), (.int .i64 ((acts.getD i act0).c)), (strV ((acts.getD i act0).s))] : List Value)] w115 := (Sat.turnL (L' := [cellC q 46 ([(.slice a117 L119.length c118)] : List Value), rowC 61 2 (.slice a117 L119.length c118) L119.length (L119.flatMap encO)]) (R := [cellC r 52 ([(.map (some b))] : List Value), mapC b strV (Value.int .i64) (resL M (itemV ((acts.getD i act0).d) ((acts.getD i act0).s)) (withinV ((acts.getD i act0).c) 4)), restC w (sepC (bothL r b M0 q a0 c0 L0)).fp, cellC b18 40 ([(.int .i64 ((acts.getD i act0).d)), (.int .i64 ((acts.getD i act0).c)), (strV ((acts.getD i act0).s))] : List Value)]) H113 [2, 3] [0, 1, 4, 5] (by decide) (by kernel_rfl) rfl T116).pick [2, 3, 0, 1, 4, 5] (by decide)
          have P123 : (resL M (itemV ((acts.getD i act0).d) ((acts.getD i act0).s)) (withinV ((acts.getD i act0).c) 4)).Perm L119 := (resL_perm hP hS).trans p121.symm
          refine ⟨_, rfl, ?_⟩
          refine hK114 _ _ ?_
          clear hK114 K114
          refine wl_pure (wants0 rfl) (d := 60) (v := (.bool (decide ((resE M (itemV ((acts.getD i act0).d) ((acts.getD i act0).s)) (withinV ((acts.getD i act0).c) 4)) = (resE L (itemV ((acts.getD i act0).d) ((acts.getD i act0).s)) (withinV ((acts.getD i act0).c) 4)))))) rfl (by kernel_rfl) ?_
          refine wl_pure (wants0 rfl) (d := 11) (v := (.bool (decide ((resE M (itemV ((acts.getD i act0).d) ((acts.getD i act0).s)) (withinV ((acts.getD i act0).c) 4)) = (resE L (itemV ((acts.getD i act0).d) ((acts.getD i act0).s)) (withinV ((acts.getD i act0).c) 4)))))) rfl (by kernel_rfl) ?_
          refine w_nil ?_
          refine then_normal ?_
          refine w_seq ?_
          refine wp_know 11 (.bool true) (show ((.bool (decide ((resE M (itemV ((acts.getD i act0).d) ((acts.getD i act0).s)) (withinV ((acts.getD i act0).c) 4)) = (resE L (itemV ((acts.getD i act0).d) ((acts.getD i act0).s)) (withinV ((acts.getD i act0).c) 4))))) : Value) = _ by rw [resE_perm hP hS, decide_eq_true rfl]) ?_
          have hlk := fun s => lookM_perm (s := s) P123 s120
          have hct := fun d => cnt_perm (c := d) P123
          have hso := sortK_perm P123 s120
          have hln := sortK_len ((resL M (itemV ((acts.getD i act0).d) ((acts.getD i act0).s)) (withinV ((acts.getD i act0).c) 4)) : RegL)
          have hsh := ((Short.res hSM (itemV ((acts.getD i act0).d) ((acts.getD i act0).s)) (withinV ((acts.getD i act0).c) 4))).1
          refine w_lit ?_
          refine wl_pure (wants0 rfl) (d := 62) (v := (.pointer (some ⟨r, 0, none⟩))) rfl (by kernel_rfl) ?_
          refine wl_pure (wants0 rfl) (d := 63) (v := (strV (itemV ((acts.getD i act0).d) ((acts.getD i act0).s)))) rfl (by kernel_rfl) ?_
          refine wl_do (wants0 rfl) (fun K124 hK124 => ?_)
          refine d_call (d := 64) rfl (by kernel_rfl) (owner_any w115 r b (resL M (itemV ((acts.getD i act0).d) ((acts.getD i act0).s)) (withinV ((acts.getD i act0).c) 4)) (H122.fin [0, 1] (by decide) rfl) (itemV ((acts.getD i act0).d) ((acts.getD i act0).s))) ?_
          rintro _ w125 ⟨rfl, u127⟩
          have H126 := H122.keepU u127
          refine ⟨_, rfl, ?_⟩
          refine hK124 _ _ ?_
          clear hK124 K124
          refine wl_pure (wants0 rfl) (d := 61) (v := (.tuple #[(.int .i64 ((lookM (resL M (itemV ((acts.getD i act0).d) ((acts.getD i act0).s)) (withinV ((acts.getD i act0).c) 4)) (itemV ((acts.getD i act0).d) ((acts.getD i act0).s))).getD 0)), (.bool ((lookM (resL M (itemV ((acts.getD i act0).d) ((acts.getD i act0).s)) (withinV ((acts.getD i act0).c) 4)) (itemV ((acts.getD i act0).d) ((acts.getD i act0).s))).isSome))])) rfl (by kernel_rfl) ?_
          refine wl_pure (wants0 rfl) (d := 65) (v := (.int .i64 ((lookM (resL M (itemV ((acts.getD i act0).d) ((acts.getD i act0).s)) (withinV ((acts.getD i act0).c) 4)) (itemV ((acts.getD i act0).d) ((acts.getD i act0).s))).getD 0))) rfl (by kernel_rfl) ?_
          refine wl_pure (wants0 rfl) (d := 66) (v := (.bool ((lookM (resL M (itemV ((acts.getD i act0).d) ((acts.getD i act0).s)) (withinV ((acts.getD i act0).c) 4)) (itemV ((acts.getD i act0).d) ((acts.getD i act0).s))).isSome))) rfl (by kernel_rfl) ?_
          refine wl_pure (wants0 rfl) (d := 12) (v := (.int .i64 ((lookM (resL M (itemV ((acts.getD i act0).d) ((acts.getD i act0).s)) (withinV ((acts.getD i act0).c) 4)) (itemV ((acts.getD i act0).d) ((acts.getD i act0).s))).getD 0))) rfl (by kernel_rfl) ?_
          refine wl_pure (wants0 rfl) (d := 13) (v := (.bool ((lookM (resL M (itemV ((acts.getD i act0).d) ((acts.getD i act0).s)) (withinV ((acts.getD i act0).c) 4)) (itemV ((acts.getD i act0).d) ((acts.getD i act0).s))).isSome))) rfl (by kernel_rfl) ?_
          refine w_nil ?_
          refine then_normal ?_
          refine w_seq ?_
          refine w_lit ?_
          refine wl_pure (wants0 rfl) (d := 68) (v := (.pointer (some ⟨q, 0, none⟩))) rfl (by kernel_rfl) ?_
          refine wl_pure (wants0 rfl) (d := 69) (v := (strV (itemV ((acts.getD i act0).d) ((acts.getD i act0).s)))) rfl (by kernel_rfl) ?_
          refine wl_do (wants0 rfl) (fun K128 hK128 => ?_)
          refine d_call (d := 70) rfl (by kernel_rfl) (rOwner_any w125 q a117 c118 L119 (H126.fin [2, 3] (by decide) rfl) (by have q1 := P123.length_eq; have q2 := ((Short.res hSM (itemV ((acts.getD i act0).d) ((acts.getD i act0).s)) (withinV ((acts.getD i act0).c) 4))).1; omega) (itemV ((acts.getD i act0).d) ((acts.getD i act0).s))) ?_
          rintro _ w129 ⟨rfl, T130⟩
          have H131 : Sat w [cellC r 52 ([(.map (some b))] : List Value), mapC b strV (Value.int .i64) (resL M (itemV ((acts.getD i act0).d) ((acts.getD i act0).s)) (withinV ((acts.getD i act0).c) 4)), cellC q 46 ([(.slice a117 L119.length c118)] : List Value), rowC 61 2 (.slice a117 L119.length c118) L119.length (L119.flatMap encO), restC w (sepC (bothL r b M0 q a0 c0 L0)).fp, cellC b18 40 ([(.int .i64 ((acts.getD i act0).d)), (.int .i64 ((acts.getD i act0).c)), (strV ((acts.getD i act0).s))] : List Value)] w129 := (Sat.turnL (L' := [cellC q 46 ([(.slice a117 L119.length c118)] : List Value), rowC 61 2 (.slice a117 L119.length c118) L119.length (L119.flatMap encO)]) (R := [cellC r 52 ([(.map (some b))] : List Value), mapC b strV (Value.int .i64) (resL M (itemV ((acts.getD i act0).d) ((acts.getD i act0).s)) (withinV ((acts.getD i act0).c) 4)), restC w (sepC (bothL r b M0 q a0 c0 L0)).fp, cellC b18 40 ([(.int .i64 ((acts.getD i act0).d)), (.int .i64 ((acts.getD i act0).c)), (strV ((acts.getD i act0).s))] : List Value)]) H126 [2, 3] [0, 1, 4, 5] (by decide) (by kernel_rfl) rfl T130).pick [2, 3, 0, 1, 4, 5] (by decide)
          refine ⟨_, rfl, ?_⟩
          refine hK128 _ _ ?_
          clear hK128 K128
          refine wl_pure (wants0 rfl) (d := 67) (v := (.tuple #[(.int .i64 ((lookM L119 (itemV ((acts.getD i act0).d) ((acts.getD i act0).s))).getD 0)), (.bool ((lookM L119 (itemV ((acts.getD i act0).d) ((acts.getD i act0).s))).isSome))])) rfl (by kernel_rfl) ?_
          refine wl_pure (wants0 rfl) (d := 71) (v := (.int .i64 ((lookM L119 (itemV ((acts.getD i act0).d) ((acts.getD i act0).s))).getD 0))) rfl (by kernel_rfl) ?_
          refine wl_pure (wants0 rfl) (d := 72) (v := (.bool ((lookM L119 (itemV ((acts.getD i act0).d) ((acts.getD i act0).s))).isSome))) rfl (by kernel_rfl) ?_
          refine wl_pure (wants0 rfl) (d := 14) (v := (.int .i64 ((lookM L119 (itemV ((acts.getD i act0).d) ((acts.getD i act0).s))).getD 0))) rfl (by kernel_rfl) ?_
          refine wl_pure (wants0 rfl) (d := 15) (v := (.bool ((lookM L119 (itemV ((acts.getD i act0).d) ((acts.getD i act0).s))).isSome))) rfl (by kernel_rfl) ?_
          refine w_nil ?_
          refine then_normal ?_
          refine w_seq ?_
          refine w_lit ?_
          refine wl_pure (wants0 rfl) (d := 73) (v := (.bool true)) rfl (by kernel_rfl) ?_
          refine wl_pure (wants0 rfl) (d := 74) (v := (.bool false)) rfl (by kernel_rfl) ?_
          refine wl_pure (wants0 rfl) (d := 75) (v := (.bool false)) rfl (by kernel_rfl) ?_
          refine wl_pure (wantsY 2 75 false rfl (by kernel_rfl) rfl (by kernel_rfl)) (d := 76) (v := (.int .i64 ((lookM (resL M (itemV ((acts.getD i act0).d) ((acts.getD i act0).s)) (withinV ((acts.getD i act0).c) 4)) (itemV ((acts.getD i act0).d) ((acts.getD i act0).s))).getD 0))) rfl (by kernel_rfl) ?_
          refine wl_pure (wantsY 2 75 false rfl (by kernel_rfl) rfl (by kernel_rfl)) (d := 77) (v := (.int .i64 ((lookM L119 (itemV ((acts.getD i act0).d) ((acts.getD i act0).s))).getD 0))) rfl (by kernel_rfl) ?_
          refine wl_pure (wantsY 2 75 false rfl (by kernel_rfl) rfl (by kernel_rfl)) (d := 78) (v := (.bool (!(decide (((lookM (resL M (itemV ((acts.getD i act0).d) ((acts.getD i act0).s)) (withinV ((acts.getD i act0).c) 4)) (itemV ((acts.getD i act0).d) ((acts.getD i act0).s))).getD 0) = ((lookM L119 (itemV ((acts.getD i act0).d) ((acts.getD i act0).s))).getD 0)))))) rfl (by kernel_rfl) ?_
          refine wl_pure (wants0 rfl) (d := 79) (v := (.bool (!(decide (((lookM (resL M (itemV ((acts.getD i act0).d) ((acts.getD i act0).s)) (withinV ((acts.getD i act0).c) 4)) (itemV ((acts.getD i act0).d) ((acts.getD i act0).s))).getD 0) = ((lookM L119 (itemV ((acts.getD i act0).d) ((acts.getD i act0).s))).getD 0)))))) rfl (by kernel_rfl) ?_
          refine wl_pure (wants0 rfl) (d := 80) (v := (.bool (!(decide (((lookM (resL M (itemV ((acts.getD i act0).d) ((acts.getD i act0).s)) (withinV ((acts.getD i act0).c) 4)) (itemV ((acts.getD i act0).d) ((acts.getD i act0).s))).getD 0) = ((lookM L119 (itemV ((acts.getD i act0).d) ((acts.getD i act0).s))).getD 0)))))) rfl (by kernel_rfl) ?_
          have b132 : (!(decide (((lookM (resL M (itemV ((acts.getD i act0).d) ((acts.getD i act0).s)) (withinV ((acts.getD i act0).c) 4)) (itemV ((acts.getD i act0).d) ((acts.getD i act0).s))).getD 0) = ((lookM L119 (itemV ((acts.getD i act0).d) ((acts.getD i act0).s))).getD 0)))) = false := by rw [hlk, decide_eq_true rfl]; rfl
          refine wl_know 80 (.bool false) (congrArg Value.bool b132) ?_
          have g133 := bnot_false b132
          have g134 := of_decide_eq_true g133
          refine wl_pure (wantsY 7 80 false rfl (by kernel_rfl) rfl (by kernel_rfl)) (d := 81) (v := (.bool ((lookM (resL M (itemV ((acts.getD i act0).d) ((acts.getD i act0).s)) (withinV ((acts.getD i act0).c) 4)) (itemV ((acts.getD i act0).d) ((acts.getD i act0).s))).isSome))) rfl (by kernel_rfl) ?_
          refine wl_pure (wantsY 7 80 false rfl (by kernel_rfl) rfl (by kernel_rfl)) (d := 82) (v := (.bool ((lookM L119 (itemV ((acts.getD i act0).d) ((acts.getD i act0).s))).isSome))) rfl (by kernel_rfl) ?_
          refine wl_pure (wantsY 7 80 false rfl (by kernel_rfl) rfl (by kernel_rfl)) (d := 83) (v := (.bool (!(((lookM (resL M (itemV ((acts.getD i act0).d) ((acts.getD i act0).s)) (withinV ((acts.getD i act0).c) 4)) (itemV ((acts.getD i act0).d) ((acts.getD i act0).s))).isSome) == ((lookM L119 (itemV ((acts.getD i act0).d) ((acts.getD i act0).s))).isSome))))) rfl (by kernel_rfl) ?_
          refine wl_pure (wants0 rfl) (d := 84) (v := (.bool (!(((lookM (resL M (itemV ((acts.getD i act0).d) ((acts.getD i act0).s)) (withinV ((acts.getD i act0).c) 4)) (itemV ((acts.getD i act0).d) ((acts.getD i act0).s))).isSome) == ((lookM L119 (itemV ((acts.getD i act0).d) ((acts.getD i act0).s))).isSome))))) rfl (by kernel_rfl) ?_
          refine wl_pure (wants0 rfl) (d := 85) (v := (.bool (!(((lookM (resL M (itemV ((acts.getD i act0).d) ((acts.getD i act0).s)) (withinV ((acts.getD i act0).c) 4)) (itemV ((acts.getD i act0).d) ((acts.getD i act0).s))).isSome) == ((lookM L119 (itemV ((acts.getD i act0).d) ((acts.getD i act0).s))).isSome))))) rfl (by kernel_rfl) ?_
          have b135 : (!(((lookM (resL M (itemV ((acts.getD i act0).d) ((acts.getD i act0).s)) (withinV ((acts.getD i act0).c) 4)) (itemV ((acts.getD i act0).d) ((acts.getD i act0).s))).isSome) == ((lookM L119 (itemV ((acts.getD i act0).d) ((acts.getD i act0).s))).isSome))) = false := by rw [hlk]; simp
          refine wl_know 85 (.bool false) (congrArg Value.bool b135) ?_
          have g136 := bnot_false b135
          refine wl_pure (wantsY 12 85 false rfl (by kernel_rfl) rfl (by kernel_rfl)) (d := 86) (v := (.pointer (some ⟨r, 0, none⟩))) rfl (by kernel_rfl) ?_
          refine wl_do (wantsY 12 85 false rfl (by kernel_rfl) rfl (by kernel_rfl)) (fun K137 hK137 => ?_)
          refine d_call (d := 87) rfl (by kernel_rfl) (items_any w129 r b (resL M (itemV ((acts.getD i act0).d) ((acts.getD i act0).s)) (withinV ((acts.getD i act0).c) 4)) (H131.fin [0, 1] (by decide) rfl) (Short.res hSM (itemV ((acts.getD i act0).d) ((acts.getD i act0).s)) (withinV ((acts.getD i act0).c) 4))) ?_
          rintro _ w138 ⟨u139, rfl, k140, p141, q142⟩
          have H143 : Sat w [cellC r 52 ([(.map (some b))] : List Value), mapC b strV (Value.int .i64) (resL M (itemV ((acts.getD i act0).d) ((acts.getD i act0).s)) (withinV ((acts.getD i act0).c) 4)), cellC q 46 ([(.slice a117 L119.length c118)] : List Value), rowC 61 2 (.slice a117 L119.length c118) L119.length (L119.flatMap encO), restC w (sepC (bothL r b M0 q a0 c0 L0)).fp, cellC b18 40 ([(.int .i64 ((acts.getD i act0).d)), (.int .i64 ((acts.getD i act0).c)), (strV ((acts.getD i act0).s))] : List Value), rowC 9 1 u139 ((sortK ((resL M (itemV ((acts.getD i act0).d) ((acts.getD i act0).s)) (withinV ((acts.getD i act0).c) 4)) : RegL)).length) ((sortK ((resL M (itemV ((acts.getD i act0).d) ((acts.getD i act0).s)) (withinV ((acts.getD i act0).c) 4)) : RegL)).flatMap encS)] w138 := H131.addU p141 k140 q142
          obtain ⟨a144, c145, rfl⟩ := ownsRow_shape (H143.at 6 rfl)
          refine ⟨_, rfl, ?_⟩
          refine hK137 _ _ ?_
          clear hK137 K137
          refine wl_pure (wantsY 12 85 false rfl (by kernel_rfl) rfl (by kernel_rfl)) (d := 88) (v := (.pointer (some ⟨q, 0, none⟩))) rfl (by kernel_rfl) ?_
          refine wl_do (wantsY 12 85 false rfl (by kernel_rfl) rfl (by kernel_rfl)) (fun K146 hK146 => ?_)
          refine d_call (d := 89) rfl (by kernel_rfl) (rItems_any w138 q a117 c118 L119 (H143.fin [2, 3] (by decide) rfl) (by have q1 := P123.length_eq; have q2 := ((Short.res hSM (itemV ((acts.getD i act0).d) ((acts.getD i act0).s)) (withinV ((acts.getD i act0).c) 4))).1; omega)) ?_
          rintro _ w147 ⟨u149, rfl, T148⟩
          have H152 : Sat w [cellC r 52 ([(.map (some b))] : List Value), mapC b strV (Value.int .i64) (resL M (itemV ((acts.getD i act0).d) ((acts.getD i act0).s)) (withinV ((acts.getD i act0).c) 4)), cellC q 46 ([(.slice a117 L119.length c118)] : List Value), rowC 61 2 (.slice a117 L119.length c118) L119.length (L119.flatMap encO), restC w (sepC (bothL r b M0 q a0 c0 L0)).fp, cellC b18 40 ([(.int .i64 ((acts.getD i act0).d)), (.int .i64 ((acts.getD i act0).c)), (strV ((acts.getD i act0).s))] : List Value), rowC 9 1 (.slice a144 ((sortK ((resL M (itemV ((acts.getD i act0).d) ((acts.getD i act0).s)) (withinV ((acts.getD i act0).c) 4)) : RegL)).length) c145) ((sortK ((resL M (itemV ((acts.getD i act0).d) ((acts.getD i act0).s)) (withinV ((acts.getD i act0).c) 4)) : RegL)).length) ((sortK ((resL M (itemV ((acts.getD i act0).d) ((acts.getD i act0).s)) (withinV ((acts.getD i act0).c) 4)) : RegL)).flatMap encS), rowC 9 1 u149 ((L119.map (fun (x : List UInt8 × Int) => x.1)).length) ((L119.map (fun (x : List UInt8 × Int) => x.1)).flatMap encS)] w147 := (Sat.turnL (L' := [cellC q 46 ([(.slice a117 L119.length c118)] : List Value), rowC 61 2 (.slice a117 L119.length c118) L119.length (L119.flatMap encO), rowC 9 1 u149 ((L119.map (fun (x : List UInt8 × Int) => x.1)).length) ((L119.map (fun (x : List UInt8 × Int) => x.1)).flatMap encS)]) (R := [cellC r 52 ([(.map (some b))] : List Value), mapC b strV (Value.int .i64) (resL M (itemV ((acts.getD i act0).d) ((acts.getD i act0).s)) (withinV ((acts.getD i act0).c) 4)), restC w (sepC (bothL r b M0 q a0 c0 L0)).fp, cellC b18 40 ([(.int .i64 ((acts.getD i act0).d)), (.int .i64 ((acts.getD i act0).c)), (strV ((acts.getD i act0).s))] : List Value), rowC 9 1 (.slice a144 ((sortK ((resL M (itemV ((acts.getD i act0).d) ((acts.getD i act0).s)) (withinV ((acts.getD i act0).c) 4)) : RegL)).length) c145) ((sortK ((resL M (itemV ((acts.getD i act0).d) ((acts.getD i act0).s)) (withinV ((acts.getD i act0).c) 4)) : RegL)).length) ((sortK ((resL M (itemV ((acts.getD i act0).d) ((acts.getD i act0).s)) (withinV ((acts.getD i act0).c) 4)) : RegL)).flatMap encS)]) H143 [2, 3] [0, 1, 4, 5, 6] (by decide) (by kernel_rfl) rfl T148).pick [3, 4, 0, 1, 5, 6, 7, 2] (by decide)
          obtain ⟨a150, c151, rfl⟩ := ownsRow_shape (H152.at 7 rfl)
          refine ⟨_, rfl, ?_⟩
          refine hK146 _ _ ?_
          clear hK146 K146
          refine wl_do (wantsY 12 85 false rfl (by kernel_rfl) rfl (by kernel_rfl)) (fun K153 hK153 => ?_)
          refine d_call (d := 90) rfl (by kernel_rfl) (sameS_any w147 (.slice a144 ((sortK ((resL M (itemV ((acts.getD i act0).d) ((acts.getD i act0).s)) (withinV ((acts.getD i act0).c) 4)) : RegL)).length) c145) (.slice a150 ((L119.map (fun (x : List UInt8 × Int) => x.1)).length) c151) (sortK ((resL M (itemV ((acts.getD i act0).d) ((acts.getD i act0).s)) (withinV ((acts.getD i act0).c) 4)) : RegL)) (L119.map (fun (x : List UInt8 × Int) => x.1)) (ListAt.row (enc := encS) (sz := 1) encS_len (by decide) (H152.at 6 rfl)) (ListAt.row (enc := encS) (sz := 1) encS_len (by decide) (H152.at 7 rfl)) (by omega)) ?_
          rintro _ w154 ⟨rfl, u156⟩
          have H155 := H152.keepU u156
          refine ⟨_, rfl, ?_⟩
          refine hK153 _ _ ?_
          clear hK153 K153
          refine wl_pure (wantsY 12 85 false rfl (by kernel_rfl) rfl (by kernel_rfl)) (d := 91) (v := (.bool (!(decide ((sortK ((resL M (itemV ((acts.getD i act0).d) ((acts.getD i act0).s)) (withinV ((acts.getD i act0).c) 4)) : RegL)) = (L119.map (fun (x : List UInt8 × Int) => x.1))))))) rfl (by kernel_rfl) ?_
          refine wl_pure (wants0 rfl) (d := 92) (v := (.bool (!(decide ((sortK ((resL M (itemV ((acts.getD i act0).d) ((acts.getD i act0).s)) (withinV ((acts.getD i act0).c) 4)) : RegL)) = (L119.map (fun (x : List UInt8 × Int) => x.1))))))) rfl (by kernel_rfl) ?_
          refine wl_pure (wants0 rfl) (d := 93) (v := (.bool (!(decide ((sortK ((resL M (itemV ((acts.getD i act0).d) ((acts.getD i act0).s)) (withinV ((acts.getD i act0).c) 4)) : RegL)) = (L119.map (fun (x : List UInt8 × Int) => x.1))))))) rfl (by kernel_rfl) ?_
          have b157 : (!(decide ((sortK ((resL M (itemV ((acts.getD i act0).d) ((acts.getD i act0).s)) (withinV ((acts.getD i act0).c) 4)) : RegL)) = (L119.map (fun (x : List UInt8 × Int) => x.1))))) = false := by rw [hso, decide_eq_true rfl]; rfl
          refine wl_know 93 (.bool false) (congrArg Value.bool b157) ?_
          have g158 := bnot_false b157
          refine wl_pure (wantsY 20 93 false rfl (by kernel_rfl) rfl (by kernel_rfl)) (d := 94) (v := (.pointer (some ⟨r, 0, none⟩))) rfl (by kernel_rfl) ?_
          refine wl_pure (wantsY 20 93 false rfl (by kernel_rfl) rfl (by kernel_rfl)) (d := 95) (v := (.int .i64 (withinV ((acts.getD i act0).c) 4))) rfl (by kernel_rfl) ?_
          refine wl_do (wantsY 20 93 false rfl (by kernel_rfl) rfl (by kernel_rfl)) (fun K159 hK159 => ?_)
          refine d_call (d := 96) rfl (by kernel_rfl) (count_any w154 r b (resL M (itemV ((acts.getD i act0).d) ((acts.getD i act0).s)) (withinV ((acts.getD i act0).c) 4)) (H155.fin [0, 1] (by decide) rfl) (Short.res hSM (itemV ((acts.getD i act0).d) ((acts.getD i act0).s)) (withinV ((acts.getD i act0).c) 4)) (withinV ((acts.getD i act0).c) 4)) ?_
          rintro _ w160 ⟨rfl, u162⟩
          have H161 := H155.keepU u162
          refine ⟨_, rfl, ?_⟩
          refine hK159 _ _ ?_
          clear hK159 K159
          refine wl_pure (wantsY 20 93 false rfl (by kernel_rfl) rfl (by kernel_rfl)) (d := 97) (v := (.pointer (some ⟨q, 0, none⟩))) rfl (by kernel_rfl) ?_
          refine wl_pure (wantsY 20 93 false rfl (by kernel_rfl) rfl (by kernel_rfl)) (d := 98) (v := (.int .i64 (withinV ((acts.getD i act0).c) 4))) rfl (by kernel_rfl) ?_
          refine wl_do (wantsY 20 93 false rfl (by kernel_rfl) rfl (by kernel_rfl)) (fun K163 hK163 => ?_)
          refine d_call (d := 99) rfl (by kernel_rfl) (rCount_any w160 q a117 c118 L119 (H161.fin [2, 3] (by decide) rfl) (by have q1 := P123.length_eq; have q2 := ((Short.res hSM (itemV ((acts.getD i act0).d) ((acts.getD i act0).s)) (withinV ((acts.getD i act0).c) 4))).1; omega) (withinV ((acts.getD i act0).c) 4)) ?_
          rintro _ w164 ⟨rfl, T165⟩
          have H166 : Sat w [cellC r 52 ([(.map (some b))] : List Value), mapC b strV (Value.int .i64) (resL M (itemV ((acts.getD i act0).d) ((acts.getD i act0).s)) (withinV ((acts.getD i act0).c) 4)), cellC q 46 ([(.slice a117 L119.length c118)] : List Value), rowC 61 2 (.slice a117 L119.length c118) L119.length (L119.flatMap encO), restC w (sepC (bothL r b M0 q a0 c0 L0)).fp, cellC b18 40 ([(.int .i64 ((acts.getD i act0).d)), (.int .i64 ((acts.getD i act0).c)), (strV ((acts.getD i act0).s))] : List Value), rowC 9 1 (.slice a144 ((sortK ((resL M (itemV ((acts.getD i act0).d) ((acts.getD i act0).s)) (withinV ((acts.getD i act0).c) 4)) : RegL)).length) c145) ((sortK ((resL M (itemV ((acts.getD i act0).d) ((acts.getD i act0).s)) (withinV ((acts.getD i act0).c) 4)) : RegL)).length) ((sortK ((resL M (itemV ((acts.getD i act0).d) ((acts.getD i act0).s)) (withinV ((acts.getD i act0).c) 4)) : RegL)).flatMap encS), rowC 9 1 (.slice a150 ((L119.map (fun (x : List UInt8 × Int) => x.1)).length) c151) ((L119.map (fun (x : List UInt8 × Int) => x.1)).length) ((L119.map (fun (x : List UInt8 × Int) => x.1)).flatMap encS)] w164 := (Sat.turnL (L' := [cellC q 46 ([(.slice a117 L119.length c118)] : List Value), rowC 61 2 (.slice a117 L119.length c118) L119.length (L119.flatMap encO)]) (R := [cellC r 52 ([(.map (some b))] : List Value), mapC b strV (Value.int .i64) (resL M (itemV ((acts.getD i act0).d) ((acts.getD i act0).s)) (withinV ((acts.getD i act0).c) 4)), restC w (sepC (bothL r b M0 q a0 c0 L0)).fp, cellC b18 40 ([(.int .i64 ((acts.getD i act0).d)), (.int .i64 ((acts.getD i act0).c)), (strV ((acts.getD i act0).s))] : List Value), rowC 9 1 (.slice a144 ((sortK ((resL M (itemV ((acts.getD i act0).d) ((acts.getD i act0).s)) (withinV ((acts.getD i act0).c) 4)) : RegL)).length) c145) ((sortK ((resL M (itemV ((acts.getD i act0).d) ((acts.getD i act0).s)) (withinV ((acts.getD i act0).c) 4)) : RegL)).length) ((sortK ((resL M (itemV ((acts.getD i act0).d) ((acts.getD i act0).s)) (withinV ((acts.getD i act0).c) 4)) : RegL)).flatMap encS), rowC 9 1 (.slice a150 ((L119.map (fun (x : List UInt8 × Int) => x.1)).length) c151) ((L119.map (fun (x : List UInt8 × Int) => x.1)).length) ((L119.map (fun (x : List UInt8 × Int) => x.1)).flatMap encS)]) H161 [2, 3] [0, 1, 4, 5, 6, 7] (by decide) (by kernel_rfl) rfl T165).pick [2, 3, 0, 1, 4, 5, 6, 7] (by decide)
          refine ⟨_, rfl, ?_⟩
          refine hK163 _ _ ?_
          clear hK163 K163
          refine wl_pure (wantsY 20 93 false rfl (by kernel_rfl) rfl (by kernel_rfl)) (d := 100) (v := (.bool (!(decide ((cntL (resL M (itemV ((acts.getD i act0).d) ((acts.getD i act0).s)) (withinV ((acts.getD i act0).c) 4)) (withinV ((acts.getD i act0).c) 4)) = (cntL L119 (withinV ((acts.getD i act0).c) 4))))))) rfl (by kernel_rfl) ?_
          refine wl_pure (wants0 rfl) (d := 101) (v := (.bool (!(decide ((cntL (resL M (itemV ((acts.getD i act0).d) ((acts.getD i act0).s)) (withinV ((acts.getD i act0).c) 4)) (withinV ((acts.getD i act0).c) 4)) = (cntL L119 (withinV ((acts.getD i act0).c) 4))))))) rfl (by kernel_rfl) ?_
          refine w_nil ?_
          refine then_normal ?_
          have b167 : (!(decide ((cntL (resL M (itemV ((acts.getD i act0).d) ((acts.getD i act0).s)) (withinV ((acts.getD i act0).c) 4)) (withinV ((acts.getD i act0).c) 4)) = (cntL L119 (withinV ((acts.getD i act0).c) 4))))) = false := by rw [hct, decide_eq_true rfl]; rfl
          refine wp_know 101 (.bool false) (congrArg Value.bool b167) ?_
          have g168 := bnot_false b167
          have g169 := of_decide_eq_true g168
          refine wp_iff rfl ?_
          refine w_skip ?_
          refine blk_normal ?_
          refine then_normal ?_
          refine w_lit ?_
          refine wl_pure (wants0 rfl) (d := 24) (v := (.int .i64 ((i : Int)))) rfl (by kernel_rfl) ?_
          refine wl_pure (wants0 rfl) (d := 25) (v := (.int .i64 ((i : Int) + 1))) rfl (e_int (z := (i : Int) + 1) (by kernel_rfl) (IntWalk.i64_in _ (by omega))) ?_
          refine wl_pure (wants0 rfl) (d := 7) (v := (.int .i64 ((i : Int) + 1))) rfl (by kernel_rfl) ?_
          refine w_nil ?_
          have H170 : Sat w [cellC r 52 ([(.map (some b))] : List Value), mapC b strV (Value.int .i64) (resL M (itemV ((acts.getD i act0).d) ((acts.getD i act0).s)) (withinV ((acts.getD i act0).c) 4)), cellC q 46 ([(.slice a117 L119.length c118)] : List Value), rowC 61 2 (.slice a117 L119.length c118) L119.length (L119.flatMap encO), restC w (sepC (bothL r b M0 q a0 c0 L0)).fp] w164 := H166.pick [0, 1, 2, 3, 4] (by decide)
          refine round_back ?_ _ ⟨(i + 1), (resL M (itemV ((acts.getD i act0).d) ((acts.getD i act0).s)) (withinV ((acts.getD i act0).c) 4)), a117, c118, L119, (show ((.int .i64 ((i : Int) + 1)) : Value) = _ by first | rfl | go_num), by omega, (Short.res hSM (itemV ((acts.getD i act0).d) ((acts.getD i act0).s)) (withinV ((acts.getD i act0).c) 4)), P123, s120, H170, rfl⟩ (by omega)
          exact (same_upd rfl (same_upd rfl (same_upd rfl (same_upd rfl (same_upd rfl (same_upd rfl (same_upd rfl (same_upd rfl (same_upd rfl (same_upd rfl (same_upd rfl (same_upd rfl (same_upd rfl (same_upd rfl (same_upd rfl (same_upd rfl (same_upd rfl (same_upd rfl (same_upd rfl (same_upd rfl (same_upd rfl (same_upd rfl (same_upd rfl (same_upd rfl (same_upd rfl (same_upd rfl (same_upd rfl (same_upd rfl (same_upd rfl (same_upd rfl (same_upd rfl (same_upd rfl (same_upd rfl (same_upd rfl (same_upd rfl (same_upd rfl (same_upd rfl (same_upd rfl (same_upd rfl (same_upd rfl (same_upd rfl (same_upd rfl (same_upd rfl (same_upd rfl (same_upd rfl (same_upd rfl (same_upd rfl (same_upd rfl (same_upd rfl (same_upd rfl (same_upd rfl (same_upd rfl (same_upd rfl (same_upd rfl (same_upd rfl (same_upd rfl (same_upd rfl (same_upd rfl (same_upd rfl (same_upd rfl (same_upd rfl (same_upd rfl (same_upd rfl (same_upd rfl (same_upd rfl (same_upd rfl (same_upd rfl (same_upd rfl (same_upd rfl (same_upd rfl (same_upd rfl (same_upd rfl (same_upd rfl (same_upd rfl (same_upd rfl (same_upd rfl (same_upd rfl (same_upd rfl (same_upd rfl (same_upd rfl (same_upd rfl (same_upd rfl (same_upd rfl (same_upd rfl (same_upd rfl (same_upd rfl (same_upd rfl (same_upd rfl (same_upd rfl (same_upd rfl (same_upd rfl (same_upd rfl (same_upd rfl (same_upd rfl (same_upd rfl (same_upd rfl (same_upd rfl (same_upd rfl (same_ovr)))))))))))))))))))))))))))))))))))))))))))))))))))))))))))))))))))))))))))))))))))))))))))))))))))
      · have g171 := bnot_false b29
        have g172 := of_decide_eq_true g171
        refine wp_know 36 (.bool false) (congrArg Value.bool b29) ?_
        have g173 := bnot_false b29
        have g174 := of_decide_eq_true g173
        refine wp_iff rfl ?_
        refine w_skip ?_
        refine then_normal ?_
        refine w_seq ?_
        refine w_lit ?_
        refine wl_pure (wants0 rfl) (d := 11) (v := (.bool true)) rfl (by kernel_rfl) ?_
        refine w_nil ?_
        refine then_normal ?_
        refine w_seq ?_
        refine w_seq ?_
        refine w_lit ?_
        refine wl_pure (wants0 rfl) (d := 39) (v := (.pointer (some ⟨b18, 0, none⟩))) rfl (by kernel_rfl) ?_
        refine wl_pure (wants0 rfl) (d := 40) (v := (.int .i64 ((acts.getD i act0).d))) rfl (e_load1 rfl (by kernel_rfl) (H27.cell 5 rfl rfl)) ?_
        refine wl_do (wants0 rfl) (fun K175 hK175 => ?_)
        refine d_call (d := 41) rfl (by kernel_rfl) (within_any w26 ((acts.getD i act0).d) 3 (by omega)) ?_
        rintro _ w176 ⟨rfl, u178⟩
        have H177 := H27.keepU u178
        refine ⟨_, rfl, ?_⟩
        refine hK175 _ _ ?_
        clear hK175 K175
        refine wl_pure (wants0 rfl) (d := 42) (v := (.bool (decide ((withinV ((acts.getD i act0).d) 3) = 2)))) rfl (by kernel_rfl) ?_
        refine w_nil ?_
        refine then_normal ?_
        refine (bsplit (decide ((withinV ((acts.getD i act0).d) 3) = 2))).elim (fun b179 => ?_) (fun b179 => ?_)
        · have g180 := of_decide_eq_true b179
          refine wp_know 42 (.bool true) (congrArg Value.bool b179) ?_
          have g181 := of_decide_eq_true b179
          refine wp_ift rfl ?_
          refine w_lit ?_
          refine wl_pure (wants0 rfl) (d := 43) (v := (.pointer (some ⟨r, 0, none⟩))) rfl (by kernel_rfl) ?_
          refine wl_pure (wants0 rfl) (d := 44) (v := (strV (itemV ((acts.getD i act0).d) ((acts.getD i act0).s)))) rfl (by kernel_rfl) ?_
          refine wl_pure (wants0 rfl) (d := 45) (v := (.int .i64 ((acts.getD i act0).c))) rfl (by kernel_rfl) ?_
          refine wl_do (wants0 rfl) (fun K182 hK182 => ?_)
          refine d_call (d := 46) rfl (by kernel_rfl) (release_any w176 r b M (H177.fin [0, 1] (by decide) rfl) hSM (itemV ((acts.getD i act0).d) ((acts.getD i act0).s)) (by have q := itemV_len (acts.getD i act0).d (acts.getD i act0).s; omega) ((acts.getD i act0).c)) ?_
          rintro _ w183 ⟨rfl, T184⟩
          have H186 : Sat w [cellC r 52 ([(.map (some b))] : List Value), mapC b strV (Value.int .i64) (relL M (itemV ((acts.getD i act0).d) ((acts.getD i act0).s)) ((acts.getD i act0).c)), cellC q 46 ([(.slice a L.length c)] : List Value), rowC 61 2 (.slice a L.length c) L.length (L.flatMap encO), restC w (sepC (bothL r b M0 q a0 c0 L0)).fp, cellC b18 40 ([(.int .i64 ((acts.getD i act0).d)), (.int .i64 ((acts.getD i act0).c)), (strV ((acts.getD i act0).s))] : List Value)] w183 := (Sat.turnL (L' := [cellC r 52 ([(.map (some b))] : List Value), mapC b strV (Value.int .i64) (relL M (itemV ((acts.getD i act0).d) ((acts.getD i act0).s)) ((acts.getD i act0).c))]) (R := [cellC q 46 ([(.slice a L.length c)] : List Value), rowC 61 2 (.slice a L.length c) L.length (L.flatMap encO), restC w (sepC (bothL r b M0 q a0 c0 L0)).fp, cellC b18 40 ([(.int .i64 ((acts.getD i act0).d)), (.int .i64 ((acts.getD i act0).c)), (strV ((acts.getD i act0).s))] : List Value)]) H177 [0, 1] [2, 3, 4, 5] (by decide) (by kernel_rfl) rfl T184).pick [0, 1, 2, 3, 4, 5] (by decide)
          refine ⟨_, rfl, ?_⟩
          refine hK182 _ _ ?_
          clear hK182 K182
          refine wl_pure (wants0 rfl) (d := 47) (v := (.pointer (some ⟨q, 0, none⟩))) rfl (by kernel_rfl) ?_
          refine wl_pure (wants0 rfl) (d := 48) (v := (strV (itemV ((acts.getD i act0).d) ((acts.getD i act0).s)))) rfl (by kernel_rfl) ?_
          refine wl_pure (wants0 rfl) (d := 49) (v := (.int .i64 ((acts.getD i act0).c))) rfl (by kernel_rfl) ?_
          refine wl_do (wants0 rfl) (fun K187 hK187 => ?_)
          refine d_call (d := 50) rfl (by kernel_rfl) (rRelease_any w183 q a c L (H186.fin [2, 3] (by decide) rfl) (by have q1 := hP.length_eq; have q2 := hSM.1; omega) hS (itemV ((acts.getD i act0).d) ((acts.getD i act0).s)) (by have q := itemV_len (acts.getD i act0).d (acts.getD i act0).s; omega) ((acts.getD i act0).c)) ?_
          rintro _ w188 ⟨a190, c191, L192, rfl, T189, s193, p194⟩
          have H195 : Sat w [cellC r 52 ([(.map (some b))] : List Value), mapC b strV (Value.int .i64) (relL M (itemV ((acts.getD i act0).d) ((acts.getD i act0).s)) ((acts.getD i act0).c)), cellC q 46 ([(.slice a190 L192.length c191)] : List Value), rowC 61 2 (.slice a190 L192.length c191) L192.length (L192.flatMap encO), restC w (sepC (bothL r b M0 q a0 c0 L0)).fp, cellC b18 40 ([(.int .i64 ((acts.getD i act0).d)), (.int .i64 ((acts.getD i act0).c)), (strV ((acts.getD i act0).s))] : List Value)] w188 := (Sat.turnL (L' := [cellC q 46 ([(.slice a190 L192.length c191)] : List Value), rowC 61 2 (.slice a190 L192.length c191) L192.length (L192.flatMap encO)]) (R := [cellC r 52 ([(.map (some b))] : List Value), mapC b strV (Value.int .i64) (relL M (itemV ((acts.getD i act0).d) ((acts.getD i act0).s)) ((acts.getD i act0).c)), restC w (sepC (bothL r b M0 q a0 c0 L0)).fp, cellC b18 40 ([(.int .i64 ((acts.getD i act0).d)), (.int .i64 ((acts.getD i act0).c)), (strV ((acts.getD i act0).s))] : List Value)]) H186 [2, 3] [0, 1, 4, 5] (by decide) (by kernel_rfl) rfl T189).pick [2, 3, 0, 1, 4, 5] (by decide)
          have P196 : (relL M (itemV ((acts.getD i act0).d) ((acts.getD i act0).s)) ((acts.getD i act0).c)).Perm L192 := (relL_perm hP hS).trans p194.symm
          refine ⟨_, rfl, ?_⟩
          refine hK187 _ _ ?_
          clear hK187 K187
          refine wl_pure (wants0 rfl) (d := 51) (v := (.bool (decide ((relE M (itemV ((acts.getD i act0).d) ((acts.getD i act0).s)) ((acts.getD i act0).c)) = (relE L (itemV ((acts.getD i act0).d) ((acts.getD i act0).s)) ((acts.getD i act0).c)))))) rfl (by kernel_rfl) ?_
          refine wl_pure (wants0 rfl) (d := 11) (v := (.bool (decide ((relE M (itemV ((acts.getD i act0).d) ((acts.getD i act0).s)) ((acts.getD i act0).c)) = (relE L (itemV ((acts.getD i act0).d) ((acts.getD i act0).s)) ((acts.getD i act0).c)))))) rfl (by kernel_rfl) ?_
          refine w_nil ?_
          refine then_normal ?_
          refine w_seq ?_
          refine wp_know 11 (.bool true) (show ((.bool (decide ((relE M (itemV ((acts.getD i act0).d) ((acts.getD i act0).s)) ((acts.getD i act0).c)) = (relE L (itemV ((acts.getD i act0).d) ((acts.getD i act0).s)) ((acts.getD i act0).c))))) : Value) = _ by rw [relE_perm hP hS, decide_eq_true rfl]) ?_
          have hlk := fun s => lookM_perm (s := s) P196 s193
          have hct := fun d => cnt_perm (c := d) P196
          have hso := sortK_perm P196 s193
          have hln := sortK_len ((relL M (itemV ((acts.getD i act0).d) ((acts.getD i act0).s)) ((acts.getD i act0).c)) : RegL)
          have hsh := ((Short.rel hSM (itemV ((acts.getD i act0).d) ((acts.getD i act0).s)) ((acts.getD i act0).c))).1
          refine w_lit ?_
          refine wl_pure (wants0 rfl) (d := 62) (v := (.pointer (some ⟨r, 0, none⟩))) rfl (by kernel_rfl) ?_
          refine wl_pure (wants0 rfl) (d := 63) (v := (strV (itemV ((acts.getD i act0).d) ((acts.getD i act0).s)))) rfl (by kernel_rfl) ?_
          refine wl_do (wants0 rfl) (fun K197 hK197 => ?_)
          refine d_call (d := 64) rfl (by kernel_rfl) (owner_any w188 r b (relL M (itemV ((acts.getD i act0).d) ((acts.getD i act0).s)) ((acts.getD i act0).c)) (H195.fin [0, 1] (by decide) rfl) (itemV ((acts.getD i act0).d) ((acts.getD i act0).s))) ?_
          rintro _ w198 ⟨rfl, u200⟩
          have H199 := H195.keepU u200
          refine ⟨_, rfl, ?_⟩
          refine hK197 _ _ ?_
          clear hK197 K197
          refine wl_pure (wants0 rfl) (d := 61) (v := (.tuple #[(.int .i64 ((lookM (relL M (itemV ((acts.getD i act0).d) ((acts.getD i act0).s)) ((acts.getD i act0).c)) (itemV ((acts.getD i act0).d) ((acts.getD i act0).s))).getD 0)), (.bool ((lookM (relL M (itemV ((acts.getD i act0).d) ((acts.getD i act0).s)) ((acts.getD i act0).c)) (itemV ((acts.getD i act0).d) ((acts.getD i act0).s))).isSome))])) rfl (by kernel_rfl) ?_
          refine wl_pure (wants0 rfl) (d := 65) (v := (.int .i64 ((lookM (relL M (itemV ((acts.getD i act0).d) ((acts.getD i act0).s)) ((acts.getD i act0).c)) (itemV ((acts.getD i act0).d) ((acts.getD i act0).s))).getD 0))) rfl (by kernel_rfl) ?_
          refine wl_pure (wants0 rfl) (d := 66) (v := (.bool ((lookM (relL M (itemV ((acts.getD i act0).d) ((acts.getD i act0).s)) ((acts.getD i act0).c)) (itemV ((acts.getD i act0).d) ((acts.getD i act0).s))).isSome))) rfl (by kernel_rfl) ?_
          refine wl_pure (wants0 rfl) (d := 12) (v := (.int .i64 ((lookM (relL M (itemV ((acts.getD i act0).d) ((acts.getD i act0).s)) ((acts.getD i act0).c)) (itemV ((acts.getD i act0).d) ((acts.getD i act0).s))).getD 0))) rfl (by kernel_rfl) ?_
          refine wl_pure (wants0 rfl) (d := 13) (v := (.bool ((lookM (relL M (itemV ((acts.getD i act0).d) ((acts.getD i act0).s)) ((acts.getD i act0).c)) (itemV ((acts.getD i act0).d) ((acts.getD i act0).s))).isSome))) rfl (by kernel_rfl) ?_
          refine w_nil ?_
          refine then_normal ?_
          refine w_seq ?_
          refine w_lit ?_
          refine wl_pure (wants0 rfl) (d := 68) (v := (.pointer (some ⟨q, 0, none⟩))) rfl (by kernel_rfl) ?_
          refine wl_pure (wants0 rfl) (d := 69) (v := (strV (itemV ((acts.getD i act0).d) ((acts.getD i act0).s)))) rfl (by kernel_rfl) ?_
          refine wl_do (wants0 rfl) (fun K201 hK201 => ?_)
          refine d_call (d := 70) rfl (by kernel_rfl) (rOwner_any w198 q a190 c191 L192 (H199.fin [2, 3] (by decide) rfl) (by have q1 := P196.length_eq; have q2 := ((Short.rel hSM (itemV ((acts.getD i act0).d) ((acts.getD i act0).s)) ((acts.getD i act0).c))).1; omega) (itemV ((acts.getD i act0).d) ((acts.getD i act0).s))) ?_
          rintro _ w202 ⟨rfl, T203⟩
          have H204 : Sat w [cellC r 52 ([(.map (some b))] : List Value), mapC b strV (Value.int .i64) (relL M (itemV ((acts.getD i act0).d) ((acts.getD i act0).s)) ((acts.getD i act0).c)), cellC q 46 ([(.slice a190 L192.length c191)] : List Value), rowC 61 2 (.slice a190 L192.length c191) L192.length (L192.flatMap encO), restC w (sepC (bothL r b M0 q a0 c0 L0)).fp, cellC b18 40 ([(.int .i64 ((acts.getD i act0).d)), (.int .i64 ((acts.getD i act0).c)), (strV ((acts.getD i act0).s))] : List Value)] w202 := (Sat.turnL (L' := [cellC q 46 ([(.slice a190 L192.length c191)] : List Value), rowC 61 2 (.slice a190 L192.length c191) L192.length (L192.flatMap encO)]) (R := [cellC r 52 ([(.map (some b))] : List Value), mapC b strV (Value.int .i64) (relL M (itemV ((acts.getD i act0).d) ((acts.getD i act0).s)) ((acts.getD i act0).c)), restC w (sepC (bothL r b M0 q a0 c0 L0)).fp, cellC b18 40 ([(.int .i64 ((acts.getD i act0).d)), (.int .i64 ((acts.getD i act0).c)), (strV ((acts.getD i act0).s))] : List Value)]) H199 [2, 3] [0, 1, 4, 5] (by decide) (by kernel_rfl) rfl T203).pick [2, 3, 0, 1, 4, 5] (by decide)
          refine ⟨_, rfl, ?_⟩
          refine hK201 _ _ ?_
          clear hK201 K201
          refine wl_pure (wants0 rfl) (d := 67) (v := (.tuple #[(.int .i64 ((lookM L192 (itemV ((acts.getD i act0).d) ((acts.getD i act0).s))).getD 0)), (.bool ((lookM L192 (itemV ((acts.getD i act0).d) ((acts.getD i act0).s))).isSome))])) rfl (by kernel_rfl) ?_
          refine wl_pure (wants0 rfl) (d := 71) (v := (.int .i64 ((lookM L192 (itemV ((acts.getD i act0).d) ((acts.getD i act0).s))).getD 0))) rfl (by kernel_rfl) ?_
          refine wl_pure (wants0 rfl) (d := 72) (v := (.bool ((lookM L192 (itemV ((acts.getD i act0).d) ((acts.getD i act0).s))).isSome))) rfl (by kernel_rfl) ?_
          refine wl_pure (wants0 rfl) (d := 14) (v := (.int .i64 ((lookM L192 (itemV ((acts.getD i act0).d) ((acts.getD i act0).s))).getD 0))) rfl (by kernel_rfl) ?_
          refine wl_pure (wants0 rfl) (d := 15) (v := (.bool ((lookM L192 (itemV ((acts.getD i act0).d) ((acts.getD i act0).s))).isSome))) rfl (by kernel_rfl) ?_
          refine w_nil ?_
          refine then_normal ?_
          refine w_seq ?_
          refine w_lit ?_
          refine wl_pure (wants0 rfl) (d := 73) (v := (.bool true)) rfl (by kernel_rfl) ?_
          refine wl_pure (wants0 rfl) (d := 74) (v := (.bool false)) rfl (by kernel_rfl) ?_
          refine wl_pure (wants0 rfl) (d := 75) (v := (.bool false)) rfl (by kernel_rfl) ?_
          refine wl_pure (wantsY 2 75 false rfl (by kernel_rfl) rfl (by kernel_rfl)) (d := 76) (v := (.int .i64 ((lookM (relL M (itemV ((acts.getD i act0).d) ((acts.getD i act0).s)) ((acts.getD i act0).c)) (itemV ((acts.getD i act0).d) ((acts.getD i act0).s))).getD 0))) rfl (by kernel_rfl) ?_
          refine wl_pure (wantsY 2 75 false rfl (by kernel_rfl) rfl (by kernel_rfl)) (d := 77) (v := (.int .i64 ((lookM L192 (itemV ((acts.getD i act0).d) ((acts.getD i act0).s))).getD 0))) rfl (by kernel_rfl) ?_
          refine wl_pure (wantsY 2 75 false rfl (by kernel_rfl) rfl (by kernel_rfl)) (d := 78) (v := (.bool (!(decide (((lookM (relL M (itemV ((acts.getD i act0).d) ((acts.getD i act0).s)) ((acts.getD i act0).c)) (itemV ((acts.getD i act0).d) ((acts.getD i act0).s))).getD 0) = ((lookM L192 (itemV ((acts.getD i act0).d) ((acts.getD i act0).s))).getD 0)))))) rfl (by kernel_rfl) ?_
          refine wl_pure (wants0 rfl) (d := 79) (v := (.bool (!(decide (((lookM (relL M (itemV ((acts.getD i act0).d) ((acts.getD i act0).s)) ((acts.getD i act0).c)) (itemV ((acts.getD i act0).d) ((acts.getD i act0).s))).getD 0) = ((lookM L192 (itemV ((acts.getD i act0).d) ((acts.getD i act0).s))).getD 0)))))) rfl (by kernel_rfl) ?_
          refine wl_pure (wants0 rfl) (d := 80) (v := (.bool (!(decide (((lookM (relL M (itemV ((acts.getD i act0).d) ((acts.getD i act0).s)) ((acts.getD i act0).c)) (itemV ((acts.getD i act0).d) ((acts.getD i act0).s))).getD 0) = ((lookM L192 (itemV ((acts.getD i act0).d) ((acts.getD i act0).s))).getD 0)))))) rfl (by kernel_rfl) ?_
          have b205 : (!(decide (((lookM (relL M (itemV ((acts.getD i act0).d) ((acts.getD i act0).s)) ((acts.getD i act0).c)) (itemV ((acts.getD i act0).d) ((acts.getD i act0).s))).getD 0) = ((lookM L192 (itemV ((acts.getD i act0).d) ((acts.getD i act0).s))).getD 0)))) = false := by rw [hlk, decide_eq_true rfl]; rfl
          refine wl_know 80 (.bool false) (congrArg Value.bool b205) ?_
          have g206 := bnot_false b205
          have g207 := of_decide_eq_true g206
          refine wl_pure (wantsY 7 80 false rfl (by kernel_rfl) rfl (by kernel_rfl)) (d := 81) (v := (.bool ((lookM (relL M (itemV ((acts.getD i act0).d) ((acts.getD i act0).s)) ((acts.getD i act0).c)) (itemV ((acts.getD i act0).d) ((acts.getD i act0).s))).isSome))) rfl (by kernel_rfl) ?_
          refine wl_pure (wantsY 7 80 false rfl (by kernel_rfl) rfl (by kernel_rfl)) (d := 82) (v := (.bool ((lookM L192 (itemV ((acts.getD i act0).d) ((acts.getD i act0).s))).isSome))) rfl (by kernel_rfl) ?_
          refine wl_pure (wantsY 7 80 false rfl (by kernel_rfl) rfl (by kernel_rfl)) (d := 83) (v := (.bool (!(((lookM (relL M (itemV ((acts.getD i act0).d) ((acts.getD i act0).s)) ((acts.getD i act0).c)) (itemV ((acts.getD i act0).d) ((acts.getD i act0).s))).isSome) == ((lookM L192 (itemV ((acts.getD i act0).d) ((acts.getD i act0).s))).isSome))))) rfl (by kernel_rfl) ?_
          refine wl_pure (wants0 rfl) (d := 84) (v := (.bool (!(((lookM (relL M (itemV ((acts.getD i act0).d) ((acts.getD i act0).s)) ((acts.getD i act0).c)) (itemV ((acts.getD i act0).d) ((acts.getD i act0).s))).isSome) == ((lookM L192 (itemV ((acts.getD i act0).d) ((acts.getD i act0).s))).isSome))))) rfl (by kernel_rfl) ?_
          refine wl_pure (wants0 rfl) (d := 85) (v := (.bool (!(((lookM (relL M (itemV ((acts.getD i act0).d) ((acts.getD i act0).s)) ((acts.getD i act0).c)) (itemV ((acts.getD i act0).d) ((acts.getD i act0).s))).isSome) == ((lookM L192 (itemV ((acts.getD i act0).d) ((acts.getD i act0).s))).isSome))))) rfl (by kernel_rfl) ?_
          have b208 : (!(((lookM (relL M (itemV ((acts.getD i act0).d) ((acts.getD i act0).s)) ((acts.getD i act0).c)) (itemV ((acts.getD i act0).d) ((acts.getD i act0).s))).isSome) == ((lookM L192 (itemV ((acts.getD i act0).d) ((acts.getD i act0).s))).isSome))) = false := by rw [hlk]; simp
          refine wl_know 85 (.bool false) (congrArg Value.bool b208) ?_
          have g209 := bnot_false b208
          refine wl_pure (wantsY 12 85 false rfl (by kernel_rfl) rfl (by kernel_rfl)) (d := 86) (v := (.pointer (some ⟨r, 0, none⟩))) rfl (by kernel_rfl) ?_
          refine wl_do (wantsY 12 85 false rfl (by kernel_rfl) rfl (by kernel_rfl)) (fun K210 hK210 => ?_)
          refine d_call (d := 87) rfl (by kernel_rfl) (items_any w202 r b (relL M (itemV ((acts.getD i act0).d) ((acts.getD i act0).s)) ((acts.getD i act0).c)) (H204.fin [0, 1] (by decide) rfl) (Short.rel hSM (itemV ((acts.getD i act0).d) ((acts.getD i act0).s)) ((acts.getD i act0).c))) ?_
          rintro _ w211 ⟨u212, rfl, k213, p214, q215⟩
          have H216 : Sat w [cellC r 52 ([(.map (some b))] : List Value), mapC b strV (Value.int .i64) (relL M (itemV ((acts.getD i act0).d) ((acts.getD i act0).s)) ((acts.getD i act0).c)), cellC q 46 ([(.slice a190 L192.length c191)] : List Value), rowC 61 2 (.slice a190 L192.length c191) L192.length (L192.flatMap encO), restC w (sepC (bothL r b M0 q a0 c0 L0)).fp, cellC b18 40 ([(.int .i64 ((acts.getD i act0).d)), (.int .i64 ((acts.getD i act0).c)), (strV ((acts.getD i act0).s))] : List Value), rowC 9 1 u212 ((sortK ((relL M (itemV ((acts.getD i act0).d) ((acts.getD i act0).s)) ((acts.getD i act0).c)) : RegL)).length) ((sortK ((relL M (itemV ((acts.getD i act0).d) ((acts.getD i act0).s)) ((acts.getD i act0).c)) : RegL)).flatMap encS)] w211 := H204.addU p214 k213 q215
          obtain ⟨a217, c218, rfl⟩ := ownsRow_shape (H216.at 6 rfl)
          refine ⟨_, rfl, ?_⟩
          refine hK210 _ _ ?_
          clear hK210 K210
          refine wl_pure (wantsY 12 85 false rfl (by kernel_rfl) rfl (by kernel_rfl)) (d := 88) (v := (.pointer (some ⟨q, 0, none⟩))) rfl (by kernel_rfl) ?_
          refine wl_do (wantsY 12 85 false rfl (by kernel_rfl) rfl (by kernel_rfl)) (fun K219 hK219 => ?_)
          refine d_call (d := 89) rfl (by kernel_rfl) (rItems_any w211 q a190 c191 L192 (H216.fin [2, 3] (by decide) rfl) (by have q1 := P196.length_eq; have q2 := ((Short.rel hSM (itemV ((acts.getD i act0).d) ((acts.getD i act0).s)) ((acts.getD i act0).c))).1; omega)) ?_
          rintro _ w220 ⟨u222, rfl, T221⟩
          have H225 : Sat w [cellC r 52 ([(.map (some b))] : List Value), mapC b strV (Value.int .i64) (relL M (itemV ((acts.getD i act0).d) ((acts.getD i act0).s)) ((acts.getD i act0).c)), cellC q 46 ([(.slice a190 L192.length c191)] : List Value), rowC 61 2 (.slice a190 L192.length c191) L192.length (L192.flatMap encO), restC w (sepC (bothL r b M0 q a0 c0 L0)).fp, cellC b18 40 ([(.int .i64 ((acts.getD i act0).d)), (.int .i64 ((acts.getD i act0).c)), (strV ((acts.getD i act0).s))] : List Value), rowC 9 1 (.slice a217 ((sortK ((relL M (itemV ((acts.getD i act0).d) ((acts.getD i act0).s)) ((acts.getD i act0).c)) : RegL)).length) c218) ((sortK ((relL M (itemV ((acts.getD i act0).d) ((acts.getD i act0).s)) ((acts.getD i act0).c)) : RegL)).length) ((sortK ((relL M (itemV ((acts.getD i act0).d) ((acts.getD i act0).s)) ((acts.getD i act0).c)) : RegL)).flatMap encS), rowC 9 1 u222 ((L192.map (fun (x : List UInt8 × Int) => x.1)).length) ((L192.map (fun (x : List UInt8 × Int) => x.1)).flatMap encS)] w220 := (Sat.turnL (L' := [cellC q 46 ([(.slice a190 L192.length c191)] : List Value), rowC 61 2 (.slice a190 L192.length c191) L192.length (L192.flatMap encO), rowC 9 1 u222 ((L192.map (fun (x : List UInt8 × Int) => x.1)).length) ((L192.map (fun (x : List UInt8 × Int) => x.1)).flatMap encS)]) (R := [cellC r 52 ([(.map (some b))] : List Value), mapC b strV (Value.int .i64) (relL M (itemV ((acts.getD i act0).d) ((acts.getD i act0).s)) ((acts.getD i act0).c)), restC w (sepC (bothL r b M0 q a0 c0 L0)).fp, cellC b18 40 ([(.int .i64 ((acts.getD i act0).d)), (.int .i64 ((acts.getD i act0).c)), (strV ((acts.getD i act0).s))] : List Value), rowC 9 1 (.slice a217 ((sortK ((relL M (itemV ((acts.getD i act0).d) ((acts.getD i act0).s)) ((acts.getD i act0).c)) : RegL)).length) c218) ((sortK ((relL M (itemV ((acts.getD i act0).d) ((acts.getD i act0).s)) ((acts.getD i act0).c)) : RegL)).length) ((sortK ((relL M (itemV ((acts.getD i act0).d) ((acts.getD i act0).s)) ((acts.getD i act0).c)) : RegL)).flatMap encS)]) H216 [2, 3] [0, 1, 4, 5, 6] (by decide) (by kernel_rfl) rfl T221).pick [3, 4, 0, 1, 5, 6, 7, 2] (by decide)
          obtain ⟨a223, c224, rfl⟩ := ownsRow_shape (H225.at 7 rfl)
          refine ⟨_, rfl, ?_⟩
          refine hK219 _ _ ?_
          clear hK219 K219
          refine wl_do (wantsY 12 85 false rfl (by kernel_rfl) rfl (by kernel_rfl)) (fun K226 hK226 => ?_)
          refine d_call (d := 90) rfl (by kernel_rfl) (sameS_any w220 (.slice a217 ((sortK ((relL M (itemV ((acts.getD i act0).d) ((acts.getD i act0).s)) ((acts.getD i act0).c)) : RegL)).length) c218) (.slice a223 ((L192.map (fun (x : List UInt8 × Int) => x.1)).length) c224) (sortK ((relL M (itemV ((acts.getD i act0).d) ((acts.getD i act0).s)) ((acts.getD i act0).c)) : RegL)) (L192.map (fun (x : List UInt8 × Int) => x.1)) (ListAt.row (enc := encS) (sz := 1) encS_len (by decide) (H225.at 6 rfl)) (ListAt.row (enc := encS) (sz := 1) encS_len (by decide) (H225.at 7 rfl)) (by omega)) ?_
          rintro _ w227 ⟨rfl, u229⟩
          have H228 := H225.keepU u229
          refine ⟨_, rfl, ?_⟩
          refine hK226 _ _ ?_
          clear hK226 K226
          refine wl_pure (wantsY 12 85 false rfl (by kernel_rfl) rfl (by kernel_rfl)) (d := 91) (v := (.bool (!(decide ((sortK ((relL M (itemV ((acts.getD i act0).d) ((acts.getD i act0).s)) ((acts.getD i act0).c)) : RegL)) = (L192.map (fun (x : List UInt8 × Int) => x.1))))))) rfl (by kernel_rfl) ?_
          refine wl_pure (wants0 rfl) (d := 92) (v := (.bool (!(decide ((sortK ((relL M (itemV ((acts.getD i act0).d) ((acts.getD i act0).s)) ((acts.getD i act0).c)) : RegL)) = (L192.map (fun (x : List UInt8 × Int) => x.1))))))) rfl (by kernel_rfl) ?_
          refine wl_pure (wants0 rfl) (d := 93) (v := (.bool (!(decide ((sortK ((relL M (itemV ((acts.getD i act0).d) ((acts.getD i act0).s)) ((acts.getD i act0).c)) : RegL)) = (L192.map (fun (x : List UInt8 × Int) => x.1))))))) rfl (by kernel_rfl) ?_
          have b230 : (!(decide ((sortK ((relL M (itemV ((acts.getD i act0).d) ((acts.getD i act0).s)) ((acts.getD i act0).c)) : RegL)) = (L192.map (fun (x : List UInt8 × Int) => x.1))))) = false := by rw [hso, decide_eq_true rfl]; rfl
          refine wl_know 93 (.bool false) (congrArg Value.bool b230) ?_
          have g231 := bnot_false b230
          refine wl_pure (wantsY 20 93 false rfl (by kernel_rfl) rfl (by kernel_rfl)) (d := 94) (v := (.pointer (some ⟨r, 0, none⟩))) rfl (by kernel_rfl) ?_
          refine wl_pure (wantsY 20 93 false rfl (by kernel_rfl) rfl (by kernel_rfl)) (d := 95) (v := (.int .i64 ((acts.getD i act0).c))) rfl (by kernel_rfl) ?_
          refine wl_do (wantsY 20 93 false rfl (by kernel_rfl) rfl (by kernel_rfl)) (fun K232 hK232 => ?_)
          refine d_call (d := 96) rfl (by kernel_rfl) (count_any w227 r b (relL M (itemV ((acts.getD i act0).d) ((acts.getD i act0).s)) ((acts.getD i act0).c)) (H228.fin [0, 1] (by decide) rfl) (Short.rel hSM (itemV ((acts.getD i act0).d) ((acts.getD i act0).s)) ((acts.getD i act0).c)) ((acts.getD i act0).c)) ?_
          rintro _ w233 ⟨rfl, u235⟩
          have H234 := H228.keepU u235
          refine ⟨_, rfl, ?_⟩
          refine hK232 _ _ ?_
          clear hK232 K232
          refine wl_pure (wantsY 20 93 false rfl (by kernel_rfl) rfl (by kernel_rfl)) (d := 97) (v := (.pointer (some ⟨q, 0, none⟩))) rfl (by kernel_rfl) ?_
          refine wl_pure (wantsY 20 93 false rfl (by kernel_rfl) rfl (by kernel_rfl)) (d := 98) (v := (.int .i64 ((acts.getD i act0).c))) rfl (by kernel_rfl) ?_
          refine wl_do (wantsY 20 93 false rfl (by kernel_rfl) rfl (by kernel_rfl)) (fun K236 hK236 => ?_)
          refine d_call (d := 99) rfl (by kernel_rfl) (rCount_any w233 q a190 c191 L192 (H234.fin [2, 3] (by decide) rfl) (by have q1 := P196.length_eq; have q2 := ((Short.rel hSM (itemV ((acts.getD i act0).d) ((acts.getD i act0).s)) ((acts.getD i act0).c))).1; omega) ((acts.getD i act0).c)) ?_
          rintro _ w237 ⟨rfl, T238⟩
          have H239 : Sat w [cellC r 52 ([(.map (some b))] : List Value), mapC b strV (Value.int .i64) (relL M (itemV ((acts.getD i act0).d) ((acts.getD i act0).s)) ((acts.getD i act0).c)), cellC q 46 ([(.slice a190 L192.length c191)] : List Value), rowC 61 2 (.slice a190 L192.length c191) L192.length (L192.flatMap encO), restC w (sepC (bothL r b M0 q a0 c0 L0)).fp, cellC b18 40 ([(.int .i64 ((acts.getD i act0).d)), (.int .i64 ((acts.getD i act0).c)), (strV ((acts.getD i act0).s))] : List Value), rowC 9 1 (.slice a217 ((sortK ((relL M (itemV ((acts.getD i act0).d) ((acts.getD i act0).s)) ((acts.getD i act0).c)) : RegL)).length) c218) ((sortK ((relL M (itemV ((acts.getD i act0).d) ((acts.getD i act0).s)) ((acts.getD i act0).c)) : RegL)).length) ((sortK ((relL M (itemV ((acts.getD i act0).d) ((acts.getD i act0).s)) ((acts.getD i act0).c)) : RegL)).flatMap encS), rowC 9 1 (.slice a223 ((L192.map (fun (x : List UInt8 × Int) => x.1)).length) c224) ((L192.map (fun (x : List UInt8 × Int) => x.1)).length) ((L192.map (fun (x : List UInt8 × Int) => x.1)).flatMap encS)] w237 := (Sat.turnL (L' := [cellC q 46 ([(.slice a190 L192.length c191)] : List Value), rowC 61 2 (.slice a190 L192.length c191) L192.length (L192.flatMap encO)]) (R := [cellC r 52 ([(.map (some b))] : List Value), mapC b strV (Value.int .i64) (relL M (itemV ((acts.getD i act0).d) ((acts.getD i act0).s)) ((acts.getD i act0).c)), restC w (sepC (bothL r b M0 q a0 c0 L0)).fp, cellC b18 40 ([(.int .i64 ((acts.getD i act0).d)), (.int .i64 ((acts.getD i act0).c)), (strV ((acts.getD i act0).s))] : List Value), rowC 9 1 (.slice a217 ((sortK ((relL M (itemV ((acts.getD i act0).d) ((acts.getD i act0).s)) ((acts.getD i act0).c)) : RegL)).length) c218) ((sortK ((relL M (itemV ((acts.getD i act0).d) ((acts.getD i act0).s)) ((acts.getD i act0).c)) : RegL)).length) ((sortK ((relL M (itemV ((acts.getD i act0).d) ((acts.getD i act0).s)) ((acts.getD i act0).c)) : RegL)).flatMap encS), rowC 9 1 (.slice a223 ((L192.map (fun (x : List UInt8 × Int) => x.1)).length) c224) ((L192.map (fun (x : List UInt8 × Int) => x.1)).length) ((L192.map (fun (x : List UInt8 × Int) => x.1)).flatMap encS)]) H234 [2, 3] [0, 1, 4, 5, 6, 7] (by decide) (by kernel_rfl) rfl T238).pick [2, 3, 0, 1, 4, 5, 6, 7] (by decide)
          refine ⟨_, rfl, ?_⟩
          refine hK236 _ _ ?_
          clear hK236 K236
          refine wl_pure (wantsY 20 93 false rfl (by kernel_rfl) rfl (by kernel_rfl)) (d := 100) (v := (.bool (!(decide ((cntL (relL M (itemV ((acts.getD i act0).d) ((acts.getD i act0).s)) ((acts.getD i act0).c)) ((acts.getD i act0).c)) = (cntL L192 ((acts.getD i act0).c))))))) rfl (by kernel_rfl) ?_
          refine wl_pure (wants0 rfl) (d := 101) (v := (.bool (!(decide ((cntL (relL M (itemV ((acts.getD i act0).d) ((acts.getD i act0).s)) ((acts.getD i act0).c)) ((acts.getD i act0).c)) = (cntL L192 ((acts.getD i act0).c))))))) rfl (by kernel_rfl) ?_
          refine w_nil ?_
          refine then_normal ?_
          have b240 : (!(decide ((cntL (relL M (itemV ((acts.getD i act0).d) ((acts.getD i act0).s)) ((acts.getD i act0).c)) ((acts.getD i act0).c)) = (cntL L192 ((acts.getD i act0).c))))) = false := by rw [hct, decide_eq_true rfl]; rfl
          refine wp_know 101 (.bool false) (congrArg Value.bool b240) ?_
          have g241 := bnot_false b240
          have g242 := of_decide_eq_true g241
          refine wp_iff rfl ?_
          refine w_skip ?_
          refine blk_normal ?_
          refine then_normal ?_
          refine w_lit ?_
          refine wl_pure (wants0 rfl) (d := 24) (v := (.int .i64 ((i : Int)))) rfl (by kernel_rfl) ?_
          refine wl_pure (wants0 rfl) (d := 25) (v := (.int .i64 ((i : Int) + 1))) rfl (e_int (z := (i : Int) + 1) (by kernel_rfl) (IntWalk.i64_in _ (by omega))) ?_
          refine wl_pure (wants0 rfl) (d := 7) (v := (.int .i64 ((i : Int) + 1))) rfl (by kernel_rfl) ?_
          refine w_nil ?_
          have H243 : Sat w [cellC r 52 ([(.map (some b))] : List Value), mapC b strV (Value.int .i64) (relL M (itemV ((acts.getD i act0).d) ((acts.getD i act0).s)) ((acts.getD i act0).c)), cellC q 46 ([(.slice a190 L192.length c191)] : List Value), rowC 61 2 (.slice a190 L192.length c191) L192.length (L192.flatMap encO), restC w (sepC (bothL r b M0 q a0 c0 L0)).fp] w237 := H239.pick [0, 1, 2, 3, 4] (by decide)
          refine round_back ?_ _ ⟨(i + 1), (relL M (itemV ((acts.getD i act0).d) ((acts.getD i act0).s)) ((acts.getD i act0).c)), a190, c191, L192, (show ((.int .i64 ((i : Int) + 1)) : Value) = _ by first | rfl | go_num), by omega, (Short.rel hSM (itemV ((acts.getD i act0).d) ((acts.getD i act0).s)) ((acts.getD i act0).c)), P196, s193, H243, rfl⟩ (by omega)
          exact (same_upd rfl (same_upd rfl (same_upd rfl (same_upd rfl (same_upd rfl (same_upd rfl (same_upd rfl (same_upd rfl (same_upd rfl (same_upd rfl (same_upd rfl (same_upd rfl (same_upd rfl (same_upd rfl (same_upd rfl (same_upd rfl (same_upd rfl (same_upd rfl (same_upd rfl (same_upd rfl (same_upd rfl (same_upd rfl (same_upd rfl (same_upd rfl (same_upd rfl (same_upd rfl (same_upd rfl (same_upd rfl (same_upd rfl (same_upd rfl (same_upd rfl (same_upd rfl (same_upd rfl (same_upd rfl (same_upd rfl (same_upd rfl (same_upd rfl (same_upd rfl (same_upd rfl (same_upd rfl (same_upd rfl (same_upd rfl (same_upd rfl (same_upd rfl (same_upd rfl (same_upd rfl (same_upd rfl (same_upd rfl (same_upd rfl (same_upd rfl (same_upd rfl (same_upd rfl (same_upd rfl (same_upd rfl (same_upd rfl (same_upd rfl (same_upd rfl (same_upd rfl (same_upd rfl (same_upd rfl (same_upd rfl (same_upd rfl (same_upd rfl (same_upd rfl (same_upd rfl (same_upd rfl (same_upd rfl (same_upd rfl (same_upd rfl (same_upd rfl (same_upd rfl (same_upd rfl (same_upd rfl (same_upd rfl (same_upd rfl (same_upd rfl (same_upd rfl (same_upd rfl (same_upd rfl (same_upd rfl (same_upd rfl (same_upd rfl (same_upd rfl (same_upd rfl (same_upd rfl (same_upd rfl (same_upd rfl (same_upd rfl (same_upd rfl (same_upd rfl (same_upd rfl (same_upd rfl (same_upd rfl (same_upd rfl (same_upd rfl (same_ovr))))))))))))))))))))))))))))))))))))))))))))))))))))))))))))))))))))))))))))))))))))))))))))))))
        · have g244 := of_decide_eq_false b179
          refine wp_know 42 (.bool false) (congrArg Value.bool b179) ?_
          have g245 := of_decide_eq_false b179
          refine wp_iff rfl ?_
          refine w_lit ?_
          refine wl_pure (wants0 rfl) (d := 52) (v := (.pointer (some ⟨r, 0, none⟩))) rfl (by kernel_rfl) ?_
          refine wl_pure (wants0 rfl) (d := 53) (v := (strV (itemV ((acts.getD i act0).d) ((acts.getD i act0).s)))) rfl (by kernel_rfl) ?_
          refine wl_pure (wants0 rfl) (d := 54) (v := (.int .i64 ((acts.getD i act0).c))) rfl (by kernel_rfl) ?_
          refine wl_do (wants0 rfl) (fun K246 hK246 => ?_)
          refine d_call (d := 55) rfl (by kernel_rfl) (reserve_any w176 r b M (H177.fin [0, 1] (by decide) rfl) hSM (itemV ((acts.getD i act0).d) ((acts.getD i act0).s)) (by have q := itemV_len (acts.getD i act0).d (acts.getD i act0).s; omega) ((acts.getD i act0).c)) ?_
          rintro _ w247 ⟨rfl, T248⟩
          have H250 : Sat w [cellC r 52 ([(.map (some b))] : List Value), mapC b strV (Value.int .i64) (resL M (itemV ((acts.getD i act0).d) ((acts.getD i act0).s)) ((acts.getD i act0).c)), cellC q 46 ([(.slice a L.length c)] : List Value), rowC 61 2 (.slice a L.length c) L.length (L.flatMap encO), restC w (sepC (bothL r b M0 q a0 c0 L0)).fp, cellC b18 40 ([(.int .i64 ((acts.getD i act0).d)), (.int .i64 ((acts.getD i act0).c)), (strV ((acts.getD i act0).s))] : List Value)] w247 := (Sat.turnL (L' := [cellC r 52 ([(.map (some b))] : List Value), mapC b strV (Value.int .i64) (resL M (itemV ((acts.getD i act0).d) ((acts.getD i act0).s)) ((acts.getD i act0).c))]) (R := [cellC q 46 ([(.slice a L.length c)] : List Value), rowC 61 2 (.slice a L.length c) L.length (L.flatMap encO), restC w (sepC (bothL r b M0 q a0 c0 L0)).fp, cellC b18 40 ([(.int .i64 ((acts.getD i act0).d)), (.int .i64 ((acts.getD i act0).c)), (strV ((acts.getD i act0).s))] : List Value)]) H177 [0, 1] [2, 3, 4, 5] (by decide) (by kernel_rfl) rfl T248).pick [0, 1, 2, 3, 4, 5] (by decide)
          refine ⟨_, rfl, ?_⟩
          refine hK246 _ _ ?_
          clear hK246 K246
          refine wl_pure (wants0 rfl) (d := 56) (v := (.pointer (some ⟨q, 0, none⟩))) rfl (by kernel_rfl) ?_
          refine wl_pure (wants0 rfl) (d := 57) (v := (strV (itemV ((acts.getD i act0).d) ((acts.getD i act0).s)))) rfl (by kernel_rfl) ?_
          refine wl_pure (wants0 rfl) (d := 58) (v := (.int .i64 ((acts.getD i act0).c))) rfl (by kernel_rfl) ?_
          refine wl_do (wants0 rfl) (fun K251 hK251 => ?_)
          refine d_call (d := 59) rfl (by kernel_rfl) (rReserve_any w247 q a c L (H250.fin [2, 3] (by decide) rfl) (by have q1 := hP.length_eq; have q2 := hSM.1; omega) hS (itemV ((acts.getD i act0).d) ((acts.getD i act0).s)) (by have q := itemV_len (acts.getD i act0).d (acts.getD i act0).s; omega) ((acts.getD i act0).c)) ?_
          rintro _ w252 ⟨a254, c255, L256, rfl, T253, s257, p258⟩
          have H259 : Sat w [cellC r 52 ([(.map (some b))] : List Value), mapC b strV (Value.int .i64) (resL M (itemV ((acts.getD i act0).d) ((acts.getD i act0).s)) ((acts.getD i act0).c)), cellC q 46 ([(.slice a254 L256.length c255)] : List Value), rowC 61 2 (.slice a254 L256.length c255) L256.length (L256.flatMap encO), restC w (sepC (bothL r b M0 q a0 c0 L0)).fp, cellC b18 40 ([(.int .i64 ((acts.getD i act0).d)), (.int .i64 ((acts.getD i act0).c)), (strV ((acts.getD i act0).s))] : List Value)] w252 := (Sat.turnL (L' := [cellC q 46 ([(.slice a254 L256.length c255)] : List Value), rowC 61 2 (.slice a254 L256.length c255) L256.length (L256.flatMap encO)]) (R := [cellC r 52 ([(.map (some b))] : List Value), mapC b strV (Value.int .i64) (resL M (itemV ((acts.getD i act0).d) ((acts.getD i act0).s)) ((acts.getD i act0).c)), restC w (sepC (bothL r b M0 q a0 c0 L0)).fp, cellC b18 40 ([(.int .i64 ((acts.getD i act0).d)), (.int .i64 ((acts.getD i act0).c)), (strV ((acts.getD i act0).s))] : List Value)]) H250 [2, 3] [0, 1, 4, 5] (by decide) (by kernel_rfl) rfl T253).pick [2, 3, 0, 1, 4, 5] (by decide)
          have P260 : (resL M (itemV ((acts.getD i act0).d) ((acts.getD i act0).s)) ((acts.getD i act0).c)).Perm L256 := (resL_perm hP hS).trans p258.symm
          refine ⟨_, rfl, ?_⟩
          refine hK251 _ _ ?_
          clear hK251 K251
          refine wl_pure (wants0 rfl) (d := 60) (v := (.bool (decide ((resE M (itemV ((acts.getD i act0).d) ((acts.getD i act0).s)) ((acts.getD i act0).c)) = (resE L (itemV ((acts.getD i act0).d) ((acts.getD i act0).s)) ((acts.getD i act0).c)))))) rfl (by kernel_rfl) ?_
          refine wl_pure (wants0 rfl) (d := 11) (v := (.bool (decide ((resE M (itemV ((acts.getD i act0).d) ((acts.getD i act0).s)) ((acts.getD i act0).c)) = (resE L (itemV ((acts.getD i act0).d) ((acts.getD i act0).s)) ((acts.getD i act0).c)))))) rfl (by kernel_rfl) ?_
          refine w_nil ?_
          refine then_normal ?_
          refine w_seq ?_
          refine wp_know 11 (.bool true) (show ((.bool (decide ((resE M (itemV ((acts.getD i act0).d) ((acts.getD i act0).s)) ((acts.getD i act0).c)) = (resE L (itemV ((acts.getD i act0).d) ((acts.getD i act0).s)) ((acts.getD i act0).c))))) : Value) = _ by rw [resE_perm hP hS, decide_eq_true rfl]) ?_
          have hlk := fun s => lookM_perm (s := s) P260 s257
          have hct := fun d => cnt_perm (c := d) P260
          have hso := sortK_perm P260 s257
          have hln := sortK_len ((resL M (itemV ((acts.getD i act0).d) ((acts.getD i act0).s)) ((acts.getD i act0).c)) : RegL)
          have hsh := ((Short.res hSM (itemV ((acts.getD i act0).d) ((acts.getD i act0).s)) ((acts.getD i act0).c))).1
          refine w_lit ?_
          refine wl_pure (wants0 rfl) (d := 62) (v := (.pointer (some ⟨r, 0, none⟩))) rfl (by kernel_rfl) ?_
          refine wl_pure (wants0 rfl) (d := 63) (v := (strV (itemV ((acts.getD i act0).d) ((acts.getD i act0).s)))) rfl (by kernel_rfl) ?_
          refine wl_do (wants0 rfl) (fun K261 hK261 => ?_)
          refine d_call (d := 64) rfl (by kernel_rfl) (owner_any w252 r b (resL M (itemV ((acts.getD i act0).d) ((acts.getD i act0).s)) ((acts.getD i act0).c)) (H259.fin [0, 1] (by decide) rfl) (itemV ((acts.getD i act0).d) ((acts.getD i act0).s))) ?_
          rintro _ w262 ⟨rfl, u264⟩
          have H263 := H259.keepU u264
          refine ⟨_, rfl, ?_⟩
          refine hK261 _ _ ?_
          clear hK261 K261
          refine wl_pure (wants0 rfl) (d := 61) (v := (.tuple #[(.int .i64 ((lookM (resL M (itemV ((acts.getD i act0).d) ((acts.getD i act0).s)) ((acts.getD i act0).c)) (itemV ((acts.getD i act0).d) ((acts.getD i act0).s))).getD 0)), (.bool ((lookM (resL M (itemV ((acts.getD i act0).d) ((acts.getD i act0).s)) ((acts.getD i act0).c)) (itemV ((acts.getD i act0).d) ((acts.getD i act0).s))).isSome))])) rfl (by kernel_rfl) ?_
          refine wl_pure (wants0 rfl) (d := 65) (v := (.int .i64 ((lookM (resL M (itemV ((acts.getD i act0).d) ((acts.getD i act0).s)) ((acts.getD i act0).c)) (itemV ((acts.getD i act0).d) ((acts.getD i act0).s))).getD 0))) rfl (by kernel_rfl) ?_
          refine wl_pure (wants0 rfl) (d := 66) (v := (.bool ((lookM (resL M (itemV ((acts.getD i act0).d) ((acts.getD i act0).s)) ((acts.getD i act0).c)) (itemV ((acts.getD i act0).d) ((acts.getD i act0).s))).isSome))) rfl (by kernel_rfl) ?_
          refine wl_pure (wants0 rfl) (d := 12) (v := (.int .i64 ((lookM (resL M (itemV ((acts.getD i act0).d) ((acts.getD i act0).s)) ((acts.getD i act0).c)) (itemV ((acts.getD i act0).d) ((acts.getD i act0).s))).getD 0))) rfl (by kernel_rfl) ?_
          refine wl_pure (wants0 rfl) (d := 13) (v := (.bool ((lookM (resL M (itemV ((acts.getD i act0).d) ((acts.getD i act0).s)) ((acts.getD i act0).c)) (itemV ((acts.getD i act0).d) ((acts.getD i act0).s))).isSome))) rfl (by kernel_rfl) ?_
          refine w_nil ?_
          refine then_normal ?_
          refine w_seq ?_
          refine w_lit ?_
          refine wl_pure (wants0 rfl) (d := 68) (v := (.pointer (some ⟨q, 0, none⟩))) rfl (by kernel_rfl) ?_
          refine wl_pure (wants0 rfl) (d := 69) (v := (strV (itemV ((acts.getD i act0).d) ((acts.getD i act0).s)))) rfl (by kernel_rfl) ?_
          refine wl_do (wants0 rfl) (fun K265 hK265 => ?_)
          refine d_call (d := 70) rfl (by kernel_rfl) (rOwner_any w262 q a254 c255 L256 (H263.fin [2, 3] (by decide) rfl) (by have q1 := P260.length_eq; have q2 := ((Short.res hSM (itemV ((acts.getD i act0).d) ((acts.getD i act0).s)) ((acts.getD i act0).c))).1; omega) (itemV ((acts.getD i act0).d) ((acts.getD i act0).s))) ?_
          rintro _ w266 ⟨rfl, T267⟩
          have H268 : Sat w [cellC r 52 ([(.map (some b))] : List Value), mapC b strV (Value.int .i64) (resL M (itemV ((acts.getD i act0).d) ((acts.getD i act0).s)) ((acts.getD i act0).c)), cellC q 46 ([(.slice a254 L256.length c255)] : List Value), rowC 61 2 (.slice a254 L256.length c255) L256.length (L256.flatMap encO), restC w (sepC (bothL r b M0 q a0 c0 L0)).fp, cellC b18 40 ([(.int .i64 ((acts.getD i act0).d)), (.int .i64 ((acts.getD i act0).c)), (strV ((acts.getD i act0).s))] : List Value)] w266 := (Sat.turnL (L' := [cellC q 46 ([(.slice a254 L256.length c255)] : List Value), rowC 61 2 (.slice a254 L256.length c255) L256.length (L256.flatMap encO)]) (R := [cellC r 52 ([(.map (some b))] : List Value), mapC b strV (Value.int .i64) (resL M (itemV ((acts.getD i act0).d) ((acts.getD i act0).s)) ((acts.getD i act0).c)), restC w (sepC (bothL r b M0 q a0 c0 L0)).fp, cellC b18 40 ([(.int .i64 ((acts.getD i act0).d)), (.int .i64 ((acts.getD i act0).c)), (strV ((acts.getD i act0).s))] : List Value)]) H263 [2, 3] [0, 1, 4, 5] (by decide) (by kernel_rfl) rfl T267).pick [2, 3, 0, 1, 4, 5] (by decide)
          refine ⟨_, rfl, ?_⟩
          refine hK265 _ _ ?_
          clear hK265 K265
          refine wl_pure (wants0 rfl) (d := 67) (v := (.tuple #[(.int .i64 ((lookM L256 (itemV ((acts.getD i act0).d) ((acts.getD i act0).s))).getD 0)), (.bool ((lookM L256 (itemV ((acts.getD i act0).d) ((acts.getD i act0).s))).isSome))])) rfl (by kernel_rfl) ?_
          refine wl_pure (wants0 rfl) (d := 71) (v := (.int .i64 ((lookM L256 (itemV ((acts.getD i act0).d) ((acts.getD i act0).s))).getD 0))) rfl (by kernel_rfl) ?_
          refine wl_pure (wants0 rfl) (d := 72) (v := (.bool ((lookM L256 (itemV ((acts.getD i act0).d) ((acts.getD i act0).s))).isSome))) rfl (by kernel_rfl) ?_
          refine wl_pure (wants0 rfl) (d := 14) (v := (.int .i64 ((lookM L256 (itemV ((acts.getD i act0).d) ((acts.getD i act0).s))).getD 0))) rfl (by kernel_rfl) ?_
          refine wl_pure (wants0 rfl) (d := 15) (v := (.bool ((lookM L256 (itemV ((acts.getD i act0).d) ((acts.getD i act0).s))).isSome))) rfl (by kernel_rfl) ?_
          refine w_nil ?_
          refine then_normal ?_
          refine w_seq ?_
          refine w_lit ?_
          refine wl_pure (wants0 rfl) (d := 73) (v := (.bool true)) rfl (by kernel_rfl) ?_
          refine wl_pure (wants0 rfl) (d := 74) (v := (.bool false)) rfl (by kernel_rfl) ?_
          refine wl_pure (wants0 rfl) (d := 75) (v := (.bool false)) rfl (by kernel_rfl) ?_
          refine wl_pure (wantsY 2 75 false rfl (by kernel_rfl) rfl (by kernel_rfl)) (d := 76) (v := (.int .i64 ((lookM (resL M (itemV ((acts.getD i act0).d) ((acts.getD i act0).s)) ((acts.getD i act0).c)) (itemV ((acts.getD i act0).d) ((acts.getD i act0).s))).getD 0))) rfl (by kernel_rfl) ?_
          refine wl_pure (wantsY 2 75 false rfl (by kernel_rfl) rfl (by kernel_rfl)) (d := 77) (v := (.int .i64 ((lookM L256 (itemV ((acts.getD i act0).d) ((acts.getD i act0).s))).getD 0))) rfl (by kernel_rfl) ?_
          refine wl_pure (wantsY 2 75 false rfl (by kernel_rfl) rfl (by kernel_rfl)) (d := 78) (v := (.bool (!(decide (((lookM (resL M (itemV ((acts.getD i act0).d) ((acts.getD i act0).s)) ((acts.getD i act0).c)) (itemV ((acts.getD i act0).d) ((acts.getD i act0).s))).getD 0) = ((lookM L256 (itemV ((acts.getD i act0).d) ((acts.getD i act0).s))).getD 0)))))) rfl (by kernel_rfl) ?_
          refine wl_pure (wants0 rfl) (d := 79) (v := (.bool (!(decide (((lookM (resL M (itemV ((acts.getD i act0).d) ((acts.getD i act0).s)) ((acts.getD i act0).c)) (itemV ((acts.getD i act0).d) ((acts.getD i act0).s))).getD 0) = ((lookM L256 (itemV ((acts.getD i act0).d) ((acts.getD i act0).s))).getD 0)))))) rfl (by kernel_rfl) ?_
          refine wl_pure (wants0 rfl) (d := 80) (v := (.bool (!(decide (((lookM (resL M (itemV ((acts.getD i act0).d) ((acts.getD i act0).s)) ((acts.getD i act0).c)) (itemV ((acts.getD i act0).d) ((acts.getD i act0).s))).getD 0) = ((lookM L256 (itemV ((acts.getD i act0).d) ((acts.getD i act0).s))).getD 0)))))) rfl (by kernel_rfl) ?_
          have b269 : (!(decide (((lookM (resL M (itemV ((acts.getD i act0).d) ((acts.getD i act0).s)) ((acts.getD i act0).c)) (itemV ((acts.getD i act0).d) ((acts.getD i act0).s))).getD 0) = ((lookM L256 (itemV ((acts.getD i act0).d) ((acts.getD i act0).s))).getD 0)))) = false := by rw [hlk, decide_eq_true rfl]; rfl
          refine wl_know 80 (.bool false) (congrArg Value.bool b269) ?_
          have g270 := bnot_false b269
          have g271 := of_decide_eq_true g270
          refine wl_pure (wantsY 7 80 false rfl (by kernel_rfl) rfl (by kernel_rfl)) (d := 81) (v := (.bool ((lookM (resL M (itemV ((acts.getD i act0).d) ((acts.getD i act0).s)) ((acts.getD i act0).c)) (itemV ((acts.getD i act0).d) ((acts.getD i act0).s))).isSome))) rfl (by kernel_rfl) ?_
          refine wl_pure (wantsY 7 80 false rfl (by kernel_rfl) rfl (by kernel_rfl)) (d := 82) (v := (.bool ((lookM L256 (itemV ((acts.getD i act0).d) ((acts.getD i act0).s))).isSome))) rfl (by kernel_rfl) ?_
          refine wl_pure (wantsY 7 80 false rfl (by kernel_rfl) rfl (by kernel_rfl)) (d := 83) (v := (.bool (!(((lookM (resL M (itemV ((acts.getD i act0).d) ((acts.getD i act0).s)) ((acts.getD i act0).c)) (itemV ((acts.getD i act0).d) ((acts.getD i act0).s))).isSome) == ((lookM L256 (itemV ((acts.getD i act0).d) ((acts.getD i act0).s))).isSome))))) rfl (by kernel_rfl) ?_
          refine wl_pure (wants0 rfl) (d := 84) (v := (.bool (!(((lookM (resL M (itemV ((acts.getD i act0).d) ((acts.getD i act0).s)) ((acts.getD i act0).c)) (itemV ((acts.getD i act0).d) ((acts.getD i act0).s))).isSome) == ((lookM L256 (itemV ((acts.getD i act0).d) ((acts.getD i act0).s))).isSome))))) rfl (by kernel_rfl) ?_
          refine wl_pure (wants0 rfl) (d := 85) (v := (.bool (!(((lookM (resL M (itemV ((acts.getD i act0).d) ((acts.getD i act0).s)) ((acts.getD i act0).c)) (itemV ((acts.getD i act0).d) ((acts.getD i act0).s))).isSome) == ((lookM L256 (itemV ((acts.getD i act0).d) ((acts.getD i act0).s))).isSome))))) rfl (by kernel_rfl) ?_
          have b272 : (!(((lookM (resL M (itemV ((acts.getD i act0).d) ((acts.getD i act0).s)) ((acts.getD i act0).c)) (itemV ((acts.getD i act0).d) ((acts.getD i act0).s))).isSome) == ((lookM L256 (itemV ((acts.getD i act0).d) ((acts.getD i act0).s))).isSome))) = false := by rw [hlk]; simp
          refine wl_know 85 (.bool false) (congrArg Value.bool b272) ?_
          have g273 := bnot_false b272
          refine wl_pure (wantsY 12 85 false rfl (by kernel_rfl) rfl (by kernel_rfl)) (d := 86) (v := (.pointer (some ⟨r, 0, none⟩))) rfl (by kernel_rfl) ?_
          refine wl_do (wantsY 12 85 false rfl (by kernel_rfl) rfl (by kernel_rfl)) (fun K274 hK274 => ?_)
          refine d_call (d := 87) rfl (by kernel_rfl) (items_any w266 r b (resL M (itemV ((acts.getD i act0).d) ((acts.getD i act0).s)) ((acts.getD i act0).c)) (H268.fin [0, 1] (by decide) rfl) (Short.res hSM (itemV ((acts.getD i act0).d) ((acts.getD i act0).s)) ((acts.getD i act0).c))) ?_
          rintro _ w275 ⟨u276, rfl, k277, p278, q279⟩
          have H280 : Sat w [cellC r 52 ([(.map (some b))] : List Value), mapC b strV (Value.int .i64) (resL M (itemV ((acts.getD i act0).d) ((acts.getD i act0).s)) ((acts.getD i act0).c)), cellC q 46 ([(.slice a254 L256.length c255)] : List Value), rowC 61 2 (.slice a254 L256.length c255) L256.length (L256.flatMap encO), restC w (sepC (bothL r b M0 q a0 c0 L0)).fp, cellC b18 40 ([(.int .i64 ((acts.getD i act0).d)), (.int .i64 ((acts.getD i act0).c)), (strV ((acts.getD i act0).s))] : List Value), rowC 9 1 u276 ((sortK ((resL M (itemV ((acts.getD i act0).d) ((acts.getD i act0).s)) ((acts.getD i act0).c)) : RegL)).length) ((sortK ((resL M (itemV ((acts.getD i act0).d) ((acts.getD i act0).s)) ((acts.getD i act0).c)) : RegL)).flatMap encS)] w275 := H268.addU p278 k277 q279
          obtain ⟨a281, c282, rfl⟩ := ownsRow_shape (H280.at 6 rfl)
          refine ⟨_, rfl, ?_⟩
          refine hK274 _ _ ?_
          clear hK274 K274
          refine wl_pure (wantsY 12 85 false rfl (by kernel_rfl) rfl (by kernel_rfl)) (d := 88) (v := (.pointer (some ⟨q, 0, none⟩))) rfl (by kernel_rfl) ?_
          refine wl_do (wantsY 12 85 false rfl (by kernel_rfl) rfl (by kernel_rfl)) (fun K283 hK283 => ?_)
          refine d_call (d := 89) rfl (by kernel_rfl) (rItems_any w275 q a254 c255 L256 (H280.fin [2, 3] (by decide) rfl) (by have q1 := P260.length_eq; have q2 := ((Short.res hSM (itemV ((acts.getD i act0).d) ((acts.getD i act0).s)) ((acts.getD i act0).c))).1; omega)) ?_
          rintro _ w284 ⟨u286, rfl, T285⟩
          have H289 : Sat w [cellC r 52 ([(.map (some b))] : List Value), mapC b strV (Value.int .i64) (resL M (itemV ((acts.getD i act0).d) ((acts.getD i act0).s)) ((acts.getD i act0).c)), cellC q 46 ([(.slice a254 L256.length c255)] : List Value), rowC 61 2 (.slice a254 L256.length c255) L256.length (L256.flatMap encO), restC w (sepC (bothL r b M0 q a0 c0 L0)).fp, cellC b18 40 ([(.int .i64 ((acts.getD i act0).d)), (.int .i64 ((acts.getD i act0).c)), (strV ((acts.getD i act0).s))] : List Value), rowC 9 1 (.slice a281 ((sortK ((resL M (itemV ((acts.getD i act0).d) ((acts.getD i act0).s)) ((acts.getD i act0).c)) : RegL)).length) c282) ((sortK ((resL M (itemV ((acts.getD i act0).d) ((acts.getD i act0).s)) ((acts.getD i act0).c)) : RegL)).length) ((sortK ((resL M (itemV ((acts.getD i act0).d) ((acts.getD i act0).s)) ((acts.getD i act0).c)) : RegL)).flatMap encS), rowC 9 1 u286 ((L256.map (fun (x : List UInt8 × Int) => x.1)).length) ((L256.map (fun (x : List UInt8 × Int) => x.1)).flatMap encS)] w284 := (Sat.turnL (L' := [cellC q 46 ([(.slice a254 L256.length c255)] : List Value), rowC 61 2 (.slice a254 L256.length c255) L256.length (L256.flatMap encO), rowC 9 1 u286 ((L256.map (fun (x : List UInt8 × Int) => x.1)).length) ((L256.map (fun (x : List UInt8 × Int) => x.1)).flatMap encS)]) (R := [cellC r 52 ([(.map (some b))] : List Value), mapC b strV (Value.int .i64) (resL M (itemV ((acts.getD i act0).d) ((acts.getD i act0).s)) ((acts.getD i act0).c)), restC w (sepC (bothL r b M0 q a0 c0 L0)).fp, cellC b18 40 ([(.int .i64 ((acts.getD i act0).d)), (.int .i64 ((acts.getD i act0).c)), (strV ((acts.getD i act0).s))] : List Value), rowC 9 1 (.slice a281 ((sortK ((resL M (itemV ((acts.getD i act0).d) ((acts.getD i act0).s)) ((acts.getD i act0).c)) : RegL)).length) c282) ((sortK ((resL M (itemV ((acts.getD i act0).d) ((acts.getD i act0).s)) ((acts.getD i act0).c)) : RegL)).length) ((sortK ((resL M (itemV ((acts.getD i act0).d) ((acts.getD i act0).s)) ((acts.getD i act0).c)) : RegL)).flatMap encS)]) H280 [2, 3] [0, 1, 4, 5, 6] (by decide) (by kernel_rfl) rfl T285).pick [3, 4, 0, 1, 5, 6, 7, 2] (by decide)
          obtain ⟨a287, c288, rfl⟩ := ownsRow_shape (H289.at 7 rfl)
          refine ⟨_, rfl, ?_⟩
          refine hK283 _ _ ?_
          clear hK283 K283
          refine wl_do (wantsY 12 85 false rfl (by kernel_rfl) rfl (by kernel_rfl)) (fun K290 hK290 => ?_)
          refine d_call (d := 90) rfl (by kernel_rfl) (sameS_any w284 (.slice a281 ((sortK ((resL M (itemV ((acts.getD i act0).d) ((acts.getD i act0).s)) ((acts.getD i act0).c)) : RegL)).length) c282) (.slice a287 ((L256.map (fun (x : List UInt8 × Int) => x.1)).length) c288) (sortK ((resL M (itemV ((acts.getD i act0).d) ((acts.getD i act0).s)) ((acts.getD i act0).c)) : RegL)) (L256.map (fun (x : List UInt8 × Int) => x.1)) (ListAt.row (enc := encS) (sz := 1) encS_len (by decide) (H289.at 6 rfl)) (ListAt.row (enc := encS) (sz := 1) encS_len (by decide) (H289.at 7 rfl)) (by omega)) ?_
          rintro _ w291 ⟨rfl, u293⟩
          have H292 := H289.keepU u293
          refine ⟨_, rfl, ?_⟩
          refine hK290 _ _ ?_
          clear hK290 K290
          refine wl_pure (wantsY 12 85 false rfl (by kernel_rfl) rfl (by kernel_rfl)) (d := 91) (v := (.bool (!(decide ((sortK ((resL M (itemV ((acts.getD i act0).d) ((acts.getD i act0).s)) ((acts.getD i act0).c)) : RegL)) = (L256.map (fun (x : List UInt8 × Int) => x.1))))))) rfl (by kernel_rfl) ?_
          refine wl_pure (wants0 rfl) (d := 92) (v := (.bool (!(decide ((sortK ((resL M (itemV ((acts.getD i act0).d) ((acts.getD i act0).s)) ((acts.getD i act0).c)) : RegL)) = (L256.map (fun (x : List UInt8 × Int) => x.1))))))) rfl (by kernel_rfl) ?_
          refine wl_pure (wants0 rfl) (d := 93) (v := (.bool (!(decide ((sortK ((resL M (itemV ((acts.getD i act0).d) ((acts.getD i act0).s)) ((acts.getD i act0).c)) : RegL)) = (L256.map (fun (x : List UInt8 × Int) => x.1))))))) rfl (by kernel_rfl) ?_
          have b294 : (!(decide ((sortK ((resL M (itemV ((acts.getD i act0).d) ((acts.getD i act0).s)) ((acts.getD i act0).c)) : RegL)) = (L256.map (fun (x : List UInt8 × Int) => x.1))))) = false := by rw [hso, decide_eq_true rfl]; rfl
          refine wl_know 93 (.bool false) (congrArg Value.bool b294) ?_
          have g295 := bnot_false b294
          refine wl_pure (wantsY 20 93 false rfl (by kernel_rfl) rfl (by kernel_rfl)) (d := 94) (v := (.pointer (some ⟨r, 0, none⟩))) rfl (by kernel_rfl) ?_
          refine wl_pure (wantsY 20 93 false rfl (by kernel_rfl) rfl (by kernel_rfl)) (d := 95) (v := (.int .i64 ((acts.getD i act0).c))) rfl (by kernel_rfl) ?_
          refine wl_do (wantsY 20 93 false rfl (by kernel_rfl) rfl (by kernel_rfl)) (fun K296 hK296 => ?_)
          refine d_call (d := 96) rfl (by kernel_rfl) (count_any w291 r b (resL M (itemV ((acts.getD i act0).d) ((acts.getD i act0).s)) ((acts.getD i act0).c)) (H292.fin [0, 1] (by decide) rfl) (Short.res hSM (itemV ((acts.getD i act0).d) ((acts.getD i act0).s)) ((acts.getD i act0).c)) ((acts.getD i act0).c)) ?_
          rintro _ w297 ⟨rfl, u299⟩
          have H298 := H292.keepU u299
          refine ⟨_, rfl, ?_⟩
          refine hK296 _ _ ?_
          clear hK296 K296
          refine wl_pure (wantsY 20 93 false rfl (by kernel_rfl) rfl (by kernel_rfl)) (d := 97) (v := (.pointer (some ⟨q, 0, none⟩))) rfl (by kernel_rfl) ?_
          refine wl_pure (wantsY 20 93 false rfl (by kernel_rfl) rfl (by kernel_rfl)) (d := 98) (v := (.int .i64 ((acts.getD i act0).c))) rfl (by kernel_rfl) ?_
          refine wl_do (wantsY 20 93 false rfl (by kernel_rfl) rfl (by kernel_rfl)) (fun K300 hK300 => ?_)
          refine d_call (d := 99) rfl (by kernel_rfl) (rCount_any w297 q a254 c255 L256 (H298.fin [2, 3] (by decide) rfl) (by have q1 := P260.length_eq; have q2 := ((Short.res hSM (itemV ((acts.getD i act0).d) ((acts.getD i act0).s)) ((acts.getD i act0).c))).1; omega) ((acts.getD i act0).c)) ?_
          rintro _ w301 ⟨rfl, T302⟩
          have H303 : Sat w [cellC r 52 ([(.map (some b))] : List Value), mapC b strV (Value.int .i64) (resL M (itemV ((acts.getD i act0).d) ((acts.getD i act0).s)) ((acts.getD i act0).c)), cellC q 46 ([(.slice a254 L256.length c255)] : List Value), rowC 61 2 (.slice a254 L256.length c255) L256.length (L256.flatMap encO), restC w (sepC (bothL r b M0 q a0 c0 L0)).fp, cellC b18 40 ([(.int .i64 ((acts.getD i act0).d)), (.int .i64 ((acts.getD i act0).c)), (strV ((acts.getD i act0).s))] : List Value), rowC 9 1 (.slice a281 ((sortK ((resL M (itemV ((acts.getD i act0).d) ((acts.getD i act0).s)) ((acts.getD i act0).c)) : RegL)).length) c282) ((sortK ((resL M (itemV ((acts.getD i act0).d) ((acts.getD i act0).s)) ((acts.getD i act0).c)) : RegL)).length) ((sortK ((resL M (itemV ((acts.getD i act0).d) ((acts.getD i act0).s)) ((acts.getD i act0).c)) : RegL)).flatMap encS), rowC 9 1 (.slice a287 ((L256.map (fun (x : List UInt8 × Int) => x.1)).length) c288) ((L256.map (fun (x : List UInt8 × Int) => x.1)).length) ((L256.map (fun (x : List UInt8 × Int) => x.1)).flatMap encS)] w301 := (Sat.turnL (L' := [cellC q 46 ([(.slice a254 L256.length c255)] : List Value), rowC 61 2 (.slice a254 L256.length c255) L256.length (L256.flatMap encO)]) (R := [cellC r 52 ([(.map (some b))] : List Value), mapC b strV (Value.int .i64) (resL M (itemV ((acts.getD i act0).d) ((acts.getD i act0).s)) ((acts.getD i act0).c)), restC w (sepC (bothL r b M0 q a0 c0 L0)).fp, cellC b18 40 ([(.int .i64 ((acts.getD i act0).d)), (.int .i64 ((acts.getD i act0).c)), (strV ((acts.getD i act0).s))] : List Value), rowC 9 1 (.slice a281 ((sortK ((resL M (itemV ((acts.getD i act0).d) ((acts.getD i act0).s)) ((acts.getD i act0).c)) : RegL)).length) c282) ((sortK ((resL M (itemV ((acts.getD i act0).d) ((acts.getD i act0).s)) ((acts.getD i act0).c)) : RegL)).length) ((sortK ((resL M (itemV ((acts.getD i act0).d) ((acts.getD i act0).s)) ((acts.getD i act0).c)) : RegL)).flatMap encS), rowC 9 1 (.slice a287 ((L256.map (fun (x : List UInt8 × Int) => x.1)).length) c288) ((L256.map (fun (x : List UInt8 × Int) => x.1)).length) ((L256.map (fun (x : List UInt8 × Int) => x.1)).flatMap encS)]) H298 [2, 3] [0, 1, 4, 5, 6, 7] (by decide) (by kernel_rfl) rfl T302).pick [2, 3, 0, 1, 4, 5, 6, 7] (by decide)
          refine ⟨_, rfl, ?_⟩
          refine hK300 _ _ ?_
          clear hK300 K300
          refine wl_pure (wantsY 20 93 false rfl (by kernel_rfl) rfl (by kernel_rfl)) (d := 100) (v := (.bool (!(decide ((cntL (resL M (itemV ((acts.getD i act0).d) ((acts.getD i act0).s)) ((acts.getD i act0).c)) ((acts.getD i act0).c)) = (cntL L256 ((acts.getD i act0).c))))))) rfl (by kernel_rfl) ?_
          refine wl_pure (wants0 rfl) (d := 101) (v := (.bool (!(decide ((cntL (resL M (itemV ((acts.getD i act0).d) ((acts.getD i act0).s)) ((acts.getD i act0).c)) ((acts.getD i act0).c)) = (cntL L256 ((acts.getD i act0).c))))))) rfl (by kernel_rfl) ?_
          refine w_nil ?_
          refine then_normal ?_
          have b304 : (!(decide ((cntL (resL M (itemV ((acts.getD i act0).d) ((acts.getD i act0).s)) ((acts.getD i act0).c)) ((acts.getD i act0).c)) = (cntL L256 ((acts.getD i act0).c))))) = false := by rw [hct, decide_eq_true rfl]; rfl
          refine wp_know 101 (.bool false) (congrArg Value.bool b304) ?_
          have g305 := bnot_false b304
          have g306 := of_decide_eq_true g305
          refine wp_iff rfl ?_
          refine w_skip ?_
          refine blk_normal ?_
          refine then_normal ?_
          refine w_lit ?_
          refine wl_pure (wants0 rfl) (d := 24) (v := (.int .i64 ((i : Int)))) rfl (by kernel_rfl) ?_
          refine wl_pure (wants0 rfl) (d := 25) (v := (.int .i64 ((i : Int) + 1))) rfl (e_int (z := (i : Int) + 1) (by kernel_rfl) (IntWalk.i64_in _ (by omega))) ?_
          refine wl_pure (wants0 rfl) (d := 7) (v := (.int .i64 ((i : Int) + 1))) rfl (by kernel_rfl) ?_
          refine w_nil ?_
          have H307 : Sat w [cellC r 52 ([(.map (some b))] : List Value), mapC b strV (Value.int .i64) (resL M (itemV ((acts.getD i act0).d) ((acts.getD i act0).s)) ((acts.getD i act0).c)), cellC q 46 ([(.slice a254 L256.length c255)] : List Value), rowC 61 2 (.slice a254 L256.length c255) L256.length (L256.flatMap encO), restC w (sepC (bothL r b M0 q a0 c0 L0)).fp] w301 := H303.pick [0, 1, 2, 3, 4] (by decide)
          refine round_back ?_ _ ⟨(i + 1), (resL M (itemV ((acts.getD i act0).d) ((acts.getD i act0).s)) ((acts.getD i act0).c)), a254, c255, L256, (show ((.int .i64 ((i : Int) + 1)) : Value) = _ by first | rfl | go_num), by omega, (Short.res hSM (itemV ((acts.getD i act0).d) ((acts.getD i act0).s)) ((acts.getD i act0).c)), P260, s257, H307, rfl⟩ (by omega)
          exact (same_upd rfl (same_upd rfl (same_upd rfl (same_upd rfl (same_upd rfl (same_upd rfl (same_upd rfl (same_upd rfl (same_upd rfl (same_upd rfl (same_upd rfl (same_upd rfl (same_upd rfl (same_upd rfl (same_upd rfl (same_upd rfl (same_upd rfl (same_upd rfl (same_upd rfl (same_upd rfl (same_upd rfl (same_upd rfl (same_upd rfl (same_upd rfl (same_upd rfl (same_upd rfl (same_upd rfl (same_upd rfl (same_upd rfl (same_upd rfl (same_upd rfl (same_upd rfl (same_upd rfl (same_upd rfl (same_upd rfl (same_upd rfl (same_upd rfl (same_upd rfl (same_upd rfl (same_upd rfl (same_upd rfl (same_upd rfl (same_upd rfl (same_upd rfl (same_upd rfl (same_upd rfl (same_upd rfl (same_upd rfl (same_upd rfl (same_upd rfl (same_upd rfl (same_upd rfl (same_upd rfl (same_upd rfl (same_upd rfl (same_upd rfl (same_upd rfl (same_upd rfl (same_upd rfl (same_upd rfl (same_upd rfl (same_upd rfl (same_upd rfl (same_upd rfl (same_upd rfl (same_upd rfl (same_upd rfl (same_upd rfl (same_upd rfl (same_upd rfl (same_upd rfl (same_upd rfl (same_upd rfl (same_upd rfl (same_upd rfl (same_upd rfl (same_upd rfl (same_upd rfl (same_upd rfl (same_upd rfl (same_upd rfl (same_upd rfl (same_upd rfl (same_upd rfl (same_upd rfl (same_upd rfl (same_upd rfl (same_upd rfl (same_upd rfl (same_upd rfl (same_upd rfl (same_upd rfl (same_upd rfl (same_upd rfl (same_upd rfl (same_ovr))))))))))))))))))))))))))))))))))))))))))))))))))))))))))))))))))))))))))))))))))))))))))))))))
    · have g308 := of_decide_eq_false b9
      refine wp_know 23 (.bool false) (congrArg Value.bool b9) ?_
      have g309 := of_decide_eq_false b9
      refine wp_iff rfl ?_
      refine w_exit ?_
      refine then_exit ?_
      refine back_exit ?_
      refine blk_hit ?_
      refine then_normal ?_
      refine w_seq ?_
      refine w_lit ?_
      refine wl_pure (wants0 rfl) (d := 6) (v := (.bool true)) rfl (by kernel_rfl) ?_
      refine w_nil ?_
      refine then_normal ?_
      refine w_ret ?_
      refine end1 rfl (res_tmp (v := (.bool true)) rfl) ?_
      exact ⟨M, a, c, L, rfl, H3.pick [0, 1, 2, 3, 4] (by decide), hSM, hP, hS⟩
  · have g310 := of_decide_eq_false b6
    refine wl_know 20 (.bool false) (congrArg Value.bool b6) ?_
    have g311 := of_decide_eq_false b6
    refine wl_pass (wantsN 4 20 true rfl (by kernel_rfl) rfl (by kernel_rfl)) rfl ?_
    refine wl_pass (wantsN 4 20 true rfl (by kernel_rfl) rfl (by kernel_rfl)) rfl ?_
    refine wl_pure (wants0 rfl) (d := 23) (v := (.bool false)) rfl (by kernel_rfl) ?_
    refine w_nil ?_
    refine then_normal ?_
    refine wp_iff rfl ?_
    refine w_exit ?_
    refine then_exit ?_
    refine back_exit ?_
    refine blk_hit ?_
    refine then_normal ?_
    refine w_seq ?_
    refine w_lit ?_
    refine wl_pure (wants0 rfl) (d := 6) (v := (.bool true)) rfl (by kernel_rfl) ?_
    refine w_nil ?_
    refine then_normal ?_
    refine w_ret ?_
    refine end1 rfl (res_tmp (v := (.bool true)) rfl) ?_
    exact ⟨M, a, c, L, rfl, H3.pick [0, 1, 2, 3, 4] (by decide), hSM, hP, hS⟩

end Go.Proofs.Ytjlbabikogdknaa
