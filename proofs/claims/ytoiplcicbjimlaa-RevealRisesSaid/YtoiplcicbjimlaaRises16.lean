/- WHAT IS PROVED: the walk of RevealRises. Conditions: stated with each. -/
import Derived.Test.YtoiplcicbjimlaaTb16M
import Derived.Test.YtoiplcicbjimlaaActs16
import Derived.Test.YtoiplcicbjimlaaMat16
namespace Go.Proofs.Ytoiplcicbjimlaa
open Go.RowKit

set_option maxRecDepth 100000 in
set_option maxHeartbeats 4000000 in
theorem rises16_walk (w : World) (va : Option Addr) (vc : Nat) (acts : List ActR) (hacts : ListAt encAc 5 w (.slice va acts.length vc) acts) (_hle : acts.length ≤ 9223372036854775807) (hat : ∀ x ∈ acts, TimeOk x) :
    Calls Try.prog 7 #[(.slice va acts.length vc)] w fun e w' => e = .returned (.bool true) ∧ Upd [] w w' := by
  have hact : ∀ i, i < acts.length → 0 ≤ (acts.getD i ac0).t ∧ (acts.getD i ac0).t ≤ 18446744073709551615 := fun i hi => by
    rw [List.getD_eq_getElem?_getD, List.getElem?_eq_getElem hi]; exact hat _ (List.getElem_mem hi)
  have H := Sat.start0 w
  refine calls_fr Try.func7 rfl 144 rfl (Nat.le_of_ble_eq_true rfl) ?_
  refine w_seq ?_
  refine w_lit ?_
  refine wl_pure (wants0 rfl) (d := 2) (v := (.bool false)) rfl (by kernel_rfl) ?_
  refine w_nil ?_
  refine then_normal ?_
  refine w_seq ?_
  refine w_lit ?_
  refine wl_do (wants0 rfl) (fun K1 hK1 => ?_)
  refine d_call (d := 14) rfl (by kernel_rfl) (new10_any w) ?_
  rintro _ w2 ⟨b3, m4, r5, rfl, k6, p7, q8⟩
  have H9 : Sat w [restC w (fun _ => False), sepC [cellC b3 103 [.map (some m4)], mapC m4 signedV (Value.int .i64) (marks []), cellC r5 96 [.slice none 0 0]]] w2 := H.addU p7 k6 q8
  have H10 : Sat w [restC w (fun _ => False), cellC b3 103 ([(.map (some m4))] : List Value), mapC m4 signedV (Value.int .i64) (marks ([] : List Signed)), cellC r5 96 ([(.slice none 0 0)] : List Value)] w2 := H9.open 1 rfl
  refine ⟨_, rfl, ?_⟩
  refine hK1 _ _ ?_
  clear hK1 K1
  refine wl_pure (wants0 rfl) (d := 13) (v := (.tuple #[(.agg ⟨([(.pointer (some ⟨b3, 0, none⟩)), (.pointer (some ⟨r5, 0, none⟩))] : List Value)⟩), (.bool true)])) rfl (by kernel_rfl) ?_
  refine wl_pure (wants0 rfl) (d := 15) (v := (.agg ⟨([(.pointer (some ⟨b3, 0, none⟩)), (.pointer (some ⟨r5, 0, none⟩))] : List Value)⟩)) rfl (by kernel_rfl) ?_
  refine wl_pure (wants0 rfl) (d := 16) (v := (.bool true)) rfl (by kernel_rfl) ?_
  refine wl_do (wants0 rfl) (fun K11 hK11 => ?_)
  refine d_alloc (zs := ([(.pointer none), (.pointer none)] : List Value)) (z := (.agg ⟨([(.pointer none), (.pointer none)] : List Value)⟩)) rfl H10 (by kernel_rfl) (by kernel_rfl) ?_
  intro b12 w13 (H14 : Sat w [restC w (fun _ => False), cellC b3 103 ([(.map (some m4))] : List Value), mapC m4 signedV (Value.int .i64) (marks ([] : List Signed)), cellC r5 96 ([(.slice none 0 0)] : List Value), cellC b12 52 ([(.pointer none), (.pointer none)] : List Value)] w13)
  refine hK11 _ _ ?_
  clear hK11 K11
  refine wl_do (wants0 rfl) (fun K15 hK15 => ?_)
  refine d_storeX (vs := ([(.pointer (some ⟨b3, 0, none⟩)), (.pointer (some ⟨r5, 0, none⟩))] : List Value)) (cs' := ([(.pointer (some ⟨b3, 0, none⟩)), (.pointer (some ⟨r5, 0, none⟩))] : List Value)) rfl H14 4 rfl rfl rfl rfl (by kernel_rfl) (Nat.le_of_ble_eq_true (by kernel_rfl)) (Nat.le_of_ble_eq_true (by kernel_rfl)) (by kernel_rfl) (by kernel_rfl) ?_
  intro w16 (H17 : Sat w [restC w (fun _ => False), cellC b3 103 ([(.map (some m4))] : List Value), mapC m4 signedV (Value.int .i64) (marks ([] : List Signed)), cellC r5 96 ([(.slice none 0 0)] : List Value), cellC b12 52 ([(.pointer (some ⟨b3, 0, none⟩)), (.pointer (some ⟨r5, 0, none⟩))] : List Value)] w16)
  refine hK15 _ _ ?_
  clear hK15 K15
  refine wl_pure (wants0 rfl) (d := 4) (v := (.bool true)) rfl (by kernel_rfl) ?_
  refine w_nil ?_
  refine then_normal ?_
  refine w_seq ?_
  refine w_lit ?_
  refine wl_pure (wants0 rfl) (d := 18) (v := (.agg ⟨([(.int .i64 (1)), (.int .i64 (3))] : List Value)⟩)) rfl (by kernel_rfl) ?_
  refine wl_do (wants0 rfl) (fun K19 hK19 => ?_)
  refine d_call (d := 19) rfl (by kernel_rfl) (rvNew_any w16 (1 : Int) (3 : Int) (2 : Int) (by decide) (by decide)) ?_
  rintro _ w20 ⟨r21, m22, rfl, k23, p24, q25⟩
  have H26 : Sat w [restC w (fun _ => False), cellC b3 103 ([(.map (some m4))] : List Value), mapC m4 signedV (Value.int .i64) (marks ([] : List Signed)), cellC r5 96 ([(.slice none 0 0)] : List Value), cellC b12 52 ([(.pointer (some ⟨b3, 0, none⟩)), (.pointer (some ⟨r5, 0, none⟩))] : List Value), sepC (rvL r21 m22 (1 : Int) (3 : Int) (2 : Int) [])] w20 := H17.addU p24 k23 q25
  have H27 : Sat w [restC w (fun _ => False), cellC b3 103 ([(.map (some m4))] : List Value), mapC m4 signedV (Value.int .i64) (marks ([] : List Signed)), cellC r5 96 ([(.slice none 0 0)] : List Value), cellC b12 52 ([(.pointer (some ⟨b3, 0, none⟩)), (.pointer (some ⟨r5, 0, none⟩))] : List Value), cellC r21 86 ([(.int .i64 (1)), (.int .i64 (3)), (.int .i64 (2)), (.map (some m22))] : List Value), mapC m22 (Value.int .i64) encX ([] : List (Int × PlX)), denC ([] : List (Int × PlX))] w20 := H26.open 5 rfl
  refine ⟨_, rfl, ?_⟩
  refine hK19 _ _ ?_
  clear hK19 K19
  refine wl_pure (wants0 rfl) (d := 17) (v := (.tuple #[(.pointer (some ⟨r21, 0, none⟩)), (.int .i64 (0))])) rfl (by kernel_rfl) ?_
  refine wl_pure (wants0 rfl) (d := 20) (v := (.pointer (some ⟨r21, 0, none⟩))) rfl (by kernel_rfl) ?_
  refine wl_pure (wants0 rfl) (d := 21) (v := (.int .i64 (0))) rfl (by kernel_rfl) ?_
  refine wl_pure (wants0 rfl) (d := 5) (v := (.pointer (some ⟨r21, 0, none⟩))) rfl (by kernel_rfl) ?_
  refine wl_pure (wants0 rfl) (d := 6) (v := (.int .i64 (0))) rfl (by kernel_rfl) ?_
  refine w_nil ?_
  refine then_normal ?_
  refine w_seq ?_
  refine w_seq ?_
  refine w_lit ?_
  refine wl_pure (wants0 rfl) (d := 22) (v := (.bool true)) rfl (by kernel_rfl) ?_
  refine wl_pure (wants0 rfl) (d := 23) (v := (.bool false)) rfl (by kernel_rfl) ?_
  refine wl_pure (wants0 rfl) (d := 24) (v := (.bool false)) rfl (by kernel_rfl) ?_
  refine wl_pure (wantsY 2 24 false rfl (by kernel_rfl) rfl (by kernel_rfl)) (d := 25) (v := (.int .i64 (0))) rfl (by kernel_rfl) ?_
  refine wl_pure (wantsY 2 24 false rfl (by kernel_rfl) rfl (by kernel_rfl)) (d := 26) (v := (.bool false)) rfl (by kernel_rfl) ?_
  refine wl_pure (wants0 rfl) (d := 27) (v := (.bool false)) rfl (by kernel_rfl) ?_
  refine wl_pure (wants0 rfl) (d := 28) (v := (.bool false)) rfl (by kernel_rfl) ?_
  refine wl_pure (wantsY 6 28 false rfl (by kernel_rfl) rfl (by kernel_rfl)) (d := 29) (v := (.pointer (some ⟨r21, 0, none⟩))) rfl (by kernel_rfl) ?_
  refine wl_pure (wantsY 6 28 false rfl (by kernel_rfl) rfl (by kernel_rfl)) (d := 30) (v := (.bool false)) rfl (by kernel_rfl) ?_
  refine wl_pure (wants0 rfl) (d := 31) (v := (.bool false)) rfl (by kernel_rfl) ?_
  refine w_nil ?_
  refine then_normal ?_
  refine wp_iff rfl ?_
  refine w_skip ?_
  refine then_normal ?_
  refine w_seq ?_
  refine w_lit ?_
  refine wl_do (wants0 rfl) (fun K28 hK28 => ?_)
  refine d_alloc (zs := ([(.bool false), (.bool false), (.bool false), (.bool false), (.bool false), (.bool false), (.bool false)] : List Value)) (z := (.agg ⟨([(.bool false), (.bool false), (.bool false), (.bool false), (.bool false), (.bool false), (.bool false)] : List Value)⟩)) rfl H27 (by kernel_rfl) (by kernel_rfl) ?_
  intro b29 w30 (H31 : Sat w [restC w (fun _ => False), cellC b3 103 ([(.map (some m4))] : List Value), mapC m4 signedV (Value.int .i64) (marks ([] : List Signed)), cellC r5 96 ([(.slice none 0 0)] : List Value), cellC b12 52 ([(.pointer (some ⟨b3, 0, none⟩)), (.pointer (some ⟨r5, 0, none⟩))] : List Value), cellC r21 86 ([(.int .i64 (1)), (.int .i64 (3)), (.int .i64 (2)), (.map (some m22))] : List Value), mapC m22 (Value.int .i64) encX ([] : List (Int × PlX)), denC ([] : List (Int × PlX)), cellC b29 80 ([(.bool false), (.bool false), (.bool false), (.bool false), (.bool false), (.bool false), (.bool false)] : List Value)] w30)
  have H32 : Sat w [restC w (fun _ => False), cellC b3 103 ([(.map (some m4))] : List Value), mapC m4 signedV (Value.int .i64) (marks ([] : List Signed)), cellC r5 96 ([(.slice none 0 0)] : List Value), cellC b12 52 ([(.pointer (some ⟨b3, 0, none⟩)), (.pointer (some ⟨r5, 0, none⟩))] : List Value), cellC r21 86 ([(.int .i64 (1)), (.int .i64 (3)), (.int .i64 (2)), (.map (some m22))] : List Value), mapC m22 (Value.int .i64) encX ([] : List (Int × PlX)), denC ([] : List (Int × PlX)), rowTr b29 80 7 ([false, false, false, false, false, false, false])] w30 := Sat.toTr H31 8 [false, false, false, false, false, false, false] (by kernel_rfl) rfl
  refine hK28 _ _ ?_
  clear hK28 K28
  refine w_nil ?_
  refine then_normal ?_
  refine w_seq ?_
  refine w_seq ?_
  refine w_lit ?_
  refine wl_pure (wants0 rfl) (d := 8) (v := (.int .i64 (0))) rfl (by kernel_rfl) ?_
  refine w_nil ?_
  refine then_normal ?_
  refine w_block ?_
  refine wp_round [2, 8, 9, 10, 12, 32, 33, 34, 35, 36, 37, 38, 39, 40, 41, 42, 43, 44, 45, 46, 47, 48, 49, 50, 51, 52, 53, 54, 55, 56, 57, 58, 59, 60, 61, 62, 63, 64, 65, 66, 67, 68, 69, 70, 71, 72, 73, 74, 75, 76, 77, 78, 79, 80, 81, 82, 83, 84, 85, 86, 87, 88, 89, 90, 91, 92, 93, 94, 95, 96, 97, 98, 99, 100, 101, 102, 103, 104, 105, 106, 107, 108, 109, 110, 111, 112, 113, 114, 115, 116, 117, 118, 119, 120, 121, 122, 123, 124, 125, 126, 127, 128, 129, 130, 131, 132, 133, 134, 135, 136, 137, 138, 139, 140, 141, 142] (fun F_ W_ m_ => ∃ (i : Nat) (L : List (Int × PlX)) (B : List Signed) (T : List Bool), F_ 8 = (.int .i64 ((i : Int))) ∧ (i ≤ 40) ∧ (PlI 7 2 L) ∧ (RiI 7 L T) ∧ (L.length ≤ i) ∧ (B.length ≤ 40 * i) ∧ Sat w [restC w (fun _ => False), cellC b3 103 ([(.map (some m4))] : List Value), mapC m4 signedV (Value.int .i64) (marks B), cellC r5 96 ([(.slice none 0 0)] : List Value), cellC b12 52 ([(.pointer (some ⟨b3, 0, none⟩)), (.pointer (some ⟨r5, 0, none⟩))] : List Value), cellC r21 86 ([(.int .i64 (1)), (.int .i64 (3)), (.int .i64 (2)), (.map (some m22))] : List Value), mapC m22 (Value.int .i64) encX L, denC L, rowTr b29 80 7 T] W_ ∧ m_ = 41 - i) _ ⟨0, [], [], ([false, false, false, false, false, false, false]), (show ((.int .i64 (0)) : Value) = _ by first | rfl | go_num), (by omega), (PlI.nil _ _), RiI.start7, (by simp), (by simp), H32, rfl⟩ ?_
  rintro g33 w34 _ ⟨i, L, B, T, v36, hi, hP, hE, hLl, hBl, H35, rfl⟩
  refine wp_know 8 _ v36 ?_
  refine w_seq ?_
  refine w_seq ?_
  refine w_lit ?_
  refine wl_pure (wants0 rfl) (d := 32) (v := (.int .i64 ((i : Int)))) rfl (by kernel_rfl) ?_
  refine wl_pure (wants0 rfl) (d := 33) (v := (.slice va acts.length vc)) rfl (by kernel_rfl) ?_
  refine wl_pure (wants0 rfl) (d := 34) (v := (.int .i64 ((acts.length : Int)))) rfl (by kernel_rfl) ?_
  refine wl_pure (wants0 rfl) (d := 35) (v := (.bool (decide ((i : Int) < (acts.length : Int))))) rfl (by kernel_rfl) ?_
  refine wl_pure (wants0 rfl) (d := 36) (v := (.bool (decide ((i : Int) < (acts.length : Int))))) rfl (by kernel_rfl) ?_
  refine (bsplit (decide ((i : Int) < (acts.length : Int)))).elim (fun b38 => ?_) (fun b38 => ?_)
  · have g39 := of_decide_eq_true b38
    refine wl_know 36 (.bool true) (congrArg Value.bool b38) ?_
    have g40 := of_decide_eq_true b38
    refine wl_pure (wantsY 4 36 true rfl (by kernel_rfl) rfl (by kernel_rfl)) (d := 37) (v := (.int .i64 ((i : Int)))) rfl (by kernel_rfl) ?_
    refine wl_pure (wantsY 4 36 true rfl (by kernel_rfl) rfl (by kernel_rfl)) (d := 38) (v := (.bool (decide ((i : Int) < 40)))) rfl (by kernel_rfl) ?_
    refine wl_pure (wants0 rfl) (d := 39) (v := (.bool (decide ((i : Int) < 40)))) rfl (by kernel_rfl) ?_
    refine w_nil ?_
    refine then_normal ?_
    refine (bsplit (decide ((i : Int) < 40))).elim (fun b41 => ?_) (fun b41 => ?_)
    · have g42 := of_decide_eq_true b41
      refine wp_know 39 (.bool true) (congrArg Value.bool b41) ?_
      have g43 := of_decide_eq_true b41
      refine wp_ift rfl ?_
      refine w_skip ?_
      refine then_normal ?_
      refine w_seq ?_
      refine w_block ?_
      refine w_seq ?_
      refine w_lit ?_
      refine wl_pure (wants0 rfl) (d := 42) (v := (.slice va acts.length vc)) rfl (by kernel_rfl) ?_
      refine wl_pure (wants0 rfl) (d := 43) (v := (.int .i64 ((i : Int)))) rfl (by kernel_rfl) ?_
      obtain ⟨g44, o45, c46, e47, R48⟩ := SliceOf.atD hacts ac0 (show i < acts.length by omega)
      have ht_ : 0 ≤ (acts.getD i ac0).t ∧ (acts.getD i ac0).t ≤ 18446744073709551615 := hact i (by omega)
      refine wl_pure (wants0 rfl) (d := 44) (v := (.pointer (some ⟨g44, o45 + ((i : Int)).toNat * 5, none⟩))) rfl (e_indexAddrW (E := 57) (by kernel_rfl) (by kernel_rfl) (Nat.le_of_ble_eq_true rfl) rfl e47 rfl (by omega) (by omega)) ?_
      refine wl_pure (wants0 rfl) (d := 45) (v := (.pointer (some ⟨g44, o45 + ((i : Int)).toNat * 5 + 1, none⟩))) rfl (by kernel_rfl) ?_
      refine wl_pure (wants0 rfl) (d := 46) (v := (.int .i64 ((acts.getD i ac0).i))) rfl (e_load1 rfl (by kernel_rfl) (H35.cellR 0 rfl (cells_at R48 1 (by kernel_rfl) (show o45 + ((i : Int)).toNat * 5 + 1 = o45 + i * 5 + 1 by omega)) (fun h => h))) ?_
      refine wl_do (wants0 rfl) (fun K49 hK49 => ?_)
      refine d_call (d := 47) rfl (by kernel_rfl) (within_any w34 ((acts.getD i ac0).i) 7 (by omega)) ?_
      rintro _ w50 ⟨rfl, u52⟩
      have H51 := H35.keepU u52
      refine ⟨_, rfl, ?_⟩
      refine hK49 _ _ ?_
      clear hK49 K49
      refine wl_pure (wants0 rfl) (d := 9) (v := (.int .i64 (withinV ((acts.getD i ac0).i) 7))) rfl (by kernel_rfl) ?_
      refine w_nil ?_
      refine then_normal ?_
      obtain ⟨K, hK⟩ : ∃ K, K = withinV (acts.getD i ac0).i 7 := ⟨_, rfl⟩
      have hK6 := within_lim (acts.getD i ac0).i 7 (by omega)
      rw [← hK] at hK6
      have hKK : withinV K 9 = K := by unfold withinV; rw [if_neg (by decide)]; exact Int.emod_eq_of_lt hK6.1 (by omega)
      have hK6n : K < ((7 : Nat) : Int) := by omega
      refine wp_know 9 (.int .i64 (K)) (show ((.int .i64 (withinV ((acts.getD i ac0).i) 7)) : Value) = _ by rw [hK]) ?_
      refine wp_meetR (([2, 48, 49, 50, 51, 52, 53, 54, 55, 56, 57, 58, 59, 60, 61, 62, 63, 64, 65, 66, 67, 68, 69, 70, 71, 72, 73, 74, 75, 76, 77, 78, 79, 80, 81, 82, 83, 84, 85, 86] : List Nat) ++ ([87, 88, 89, 90, 91, 92, 93, 94, 95, 96, 97, 98, 99, 100, 101, 102, 103, 104, 105] : List Nat)) (fun G_ W_ => ∃ (L1 : List (Int × PlX)) (B1 : List Signed) (T1 : List Bool), (PlI 7 2 L1) ∧ (RiI 7 L1 T1) ∧ (L1.length ≤ i + 1) ∧ (B1.length ≤ 40 * (i + 1)) ∧ Sat w [restC w (fun _ => False), cellC b3 103 ([(.map (some m4))] : List Value), mapC m4 signedV (Value.int .i64) (marks B1), cellC r5 96 ([(.slice none 0 0)] : List Value), cellC b12 52 ([(.pointer (some ⟨b3, 0, none⟩)), (.pointer (some ⟨r5, 0, none⟩))] : List Value), cellC r21 86 ([(.int .i64 (1)), (.int .i64 (3)), (.int .i64 (2)), (.map (some m22))] : List Value), mapC m22 (Value.int .i64) encX L1, denC L1, rowTr b29 80 7 T1] W_) ?_ ?_
      · refine w_seq ?_
        refine w_lit ?_
        refine wl_pure (wants0 rfl) (d := 48) (v := (.slice va acts.length vc)) rfl (by kernel_rfl) ?_
        refine wl_pure (wants0 rfl) (d := 49) (v := (.int .i64 ((i : Int)))) rfl (by kernel_rfl) ?_
        refine wl_pure (wants0 rfl) (d := 50) (v := (.pointer (some ⟨g44, o45 + ((i : Int)).toNat * 5, none⟩))) rfl (e_indexAddrW (E := 57) (by kernel_rfl) (by kernel_rfl) (Nat.le_of_ble_eq_true rfl) rfl e47 rfl (by omega) (by omega)) ?_
        refine wl_pure (wants0 rfl) (d := 51) (v := (.pointer (some ⟨g44, o45 + ((i : Int)).toNat * 5, none⟩))) rfl (by kernel_rfl) ?_
        refine wl_pure (wants0 rfl) (d := 52) (v := (.int .i64 ((acts.getD i ac0).d))) rfl (e_load1 rfl (by kernel_rfl) (H51.cellR 0 rfl (cells_at R48 0 (by kernel_rfl) (show o45 + ((i : Int)).toNat * 5 = o45 + i * 5 + 0 by omega)) (fun h => h))) ?_
        refine wl_do (wants0 rfl) (fun K54 hK54 => ?_)
        refine d_call (d := 53) rfl (by kernel_rfl) (within_any w50 ((acts.getD i ac0).d) 9 (by omega)) ?_
        rintro _ w55 ⟨rfl, u57⟩
        have H56 := H51.keepU u57
        refine ⟨_, rfl, ?_⟩
        refine hK54 _ _ ?_
        clear hK54 K54
        refine w_nil ?_
        refine then_normal ?_
        refine w_block ?_
        refine w_seq ?_
        refine w_seq ?_
        refine w_lit ?_
        refine wl_pure (wants0 rfl) (d := 72) (v := (.bool (decide ((withinV ((acts.getD i ac0).d) 9) = 2)))) rfl (by kernel_rfl) ?_
        refine wl_pure (wants0 rfl) (d := 71) (v := (.bool (decide ((withinV ((acts.getD i ac0).d) 9) = 2)))) rfl (by kernel_rfl) ?_
        refine w_nil ?_
        refine then_normal ?_
        refine (bsplit (decide ((withinV ((acts.getD i ac0).d) 9) = 2))).elim (fun b58 => ?_) (fun b58 => ?_)
        · have g59 := of_decide_eq_true b58
          refine wp_know 71 (.bool true) (congrArg Value.bool b58) ?_
          have g60 := of_decide_eq_true b58
          refine wp_ift rfl ?_
          refine w_skip ?_
          refine then_normal ?_
          refine wp_ift rfl ?_
          refine w_lit ?_
          refine wl_pure (wants0 rfl) (d := 74) (v := (.pointer (some ⟨r21, 0, none⟩))) rfl (by kernel_rfl) ?_
          refine wl_pure (wants0 rfl) (d := 75) (v := (.int .i64 (K))) rfl (by kernel_rfl) ?_
          refine wl_pure (wants0 rfl) (d := 76) (v := (.int .i64 (K))) rfl (by kernel_rfl) ?_
          refine wl_pure (wants0 rfl) (d := 77) (v := (.int .u8 (K))) rfl (e_int (z := K) (by kernel_rfl) (wrap_u8 (by omega))) ?_
          refine wl_do (wants0 rfl) (fun K61 hK61 => ?_)
          refine d_buildSlice (e := 5) (size := 1) (bytes := 1) (z := (.int .u8 (0))) (pvs := [(0, (.int .u8 (K)))]) (vs := ([(.int .u8 (K))] : List Value)) rfl H56 (by kernel_rfl) (by kernel_rfl) (by kernel_rfl) (by kernel_rfl) (by kernel_rfl) rfl rfl ?_
          intro b62 w63 (H64 : Sat w [restC w (fun _ => False), cellC b3 103 ([(.map (some m4))] : List Value), mapC m4 signedV (Value.int .i64) (marks B), cellC r5 96 ([(.slice none 0 0)] : List Value), cellC b12 52 ([(.pointer (some ⟨b3, 0, none⟩)), (.pointer (some ⟨r5, 0, none⟩))] : List Value), cellC r21 86 ([(.int .i64 (1)), (.int .i64 (3)), (.int .i64 (2)), (.map (some m22))] : List Value), mapC m22 (Value.int .i64) encX L, denC L, rowTr b29 80 7 T, rowC 5 1 (.slice (some ⟨b62, 0, none⟩) 1 1) 1 ([(.int .u8 (K))] : List Value)] w63)
          have H65 : Sat w [restC w (fun _ => False), cellC b3 103 ([(.map (some m4))] : List Value), mapC m4 signedV (Value.int .i64) (marks B), cellC r5 96 ([(.slice none 0 0)] : List Value), cellC b12 52 ([(.pointer (some ⟨b3, 0, none⟩)), (.pointer (some ⟨r5, 0, none⟩))] : List Value), cellC r21 86 ([(.int .i64 (1)), (.int .i64 (3)), (.int .i64 (2)), (.map (some m22))] : List Value), mapC m22 (Value.int .i64) encX L, denC L, rowTr b29 80 7 T, rowC 5 1 (.slice (some ⟨b62, 0, none⟩) 1 1) 1 ([UInt8.ofNat (K).toNat].flatMap encB)] w63 := H64.cast (by rw [byte_enc (by omega)])
          refine hK61 _ _ ?_
          clear hK61 K61
          refine wl_pure (wants0 rfl) (d := 79) (v := (.agg ⟨(hc (hash1 (7)))⟩)) rfl (by kernel_rfl) ?_
          refine wl_pure (wants0 rfl) (d := 80) (v := (.agg ⟨(([(.int .i64 (K)), (.slice (some ⟨b62, 0, none⟩) 1 1)] : List Value) ++ hc (hash1 (7)))⟩)) rfl (by kernel_rfl) ?_
          refine wl_do (wants0 rfl) (fun K66 hK66 => ?_)
          refine d_call (d := 81) rfl (by kernel_rfl) (rvOpenG_any w63 r21 m22 1 3 2 L K (some ⟨b62, 0, none⟩) 1 ([UInt8.ofNat (K).toNat]) (H65.fin [5, 6, 7, 9] (by decide) rfl) (hash1 (7)) (by simp) (hP.mat (by rw [hKK]))) ?_
          rintro _ w67 ⟨c68, M69, rfl, R70, T71⟩
          have H72 : Sat w [restC w (fun _ => False), cellC b3 103 ([(.map (some m4))] : List Value), mapC m4 signedV (Value.int .i64) (marks B), cellC r5 96 ([(.slice none 0 0)] : List Value), cellC b12 52 ([(.pointer (some ⟨b3, 0, none⟩)), (.pointer (some ⟨r5, 0, none⟩))] : List Value), cellC r21 86 ([(.int .i64 (1)), (.int .i64 (3)), (.int .i64 (2)), (.map (some m22))] : List Value), mapC m22 (Value.int .i64) encX M69, denC M69, rowTr b29 80 7 T, rowC 5 1 (.slice (some ⟨b62, 0, none⟩) 1 1) 1 ([UInt8.ofNat (K).toNat].flatMap encB)] w67 := (Sat.turnL (L' := [cellC r21 86 ([(.int .i64 (1)), (.int .i64 (3)), (.int .i64 (2)), (.map (some m22))] : List Value), mapC m22 (Value.int .i64) encX M69, denC M69, rowC 5 1 (.slice (some ⟨b62, 0, none⟩) 1 1) 1 ([UInt8.ofNat (K).toNat].flatMap encB)]) (R := [restC w (fun _ => False), cellC b3 103 ([(.map (some m4))] : List Value), mapC m4 signedV (Value.int .i64) (marks B), cellC r5 96 ([(.slice none 0 0)] : List Value), cellC b12 52 ([(.pointer (some ⟨b3, 0, none⟩)), (.pointer (some ⟨r5, 0, none⟩))] : List Value), rowTr b29 80 7 T]) H65 [5, 6, 7, 9] [0, 1, 2, 3, 4, 8] (by decide) (by kernel_rfl) rfl T71).pick [4, 5, 6, 7, 8, 0, 1, 2, 9, 3] (by decide)
          refine ⟨_, rfl, ?_⟩
          have hP2 := hP.open R70 (by simp)
          refine hK66 _ _ ?_
          clear hK66 K66
          refine w_nil ?_
          refine blk_normal ?_
          have H73 : Sat w [restC w (fun _ => False), cellC b3 103 ([(.map (some m4))] : List Value), mapC m4 signedV (Value.int .i64) (marks B), cellC r5 96 ([(.slice none 0 0)] : List Value), cellC b12 52 ([(.pointer (some ⟨b3, 0, none⟩)), (.pointer (some ⟨r5, 0, none⟩))] : List Value), cellC r21 86 ([(.int .i64 (1)), (.int .i64 (3)), (.int .i64 (2)), (.map (some m22))] : List Value), mapC m22 (Value.int .i64) encX M69, denC M69, rowTr b29 80 7 T] w67 := H72.pick [0, 1, 2, 3, 4, 5, 6, 7, 8] (by decide)
          refine meetR_at ?_ ⟨M69, B, T, hP2.1, (hE.open R70), (by omega), (by omega), H73⟩
          exact (same_upd rfl (same_upd rfl (same_upd rfl (same_upd rfl (same_upd rfl (same_upd rfl (same_upd rfl (same_upd rfl (same_upd rfl (same_upd rfl (same_upd rfl (same_upd rfl (same_upd rfl (same_upd rfl (same_upd rfl (same_upd rfl (same_upd rfl (same_refl))))))))))))))))))
        · have g74 := of_decide_eq_false b58
          refine wp_know 71 (.bool false) (congrArg Value.bool b58) ?_
          have g75 := of_decide_eq_false b58
          refine wp_iff rfl ?_
          refine w_lit ?_
          refine wl_pure (wants0 rfl) (d := 73) (v := (.bool (decide ((withinV ((acts.getD i ac0).d) 9) = 3)))) rfl (by kernel_rfl) ?_
          refine wl_pure (wants0 rfl) (d := 71) (v := (.bool (decide ((withinV ((acts.getD i ac0).d) 9) = 3)))) rfl (by kernel_rfl) ?_
          refine w_nil ?_
          refine then_normal ?_
          refine (bsplit (decide ((withinV ((acts.getD i ac0).d) 9) = 3))).elim (fun b76 => ?_) (fun b76 => ?_)
          · have g77 := of_decide_eq_true b76
            refine wp_know 71 (.bool true) (congrArg Value.bool b76) ?_
            have g78 := of_decide_eq_true b76
            refine wp_ift rfl ?_
            refine w_lit ?_
            refine wl_pure (wants0 rfl) (d := 74) (v := (.pointer (some ⟨r21, 0, none⟩))) rfl (by kernel_rfl) ?_
            refine wl_pure (wants0 rfl) (d := 75) (v := (.int .i64 (K))) rfl (by kernel_rfl) ?_
            refine wl_pure (wants0 rfl) (d := 76) (v := (.int .i64 (K))) rfl (by kernel_rfl) ?_
            refine wl_pure (wants0 rfl) (d := 77) (v := (.int .u8 (K))) rfl (e_int (z := K) (by kernel_rfl) (wrap_u8 (by omega))) ?_
            refine wl_do (wants0 rfl) (fun K79 hK79 => ?_)
            refine d_buildSlice (e := 5) (size := 1) (bytes := 1) (z := (.int .u8 (0))) (pvs := [(0, (.int .u8 (K)))]) (vs := ([(.int .u8 (K))] : List Value)) rfl H56 (by kernel_rfl) (by kernel_rfl) (by kernel_rfl) (by kernel_rfl) (by kernel_rfl) rfl rfl ?_
            intro b80 w81 (H82 : Sat w [restC w (fun _ => False), cellC b3 103 ([(.map (some m4))] : List Value), mapC m4 signedV (Value.int .i64) (marks B), cellC r5 96 ([(.slice none 0 0)] : List Value), cellC b12 52 ([(.pointer (some ⟨b3, 0, none⟩)), (.pointer (some ⟨r5, 0, none⟩))] : List Value), cellC r21 86 ([(.int .i64 (1)), (.int .i64 (3)), (.int .i64 (2)), (.map (some m22))] : List Value), mapC m22 (Value.int .i64) encX L, denC L, rowTr b29 80 7 T, rowC 5 1 (.slice (some ⟨b80, 0, none⟩) 1 1) 1 ([(.int .u8 (K))] : List Value)] w81)
            have H83 : Sat w [restC w (fun _ => False), cellC b3 103 ([(.map (some m4))] : List Value), mapC m4 signedV (Value.int .i64) (marks B), cellC r5 96 ([(.slice none 0 0)] : List Value), cellC b12 52 ([(.pointer (some ⟨b3, 0, none⟩)), (.pointer (some ⟨r5, 0, none⟩))] : List Value), cellC r21 86 ([(.int .i64 (1)), (.int .i64 (3)), (.int .i64 (2)), (.map (some m22))] : List Value), mapC m22 (Value.int .i64) encX L, denC L, rowTr b29 80 7 T, rowC 5 1 (.slice (some ⟨b80, 0, none⟩) 1 1) 1 ([UInt8.ofNat (K).toNat].flatMap encB)] w81 := H82.cast (by rw [byte_enc (by omega)])
            refine hK79 _ _ ?_
            clear hK79 K79
            refine wl_pure (wants0 rfl) (d := 79) (v := (.agg ⟨(hc (hash1 (7)))⟩)) rfl (by kernel_rfl) ?_
            refine wl_pure (wants0 rfl) (d := 80) (v := (.agg ⟨(([(.int .i64 (K)), (.slice (some ⟨b80, 0, none⟩) 1 1)] : List Value) ++ hc (hash1 (7)))⟩)) rfl (by kernel_rfl) ?_
            refine wl_do (wants0 rfl) (fun K84 hK84 => ?_)
            refine d_call (d := 81) rfl (by kernel_rfl) (rvOpenG_any w81 r21 m22 1 3 2 L K (some ⟨b80, 0, none⟩) 1 ([UInt8.ofNat (K).toNat]) (H83.fin [5, 6, 7, 9] (by decide) rfl) (hash1 (7)) (by simp) (hP.mat (by rw [hKK]))) ?_
            rintro _ w85 ⟨c86, M87, rfl, R88, T89⟩
            have H90 : Sat w [restC w (fun _ => False), cellC b3 103 ([(.map (some m4))] : List Value), mapC m4 signedV (Value.int .i64) (marks B), cellC r5 96 ([(.slice none 0 0)] : List Value), cellC b12 52 ([(.pointer (some ⟨b3, 0, none⟩)), (.pointer (some ⟨r5, 0, none⟩))] : List Value), cellC r21 86 ([(.int .i64 (1)), (.int .i64 (3)), (.int .i64 (2)), (.map (some m22))] : List Value), mapC m22 (Value.int .i64) encX M87, denC M87, rowTr b29 80 7 T, rowC 5 1 (.slice (some ⟨b80, 0, none⟩) 1 1) 1 ([UInt8.ofNat (K).toNat].flatMap encB)] w85 := (Sat.turnL (L' := [cellC r21 86 ([(.int .i64 (1)), (.int .i64 (3)), (.int .i64 (2)), (.map (some m22))] : List Value), mapC m22 (Value.int .i64) encX M87, denC M87, rowC 5 1 (.slice (some ⟨b80, 0, none⟩) 1 1) 1 ([UInt8.ofNat (K).toNat].flatMap encB)]) (R := [restC w (fun _ => False), cellC b3 103 ([(.map (some m4))] : List Value), mapC m4 signedV (Value.int .i64) (marks B), cellC r5 96 ([(.slice none 0 0)] : List Value), cellC b12 52 ([(.pointer (some ⟨b3, 0, none⟩)), (.pointer (some ⟨r5, 0, none⟩))] : List Value), rowTr b29 80 7 T]) H83 [5, 6, 7, 9] [0, 1, 2, 3, 4, 8] (by decide) (by kernel_rfl) rfl T89).pick [4, 5, 6, 7, 8, 0, 1, 2, 9, 3] (by decide)
            refine ⟨_, rfl, ?_⟩
            have hP2 := hP.open R88 (by simp)
            refine hK84 _ _ ?_
            clear hK84 K84
            refine w_nil ?_
            refine blk_normal ?_
            have H91 : Sat w [restC w (fun _ => False), cellC b3 103 ([(.map (some m4))] : List Value), mapC m4 signedV (Value.int .i64) (marks B), cellC r5 96 ([(.slice none 0 0)] : List Value), cellC b12 52 ([(.pointer (some ⟨b3, 0, none⟩)), (.pointer (some ⟨r5, 0, none⟩))] : List Value), cellC r21 86 ([(.int .i64 (1)), (.int .i64 (3)), (.int .i64 (2)), (.map (some m22))] : List Value), mapC m22 (Value.int .i64) encX M87, denC M87, rowTr b29 80 7 T] w85 := H90.pick [0, 1, 2, 3, 4, 5, 6, 7, 8] (by decide)
            refine meetR_at ?_ ⟨M87, B, T, hP2.1, (hE.open R88), (by omega), (by omega), H91⟩
            exact (same_upd rfl (same_upd rfl (same_upd rfl (same_upd rfl (same_upd rfl (same_upd rfl (same_upd rfl (same_upd rfl (same_upd rfl (same_upd rfl (same_upd rfl (same_upd rfl (same_upd rfl (same_upd rfl (same_upd rfl (same_upd rfl (same_upd rfl (same_upd rfl (same_upd rfl (same_upd rfl (same_refl)))))))))))))))))))))
          · have g92 := of_decide_eq_false b76
            refine wp_know 71 (.bool false) (congrArg Value.bool b76) ?_
            have g93 := of_decide_eq_false b76
            refine wp_iff rfl ?_
            refine w_seq ?_
            refine w_seq ?_
            refine w_lit ?_
            refine wl_pure (wants0 rfl) (d := 83) (v := (.bool (decide ((withinV ((acts.getD i ac0).d) 9) = 4)))) rfl (by kernel_rfl) ?_
            refine wl_pure (wants0 rfl) (d := 82) (v := (.bool (decide ((withinV ((acts.getD i ac0).d) 9) = 4)))) rfl (by kernel_rfl) ?_
            refine w_nil ?_
            refine then_normal ?_
            refine (bsplit (decide ((withinV ((acts.getD i ac0).d) 9) = 4))).elim (fun b94 => ?_) (fun b94 => ?_)
            · have g95 := of_decide_eq_true b94
              refine wp_know 82 (.bool true) (congrArg Value.bool b94) ?_
              have g96 := of_decide_eq_true b94
              refine wp_ift rfl ?_
              refine w_skip ?_
              refine then_normal ?_
              refine wp_ift rfl ?_
              refine h_start H56 [restC w (fun _ => False), cellC b3 103 ([(.map (some m4))] : List Value), cellC r5 96 ([(.slice none 0 0)] : List Value), cellC b12 52 ([(.pointer (some ⟨b3, 0, none⟩)), (.pointer (some ⟨r5, 0, none⟩))] : List Value), cellC r21 86 ([(.int .i64 (1)), (.int .i64 (3)), (.int .i64 (2)), (.map (some m22))] : List Value), rowTr b29 80 7 T] 10 rfl (by kernel_rfl) (fun Hx => (Hx.pick [0, 1, 3, 4, 5, 8] (by decide))) ?_
              intro w97 H98 S99
              refine h_val 0 rfl (by kernel_rfl) (by kernel_rfl) (by kernel_rfl) (fun _ _ _ h => h) S99 (wants0 rfl) (d := 85) (v := (.pointer (some ⟨r21, 0, none⟩))) rfl (fun _ H' => (by kernel_rfl)) ?_
              refine h_val 1 rfl (by kernel_rfl) (by kernel_rfl) (by kernel_rfl) (fun _ _ _ h => h) S99 (wants0 rfl) (d := 86) (v := (.pointer (some ⟨b12, 0, none⟩))) rfl (fun _ H' => (by kernel_rfl)) ?_
              refine h_val 2 rfl (by kernel_rfl) (by kernel_rfl) (by kernel_rfl) (fun _ _ _ h => h) S99 (wants0 rfl) (d := 87) (v := (.pointer (some ⟨b3, 0, none⟩))) rfl (fun _ H' => (e_load1 rfl (by kernel_rfl) (H'.cell 3 rfl rfl))) ?_
              refine h_val 3 rfl (by kernel_rfl) (by kernel_rfl) (by kernel_rfl) (fun _ _ _ h => h) S99 (wants0 rfl) (d := 88) (v := (.slice va acts.length vc)) rfl (fun _ H' => (by kernel_rfl)) ?_
              refine h_val 4 rfl (by kernel_rfl) (by kernel_rfl) (by kernel_rfl) (fun _ _ _ h => h) S99 (wants0 rfl) (d := 89) (v := (.int .i64 ((i : Int)))) rfl (fun _ H' => (by kernel_rfl)) ?_
              refine h_val 5 rfl (by kernel_rfl) (by kernel_rfl) (by kernel_rfl) (fun _ _ _ h => h) S99 (wants0 rfl) (d := 90) (v := (.pointer (some ⟨g44, o45 + ((i : Int)).toNat * 5, none⟩))) rfl (fun _ H' => (e_indexAddrW (E := 57) (by kernel_rfl) (by kernel_rfl) (Nat.le_of_ble_eq_true rfl) rfl e47 rfl (by omega) (by omega))) ?_
              refine h_val 6 rfl (by kernel_rfl) (by kernel_rfl) (by kernel_rfl) (fun _ _ _ h => h) S99 (wants0 rfl) (d := 91) (v := (.pointer (some ⟨g44, o45 + ((i : Int)).toNat * 5 + 4, none⟩))) rfl (fun _ H' => (by kernel_rfl)) ?_
              refine h_val 7 rfl (by kernel_rfl) (by kernel_rfl) (by kernel_rfl) (fun _ _ _ h => h) S99 (wants0 rfl) (d := 92) (v := (.int .u64 ((acts.getD i ac0).t))) rfl (fun _ H' => (e_load1 rfl (by kernel_rfl) (H'.cellR 0 rfl (cells_at R48 4 (by kernel_rfl) (show o45 + ((i : Int)).toNat * 5 + 4 = o45 + i * 5 + 4 by omega)) (fun h => h)))) ?_
              refine h_val 8 rfl (by kernel_rfl) (by kernel_rfl) (by kernel_rfl) (fun _ _ _ h => h) S99 (wants0 rfl) (d := 93) (v := (.int .u64 (((acts.getD i ac0).t) % 80))) rfl (fun _ H' => (e_rem (by kernel_rfl) (by omega) (by omega))) ?_
              refine h_do 9 rfl (by kernel_rfl) (wants0 rfl) (fun K100 hK100 => ?_)
              refine d_call (d := 94) rfl (by kernel_rfl) (rvDue_any w97 r21 m22 1 3 2 L b3 m4 B (H98.fin [5, 6, 7, 1, 2] (by decide) rfl) (by omega) (hP.i64 (by decide)) hP.nd hP.since (by decide) (((acts.getD i ac0).t) % 80) (by omega) (by omega)) ?_
              rintro _ w101 ⟨M102, N103, a104, c105, O106, rfl, R107, n108, T109⟩
              have H110 : Sat w [restC w (fun _ => False), cellC b3 103 ([(.map (some m4))] : List Value), mapC m4 signedV (Value.int .i64) (marks N103), cellC r5 96 ([(.slice none 0 0)] : List Value), cellC b12 52 ([(.pointer (some ⟨b3, 0, none⟩)), (.pointer (some ⟨r5, 0, none⟩))] : List Value), cellC r21 86 ([(.int .i64 (1)), (.int .i64 (3)), (.int .i64 (2)), (.map (some m22))] : List Value), mapC m22 (Value.int .i64) encX M102, denC M102, rowTr b29 80 7 T, rowC 63 4 (.slice a104 O106.length c105) O106.length (O106.flatMap encDn)] w101 := (Sat.turnL (L' := [cellC r21 86 ([(.int .i64 (1)), (.int .i64 (3)), (.int .i64 (2)), (.map (some m22))] : List Value), mapC m22 (Value.int .i64) encX M102, denC M102, cellC b3 103 ([(.map (some m4))] : List Value), mapC m4 signedV (Value.int .i64) (marks N103), rowC 63 4 (.slice a104 O106.length c105) O106.length (O106.flatMap encDn)]) (R := [restC w (fun _ => False), cellC r5 96 ([(.slice none 0 0)] : List Value), cellC b12 52 ([(.pointer (some ⟨b3, 0, none⟩)), (.pointer (some ⟨r5, 0, none⟩))] : List Value), rowTr b29 80 7 T]) H98 [5, 6, 7, 1, 2] [0, 3, 4, 8] (by decide) (by kernel_rfl) rfl T109).pick [6, 3, 4, 7, 8, 0, 1, 2, 9, 5] (by decide)
              refine ⟨_, rfl, ?_⟩
              have hP2 := hP.due R107
              have hl2 := R107.len
              have ho2 := R107.olen
              have S111 := H110.pick [0, 1, 3, 4, 5, 8] (by decide)
              refine hK100 _ _ S111 ?_
              clear hK100 K100
              refine h_fin (by kernel_rfl) ?_
              refine blk_normal ?_
              have H112 : Sat w [restC w (fun _ => False), cellC b3 103 ([(.map (some m4))] : List Value), mapC m4 signedV (Value.int .i64) (marks N103), cellC r5 96 ([(.slice none 0 0)] : List Value), cellC b12 52 ([(.pointer (some ⟨b3, 0, none⟩)), (.pointer (some ⟨r5, 0, none⟩))] : List Value), cellC r21 86 ([(.int .i64 (1)), (.int .i64 (3)), (.int .i64 (2)), (.map (some m22))] : List Value), mapC m22 (Value.int .i64) encX M102, denC M102, rowTr b29 80 7 T] w101 := H110.pick [0, 1, 2, 3, 4, 5, 6, 7, 8] (by decide)
              refine meetR_at ?_ ⟨M102, N103, T, hP2, (hE.due R107), (by omega), (by omega), H112⟩
              exact (same_upd rfl (same_upd rfl (same_upd rfl (same_upd rfl (same_upd rfl (same_upd rfl (same_upd rfl (same_upd rfl (same_upd rfl (same_upd rfl (same_upd rfl (same_upd rfl (same_upd rfl (same_upd rfl (same_upd rfl (same_upd rfl (same_upd rfl (same_upd rfl (same_upd rfl (same_upd rfl (same_upd rfl (same_upd rfl (same_upd rfl (same_upd rfl (same_upd rfl (same_refl))))))))))))))))))))))))))
            · have g113 := of_decide_eq_false b94
              refine wp_know 82 (.bool false) (congrArg Value.bool b94) ?_
              have g114 := of_decide_eq_false b94
              refine wp_iff rfl ?_
              refine w_lit ?_
              refine wl_pure (wants0 rfl) (d := 84) (v := (.bool (decide ((withinV ((acts.getD i ac0).d) 9) = 5)))) rfl (by kernel_rfl) ?_
              refine wl_pure (wants0 rfl) (d := 82) (v := (.bool (decide ((withinV ((acts.getD i ac0).d) 9) = 5)))) rfl (by kernel_rfl) ?_
              refine w_nil ?_
              refine then_normal ?_
              refine (bsplit (decide ((withinV ((acts.getD i ac0).d) 9) = 5))).elim (fun b115 => ?_) (fun b115 => ?_)
              · have g116 := of_decide_eq_true b115
                refine wp_know 82 (.bool true) (congrArg Value.bool b115) ?_
                have g117 := of_decide_eq_true b115
                refine wp_ift rfl ?_
                refine h_start H56 [restC w (fun _ => False), cellC b3 103 ([(.map (some m4))] : List Value), cellC r5 96 ([(.slice none 0 0)] : List Value), cellC b12 52 ([(.pointer (some ⟨b3, 0, none⟩)), (.pointer (some ⟨r5, 0, none⟩))] : List Value), cellC r21 86 ([(.int .i64 (1)), (.int .i64 (3)), (.int .i64 (2)), (.map (some m22))] : List Value), rowTr b29 80 7 T] 10 rfl (by kernel_rfl) (fun Hx => (Hx.pick [0, 1, 3, 4, 5, 8] (by decide))) ?_
                intro w118 H119 S120
                refine h_val 0 rfl (by kernel_rfl) (by kernel_rfl) (by kernel_rfl) (fun _ _ _ h => h) S120 (wants0 rfl) (d := 85) (v := (.pointer (some ⟨r21, 0, none⟩))) rfl (fun _ H' => (by kernel_rfl)) ?_
                refine h_val 1 rfl (by kernel_rfl) (by kernel_rfl) (by kernel_rfl) (fun _ _ _ h => h) S120 (wants0 rfl) (d := 86) (v := (.pointer (some ⟨b12, 0, none⟩))) rfl (fun _ H' => (by kernel_rfl)) ?_
                refine h_val 2 rfl (by kernel_rfl) (by kernel_rfl) (by kernel_rfl) (fun _ _ _ h => h) S120 (wants0 rfl) (d := 87) (v := (.pointer (some ⟨b3, 0, none⟩))) rfl (fun _ H' => (e_load1 rfl (by kernel_rfl) (H'.cell 3 rfl rfl))) ?_
                refine h_val 3 rfl (by kernel_rfl) (by kernel_rfl) (by kernel_rfl) (fun _ _ _ h => h) S120 (wants0 rfl) (d := 88) (v := (.slice va acts.length vc)) rfl (fun _ H' => (by kernel_rfl)) ?_
                refine h_val 4 rfl (by kernel_rfl) (by kernel_rfl) (by kernel_rfl) (fun _ _ _ h => h) S120 (wants0 rfl) (d := 89) (v := (.int .i64 ((i : Int)))) rfl (fun _ H' => (by kernel_rfl)) ?_
                refine h_val 5 rfl (by kernel_rfl) (by kernel_rfl) (by kernel_rfl) (fun _ _ _ h => h) S120 (wants0 rfl) (d := 90) (v := (.pointer (some ⟨g44, o45 + ((i : Int)).toNat * 5, none⟩))) rfl (fun _ H' => (e_indexAddrW (E := 57) (by kernel_rfl) (by kernel_rfl) (Nat.le_of_ble_eq_true rfl) rfl e47 rfl (by omega) (by omega))) ?_
                refine h_val 6 rfl (by kernel_rfl) (by kernel_rfl) (by kernel_rfl) (fun _ _ _ h => h) S120 (wants0 rfl) (d := 91) (v := (.pointer (some ⟨g44, o45 + ((i : Int)).toNat * 5 + 4, none⟩))) rfl (fun _ H' => (by kernel_rfl)) ?_
                refine h_val 7 rfl (by kernel_rfl) (by kernel_rfl) (by kernel_rfl) (fun _ _ _ h => h) S120 (wants0 rfl) (d := 92) (v := (.int .u64 ((acts.getD i ac0).t))) rfl (fun _ H' => (e_load1 rfl (by kernel_rfl) (H'.cellR 0 rfl (cells_at R48 4 (by kernel_rfl) (show o45 + ((i : Int)).toNat * 5 + 4 = o45 + i * 5 + 4 by omega)) (fun h => h)))) ?_
                refine h_val 8 rfl (by kernel_rfl) (by kernel_rfl) (by kernel_rfl) (fun _ _ _ h => h) S120 (wants0 rfl) (d := 93) (v := (.int .u64 (((acts.getD i ac0).t) % 80))) rfl (fun _ H' => (e_rem (by kernel_rfl) (by omega) (by omega))) ?_
                refine h_do 9 rfl (by kernel_rfl) (wants0 rfl) (fun K121 hK121 => ?_)
                refine d_call (d := 94) rfl (by kernel_rfl) (rvDue_any w118 r21 m22 1 3 2 L b3 m4 B (H119.fin [5, 6, 7, 1, 2] (by decide) rfl) (by omega) (hP.i64 (by decide)) hP.nd hP.since (by decide) (((acts.getD i ac0).t) % 80) (by omega) (by omega)) ?_
                rintro _ w122 ⟨M123, N124, a125, c126, O127, rfl, R128, n129, T130⟩
                have H131 : Sat w [restC w (fun _ => False), cellC b3 103 ([(.map (some m4))] : List Value), mapC m4 signedV (Value.int .i64) (marks N124), cellC r5 96 ([(.slice none 0 0)] : List Value), cellC b12 52 ([(.pointer (some ⟨b3, 0, none⟩)), (.pointer (some ⟨r5, 0, none⟩))] : List Value), cellC r21 86 ([(.int .i64 (1)), (.int .i64 (3)), (.int .i64 (2)), (.map (some m22))] : List Value), mapC m22 (Value.int .i64) encX M123, denC M123, rowTr b29 80 7 T, rowC 63 4 (.slice a125 O127.length c126) O127.length (O127.flatMap encDn)] w122 := (Sat.turnL (L' := [cellC r21 86 ([(.int .i64 (1)), (.int .i64 (3)), (.int .i64 (2)), (.map (some m22))] : List Value), mapC m22 (Value.int .i64) encX M123, denC M123, cellC b3 103 ([(.map (some m4))] : List Value), mapC m4 signedV (Value.int .i64) (marks N124), rowC 63 4 (.slice a125 O127.length c126) O127.length (O127.flatMap encDn)]) (R := [restC w (fun _ => False), cellC r5 96 ([(.slice none 0 0)] : List Value), cellC b12 52 ([(.pointer (some ⟨b3, 0, none⟩)), (.pointer (some ⟨r5, 0, none⟩))] : List Value), rowTr b29 80 7 T]) H119 [5, 6, 7, 1, 2] [0, 3, 4, 8] (by decide) (by kernel_rfl) rfl T130).pick [6, 3, 4, 7, 8, 0, 1, 2, 9, 5] (by decide)
                refine ⟨_, rfl, ?_⟩
                have hP2 := hP.due R128
                have hl2 := R128.len
                have ho2 := R128.olen
                have S132 := H131.pick [0, 1, 3, 4, 5, 8] (by decide)
                refine hK121 _ _ S132 ?_
                clear hK121 K121
                refine h_fin (by kernel_rfl) ?_
                refine blk_normal ?_
                have H133 : Sat w [restC w (fun _ => False), cellC b3 103 ([(.map (some m4))] : List Value), mapC m4 signedV (Value.int .i64) (marks N124), cellC r5 96 ([(.slice none 0 0)] : List Value), cellC b12 52 ([(.pointer (some ⟨b3, 0, none⟩)), (.pointer (some ⟨r5, 0, none⟩))] : List Value), cellC r21 86 ([(.int .i64 (1)), (.int .i64 (3)), (.int .i64 (2)), (.map (some m22))] : List Value), mapC m22 (Value.int .i64) encX M123, denC M123, rowTr b29 80 7 T] w122 := H131.pick [0, 1, 2, 3, 4, 5, 6, 7, 8] (by decide)
                refine meetR_at ?_ ⟨M123, N124, T, hP2, (hE.due R128), (by omega), (by omega), H133⟩
                exact (same_upd rfl (same_upd rfl (same_upd rfl (same_upd rfl (same_upd rfl (same_upd rfl (same_upd rfl (same_upd rfl (same_upd rfl (same_upd rfl (same_upd rfl (same_upd rfl (same_upd rfl (same_upd rfl (same_upd rfl (same_upd rfl (same_upd rfl (same_upd rfl (same_upd rfl (same_upd rfl (same_upd rfl (same_upd rfl (same_upd rfl (same_upd rfl (same_upd rfl (same_upd rfl (same_upd rfl (same_upd rfl (same_refl)))))))))))))))))))))))))))))
              · have g134 := of_decide_eq_false b115
                refine wp_know 82 (.bool false) (congrArg Value.bool b115) ?_
                have g135 := of_decide_eq_false b115
                refine wp_iff rfl ?_
                refine w_seq ?_
                refine w_lit ?_
                refine wl_pure (wants0 rfl) (d := 96) (v := (.bool (decide ((withinV ((acts.getD i ac0).d) 9) = 8)))) rfl (by kernel_rfl) ?_
                refine wl_pure (wants0 rfl) (d := 95) (v := (.bool (decide ((withinV ((acts.getD i ac0).d) 9) = 8)))) rfl (by kernel_rfl) ?_
                refine w_nil ?_
                refine then_normal ?_
                refine (bsplit (decide ((withinV ((acts.getD i ac0).d) 9) = 8))).elim (fun b136 => ?_) (fun b136 => ?_)
                · have g137 := of_decide_eq_true b136
                  refine wp_know 95 (.bool true) (congrArg Value.bool b136) ?_
                  have g138 := of_decide_eq_true b136
                  refine wp_ift rfl ?_
                  refine w_seq ?_
                  refine w_seq ?_
                  refine h_start H56 [restC w (fun _ => False), cellC b3 103 ([(.map (some m4))] : List Value), mapC m4 signedV (Value.int .i64) (marks B), cellC r5 96 ([(.slice none 0 0)] : List Value), cellC b12 52 ([(.pointer (some ⟨b3, 0, none⟩)), (.pointer (some ⟨r5, 0, none⟩))] : List Value), cellC r21 86 ([(.int .i64 (1)), (.int .i64 (3)), (.int .i64 (2)), (.map (some m22))] : List Value), rowTr b29 80 7 T] 7 rfl (by kernel_rfl) (fun Hx => (Hx.pick [0, 1, 2, 3, 4, 5, 8] (by decide))) ?_
                  intro w139 H140 S141
                  refine h_val 0 rfl (by kernel_rfl) (by kernel_rfl) (by kernel_rfl) (fun _ _ _ h => h) S141 (wants0 rfl) (d := 97) (v := (.pointer (some ⟨r21, 0, none⟩))) rfl (fun _ H' => (by kernel_rfl)) ?_
                  refine h_val 1 rfl (by kernel_rfl) (by kernel_rfl) (by kernel_rfl) (fun _ _ _ h => h) S141 (wants0 rfl) (d := 98) (v := (.int .i64 (K))) rfl (fun _ H' => (by kernel_rfl)) ?_
                  refine h_val 3 rfl (by kernel_rfl) (by kernel_rfl) (by kernel_rfl) (fun _ _ _ h => h) S141 (wants0 rfl) (d := 100) (v := (.int .i64 (K))) rfl (fun _ H' => (by kernel_rfl)) ?_
                  refine h_val 4 rfl (by kernel_rfl) (by kernel_rfl) (by kernel_rfl) (fun _ _ _ h => h) S141 (wants0 rfl) (d := 101) (v := (.pointer (some ⟨b29, 0 + (K).toNat * 1, none⟩))) rfl (fun _ H' => (e_indexAddrA (E := 4) (N := 7) (by kernel_rfl) (by kernel_rfl) (Nat.le_of_ble_eq_true rfl) rfl rfl (by omega) (by omega))) ?_
                  refine h_val 5 rfl (by kernel_rfl) (by kernel_rfl) (by kernel_rfl) (fun _ _ _ h => h) S141 (wants0 rfl) (d := 102) (v := (.bool (T.getD (K).toNat false))) rfl (fun _ H' => (e_load1 rfl (by kernel_rfl) (rowTr_cell (H'.at 6 rfl) (show (K).toNat < 7 by omega) (show 0 + (K).toNat * 1 = (K).toNat by omega)))) ?_
                  refine h_do 2 rfl (by kernel_rfl) (wants0 rfl) (fun K142 hK142 => ?_)
                  refine d_call (d := 99) rfl (by kernel_rfl) (rvForgetG_any w139 r21 m22 1 3 2 L (H140.fin [5, 6, 7] (by decide) rfl) K) ?_
                  rintro _ w143 ⟨rfl, T144⟩
                  have H145 : Sat w [restC w (fun _ => False), cellC b3 103 ([(.map (some m4))] : List Value), mapC m4 signedV (Value.int .i64) (marks B), cellC r5 96 ([(.slice none 0 0)] : List Value), cellC b12 52 ([(.pointer (some ⟨b3, 0, none⟩)), (.pointer (some ⟨r5, 0, none⟩))] : List Value), cellC r21 86 ([(.int .i64 (1)), (.int .i64 (3)), (.int .i64 (2)), (.map (some m22))] : List Value), mapC m22 (Value.int .i64) encX (delM L K), denC (delM L K), rowTr b29 80 7 T] w143 := (Sat.turnL (L' := [cellC r21 86 ([(.int .i64 (1)), (.int .i64 (3)), (.int .i64 (2)), (.map (some m22))] : List Value), mapC m22 (Value.int .i64) encX (delM L K), denC (delM L K)]) (R := [restC w (fun _ => False), cellC b3 103 ([(.map (some m4))] : List Value), mapC m4 signedV (Value.int .i64) (marks B), cellC r5 96 ([(.slice none 0 0)] : List Value), cellC b12 52 ([(.pointer (some ⟨b3, 0, none⟩)), (.pointer (some ⟨r5, 0, none⟩))] : List Value), rowTr b29 80 7 T]) H140 [5, 6, 7] [0, 1, 2, 3, 4, 8] (by decide) (by kernel_rfl) rfl T144).pick [3, 4, 5, 6, 7, 0, 1, 2, 8] (by decide)
                  refine ⟨_, rfl, ?_⟩
                  have hP2 := hP.del (i := K)
                  have ht2 := hE.t.at hK6.1 hK6n
                  have S146 := H145.pick [0, 1, 2, 3, 4, 5, 8] (by decide)
                  refine hK142 _ _ S146 ?_
                  clear hK142 K142
                  refine h_val 6 rfl (by kernel_rfl) (by kernel_rfl) (by kernel_rfl) (fun _ _ _ h => h) S146 (wants0 rfl) (d := 103) (v := (.bool (!(((lookM L K).isSome) == (T.getD (K).toNat false))))) rfl (fun _ H' => (by kernel_rfl)) ?_
                  refine h_fin (by kernel_rfl) ?_
                  refine then_normal ?_
                  have b147 : (!(((lookM L K).isSome) == (T.getD (K).toNat false))) = false := by (rw [ht2]; cases (lookM L K).isSome <;> rfl)
                  refine wp_know 103 (.bool false) (congrArg Value.bool b147) ?_
                  have g148 := bnot_false b147
                  refine wp_iff rfl ?_
                  refine w_skip ?_
                  refine then_normal ?_
                  refine w_lit ?_
                  refine wl_pure (wants0 rfl) (d := 104) (v := (.int .i64 (K))) rfl (by kernel_rfl) ?_
                  refine wl_pure (wants0 rfl) (d := 105) (v := (.pointer (some ⟨b29, 0 + (K).toNat * 1, none⟩))) rfl (e_indexAddrA (E := 4) (N := 7) (by kernel_rfl) (by kernel_rfl) (Nat.le_of_ble_eq_true rfl) rfl rfl (by omega) (by omega)) ?_
                  refine wl_do (wants0 rfl) (fun K149 hK149 => ?_)
                  refine d_storeTr rfl H145 8 rfl rfl rfl (by kernel_rfl) (show 0 + (K).toNat * 1 = (K).toNat by omega) (show (K).toNat < 7 by omega) ?_
                  intro w150 (H151 : Sat w [restC w (fun _ => False), cellC b3 103 ([(.map (some m4))] : List Value), mapC m4 signedV (Value.int .i64) (marks B), cellC r5 96 ([(.slice none 0 0)] : List Value), cellC b12 52 ([(.pointer (some ⟨b3, 0, none⟩)), (.pointer (some ⟨r5, 0, none⟩))] : List Value), cellC r21 86 ([(.int .i64 (1)), (.int .i64 (3)), (.int .i64 (2)), (.map (some m22))] : List Value), mapC m22 (Value.int .i64) encX (delM L K), denC (delM L K), rowTr b29 80 7 (T.set (K).toNat false)] w150)
                  refine hK149 _ _ ?_
                  clear hK149 K149
                  refine w_nil ?_
                  refine blk_normal ?_
                  refine meetR_at ?_ ⟨(delM L K), B, (T.set (K).toNat false), hP2.1, (hE.del hP.nd hK6.1 hK6n), (by omega), (by omega), H151⟩
                  exact (same_upd rfl (same_upd rfl (same_upd rfl (same_upd rfl (same_upd rfl (same_upd rfl (same_upd rfl (same_upd rfl (same_upd rfl (same_upd rfl (same_upd rfl (same_upd rfl (same_upd rfl (same_upd rfl (same_upd rfl (same_upd rfl (same_upd rfl (same_upd rfl (same_upd rfl (same_upd rfl (same_upd rfl (same_upd rfl (same_upd rfl (same_upd rfl (same_upd rfl (same_upd rfl (same_upd rfl (same_upd rfl (same_upd rfl (same_upd rfl (same_upd rfl (same_refl))))))))))))))))))))))))))))))))
                · have g152 := of_decide_eq_false b136
                  refine wp_know 95 (.bool false) (congrArg Value.bool b136) ?_
                  have g153 := of_decide_eq_false b136
                  refine wp_iff rfl ?_
                  refine w_seq ?_
                  refine w_seq ?_
                  refine h_start H56 [restC w (fun _ => False), cellC b3 103 ([(.map (some m4))] : List Value), mapC m4 signedV (Value.int .i64) (marks B), cellC r5 96 ([(.slice none 0 0)] : List Value), cellC b12 52 ([(.pointer (some ⟨b3, 0, none⟩)), (.pointer (some ⟨r5, 0, none⟩))] : List Value), cellC r21 86 ([(.int .i64 (1)), (.int .i64 (3)), (.int .i64 (2)), (.map (some m22))] : List Value), rowTr b29 80 7 T] 15 rfl (by kernel_rfl) (fun Hx => (Hx.pick [0, 1, 2, 3, 4, 5, 8] (by decide))) ?_
                  intro w154 H155 S156
                  refine h_val 0 rfl (by kernel_rfl) (by kernel_rfl) (by kernel_rfl) (fun _ _ _ h => h) S156 (wants0 rfl) (d := 54) (v := (.pointer (some ⟨r21, 0, none⟩))) rfl (fun _ H' => (by kernel_rfl)) ?_
                  refine h_val 1 rfl (by kernel_rfl) (by kernel_rfl) (by kernel_rfl) (fun _ _ _ h => h) S156 (wants0 rfl) (d := 55) (v := (.int .i64 (K))) rfl (fun _ H' => (by kernel_rfl)) ?_
                  refine h_val 2 rfl (by kernel_rfl) (by kernel_rfl) (by kernel_rfl) (fun _ _ _ h => h) S156 (wants0 rfl) (d := 56) (v := (.int .i64 (K))) rfl (fun _ H' => (by kernel_rfl)) ?_
                  refine h_val 4 rfl (by kernel_rfl) (by kernel_rfl) (by kernel_rfl) (fun _ _ _ h => h) S156 (wants0 rfl) (d := 58) (v := (.slice va acts.length vc)) rfl (fun _ H' => (by kernel_rfl)) ?_
                  refine h_val 5 rfl (by kernel_rfl) (by kernel_rfl) (by kernel_rfl) (fun _ _ _ h => h) S156 (wants0 rfl) (d := 59) (v := (.int .i64 ((i : Int)))) rfl (fun _ H' => (by kernel_rfl)) ?_
                  refine h_val 6 rfl (by kernel_rfl) (by kernel_rfl) (by kernel_rfl) (fun _ _ _ h => h) S156 (wants0 rfl) (d := 60) (v := (.pointer (some ⟨g44, o45 + ((i : Int)).toNat * 5, none⟩))) rfl (fun _ H' => (e_indexAddrW (E := 57) (by kernel_rfl) (by kernel_rfl) (Nat.le_of_ble_eq_true rfl) rfl e47 rfl (by omega) (by omega))) ?_
                  refine h_val 7 rfl (by kernel_rfl) (by kernel_rfl) (by kernel_rfl) (fun _ _ _ h => h) S156 (wants0 rfl) (d := 61) (v := (.pointer (some ⟨g44, o45 + ((i : Int)).toNat * 5 + 4, none⟩))) rfl (fun _ H' => (by kernel_rfl)) ?_
                  refine h_val 8 rfl (by kernel_rfl) (by kernel_rfl) (by kernel_rfl) (fun _ _ _ h => h) S156 (wants0 rfl) (d := 62) (v := (.int .u64 ((acts.getD i ac0).t))) rfl (fun _ H' => (e_load1 rfl (by kernel_rfl) (H'.cellR 0 rfl (cells_at R48 4 (by kernel_rfl) (show o45 + ((i : Int)).toNat * 5 + 4 = o45 + i * 5 + 4 by omega)) (fun h => h)))) ?_
                  refine h_val 9 rfl (by kernel_rfl) (by kernel_rfl) (by kernel_rfl) (fun _ _ _ h => h) S156 (wants0 rfl) (d := 63) (v := (.int .u64 (((acts.getD i ac0).t) % 40))) rfl (fun _ H' => (e_rem (by kernel_rfl) (by omega) (by omega))) ?_
                  refine h_val 11 rfl (by kernel_rfl) (by kernel_rfl) (by kernel_rfl) (fun _ _ _ h => h) S156 (wants0 rfl) (d := 65) (v := (.int .i64 (K))) rfl (fun _ H' => (by kernel_rfl)) ?_
                  refine h_val 12 rfl (by kernel_rfl) (by kernel_rfl) (by kernel_rfl) (fun _ _ _ h => h) S156 (wants0 rfl) (d := 66) (v := (.pointer (some ⟨b29, 0 + (K).toNat * 1, none⟩))) rfl (fun _ H' => (e_indexAddrA (E := 4) (N := 7) (by kernel_rfl) (by kernel_rfl) (Nat.le_of_ble_eq_true rfl) rfl rfl (by omega) (by omega))) ?_
                  refine h_val 13 rfl (by kernel_rfl) (by kernel_rfl) (by kernel_rfl) (fun _ _ _ h => h) S156 (wants0 rfl) (d := 67) (v := (.bool (T.getD (K).toNat false))) rfl (fun _ H' => (e_load1 rfl (by kernel_rfl) (rowTr_cell (H'.at 6 rfl) (show (K).toNat < 7 by omega) (show 0 + (K).toNat * 1 = (K).toNat by omega)))) ?_
                  refine h_do 3 rfl (by kernel_rfl) (wants0 rfl) (fun K157 hK157 => ?_)
                  refine d_call (d := 57) rfl (by kernel_rfl) (entry_any w154 K) ?_
                  rintro _ w158 ⟨rfl, u160⟩
                  have H159 := H155.keepU u160
                  refine ⟨_, rfl, ?_⟩
                  have S161 := H159.pick [0, 1, 2, 3, 4, 5, 8] (by decide)
                  refine hK157 _ _ S161 ?_
                  clear hK157 K157
                  refine h_do 10 rfl (by kernel_rfl) (wants0 rfl) (fun K162 hK162 => ?_)
                  refine d_call (d := 64) rfl (by kernel_rfl) (rvPlaceG_any w158 r21 m22 1 3 2 L (H159.fin [5, 6, 7] (by decide) rfl) K (1 : Int) (1 + withinV K 9) (entH K) (3 : Int) (((acts.getD i ac0).t) % 40) (by omega)) ?_
                  rintro _ w163 ⟨M164, rfl, R165, T166⟩
                  have H167 : Sat w [restC w (fun _ => False), cellC b3 103 ([(.map (some m4))] : List Value), mapC m4 signedV (Value.int .i64) (marks B), cellC r5 96 ([(.slice none 0 0)] : List Value), cellC b12 52 ([(.pointer (some ⟨b3, 0, none⟩)), (.pointer (some ⟨r5, 0, none⟩))] : List Value), cellC r21 86 ([(.int .i64 (1)), (.int .i64 (3)), (.int .i64 (2)), (.map (some m22))] : List Value), mapC m22 (Value.int .i64) encX M164, denC M164, rowTr b29 80 7 T] w163 := (Sat.turnL (L' := [cellC r21 86 ([(.int .i64 (1)), (.int .i64 (3)), (.int .i64 (2)), (.map (some m22))] : List Value), mapC m22 (Value.int .i64) encX M164, denC M164]) (R := [restC w (fun _ => False), cellC b3 103 ([(.map (some m4))] : List Value), mapC m4 signedV (Value.int .i64) (marks B), cellC r5 96 ([(.slice none 0 0)] : List Value), cellC b12 52 ([(.pointer (some ⟨b3, 0, none⟩)), (.pointer (some ⟨r5, 0, none⟩))] : List Value), rowTr b29 80 7 T]) H159 [5, 6, 7] [0, 1, 2, 3, 4, 8] (by decide) (by kernel_rfl) rfl T166).pick [3, 4, 5, 6, 7, 0, 1, 2, 8] (by decide)
                  refine ⟨_, rfl, ?_⟩
                  have hP2 := hP.place R165 (by omega) rfl rfl rfl (by omega)
                  have hl2 := R165.len
                  have ht2 := hE.t.at hK6.1 hK6n
                  have S168 := H167.pick [0, 1, 2, 3, 4, 5, 8] (by decide)
                  refine hK162 _ _ S168 ?_
                  clear hK162 K162
                  refine h_val 14 rfl (by kernel_rfl) (by kernel_rfl) (by kernel_rfl) (fun _ _ _ h => h) S168 (wants0 rfl) (d := 68) (v := (.bool ((!(lookM L K).isSome) == (T.getD (K).toNat false)))) rfl (fun _ H' => (by kernel_rfl)) ?_
                  refine h_fin (by kernel_rfl) ?_
                  refine then_normal ?_
                  have b169 : ((!(lookM L K).isSome) == (T.getD (K).toNat false)) = false := by (rw [ht2]; cases (lookM L K).isSome <;> rfl)
                  refine wp_know 68 (.bool false) (congrArg Value.bool b169) ?_
                  refine wp_iff rfl ?_
                  refine w_skip ?_
                  refine then_normal ?_
                  refine w_lit ?_
                  refine wl_pure (wants0 rfl) (d := 69) (v := (.int .i64 (K))) rfl (by kernel_rfl) ?_
                  refine wl_pure (wants0 rfl) (d := 70) (v := (.pointer (some ⟨b29, 0 + (K).toNat * 1, none⟩))) rfl (e_indexAddrA (E := 4) (N := 7) (by kernel_rfl) (by kernel_rfl) (Nat.le_of_ble_eq_true rfl) rfl rfl (by omega) (by omega)) ?_
                  refine wl_do (wants0 rfl) (fun K170 hK170 => ?_)
                  refine d_storeTr rfl H167 8 rfl rfl rfl (by kernel_rfl) (show 0 + (K).toNat * 1 = (K).toNat by omega) (show (K).toNat < 7 by omega) ?_
                  intro w171 (H172 : Sat w [restC w (fun _ => False), cellC b3 103 ([(.map (some m4))] : List Value), mapC m4 signedV (Value.int .i64) (marks B), cellC r5 96 ([(.slice none 0 0)] : List Value), cellC b12 52 ([(.pointer (some ⟨b3, 0, none⟩)), (.pointer (some ⟨r5, 0, none⟩))] : List Value), cellC r21 86 ([(.int .i64 (1)), (.int .i64 (3)), (.int .i64 (2)), (.map (some m22))] : List Value), mapC m22 (Value.int .i64) encX M164, denC M164, rowTr b29 80 7 (T.set (K).toNat true)] w171)
                  refine hK170 _ _ ?_
                  clear hK170 K170
                  refine w_nil ?_
                  refine blk_normal ?_
                  refine meetR_at ?_ ⟨M164, B, (T.set (K).toNat true), hP2, (hE.place R165 hK6.1 hK6n), (by omega), (by omega), H172⟩
                  exact (same_upd rfl (same_upd rfl (same_upd rfl (same_upd rfl (same_upd rfl (same_upd rfl (same_upd rfl (same_upd rfl (same_upd rfl (same_upd rfl (same_upd rfl (same_upd rfl (same_upd rfl (same_upd rfl (same_upd rfl (same_upd rfl (same_upd rfl (same_upd rfl (same_upd rfl (same_upd rfl (same_upd rfl (same_upd rfl (same_upd rfl (same_upd rfl (same_upd rfl (same_upd rfl (same_upd rfl (same_upd rfl (same_upd rfl (same_upd rfl (same_upd rfl (same_upd rfl (same_upd rfl (same_upd rfl (same_upd rfl (same_upd rfl (same_upd rfl (same_upd rfl (same_upd rfl (same_refl))))))))))))))))))))))))))))))))))))))))
      · rintro f173 w174 ⟨L1, B1, T1, hP1, hE1, hLl1, hBl1, H175⟩
        refine w_seq ?_
        refine w_lit ?_
        refine wl_pure (wants0 rfl) (d := 10) (v := (.int .i64 (-1))) rfl (by kernel_rfl) ?_
        refine w_nil ?_
        refine then_normal ?_
        refine w_seq ?_
        refine w_seq ?_
        refine w_lit ?_
        refine wl_pure (wants0 rfl) (d := 106) (v := (.pointer (some ⟨r21, 0, none⟩))) rfl (by kernel_rfl) ?_
        refine wl_do (wants0 rfl) (fun K176 hK176 => ?_)
        refine d_call (d := 107) rfl (by kernel_rfl) (rvOpenings_any w174 r21 m22 1 3 2 L1 (H175.at 5 rfl) (H175.at 6 rfl) (by omega) (hP1.i64 (by decide)) (H175.at 7 rfl) hP1.pay) ?_
        rintro _ w177 ⟨a178, c179, O180, rfl, o181, k182, u183, q184⟩
        have H185 : Sat w [restC w (fun _ => False), cellC b3 103 ([(.map (some m4))] : List Value), mapC m4 signedV (Value.int .i64) (marks B1), cellC r5 96 ([(.slice none 0 0)] : List Value), cellC b12 52 ([(.pointer (some ⟨b3, 0, none⟩)), (.pointer (some ⟨r5, 0, none⟩))] : List Value), cellC r21 86 ([(.int .i64 (1)), (.int .i64 (3)), (.int .i64 (2)), (.map (some m22))] : List Value), mapC m22 (Value.int .i64) encX L1, denC L1, rowTr b29 80 7 T1, rowC 43 34 (.slice a178 O180.length c179) O180.length (O180.flatMap encOp)] w177 := H175.addU u183 k182 q184
        refine ⟨_, rfl, ?_⟩
        have hol := hP1.olen o181
        refine hK176 _ _ ?_
        clear hK176 K176
        refine wl_pure (wants0 rfl) (d := 108) (v := (.int .i64 ((O180.length : Int)))) rfl (by kernel_rfl) ?_
        refine wl_pure (wants0 rfl) (d := 109) (v := (.int .i64 (0))) rfl (by kernel_rfl) ?_
        refine w_nil ?_
        refine then_normal ?_
        refine w_block ?_
        refine wp_round [2, 10, 12, 109, 110, 111, 112, 113, 114, 115, 116, 117, 118, 119, 120, 121, 122, 123, 124, 125, 126, 127, 128, 129, 130, 131, 132, 133, 134, 135, 136, 137, 138] (fun F_ W_ m_ => ∃ (m : Nat) (last : Int), F_ 109 = (.int .i64 ((m : Int))) ∧ F_ 10 = (.int .i64 (last)) ∧ (m ≤ O180.length) ∧ (RisI O180 m last) ∧ Sat w [restC w (fun _ => False), cellC b3 103 ([(.map (some m4))] : List Value), mapC m4 signedV (Value.int .i64) (marks B1), cellC r5 96 ([(.slice none 0 0)] : List Value), cellC b12 52 ([(.pointer (some ⟨b3, 0, none⟩)), (.pointer (some ⟨r5, 0, none⟩))] : List Value), cellC r21 86 ([(.int .i64 (1)), (.int .i64 (3)), (.int .i64 (2)), (.map (some m22))] : List Value), mapC m22 (Value.int .i64) encX L1, denC L1, rowTr b29 80 7 T1, rowC 43 34 (.slice a178 O180.length c179) O180.length (O180.flatMap encOp)] W_ ∧ m_ = O180.length - m) _ ⟨0, (-1), (show ((.int .i64 (0)) : Value) = _ by first | rfl | go_num), (show ((.int .i64 (-1)) : Value) = _ by first | rfl | go_num), (Nat.zero_le _), (hP1.risStart o181), H185, rfl⟩ ?_
        rintro g186 w187 _ ⟨m, last, v189, v190, hm, hU, H188, rfl⟩
        refine wp_know 109 _ v189 ?_
        refine wp_know 10 _ v190 ?_
        refine w_seq ?_
        refine w_lit ?_
        refine wl_pure (wants0 rfl) (d := 110) (v := (.bool (decide ((m : Int) < (O180.length : Int))))) rfl (by kernel_rfl) ?_
        refine w_nil ?_
        refine then_normal ?_
        refine w_seq ?_
        refine (bsplit (decide ((m : Int) < (O180.length : Int)))).elim (fun b192 => ?_) (fun b192 => ?_)
        · have g193 := of_decide_eq_true b192
          refine wp_know 110 (.bool true) (congrArg Value.bool b192) ?_
          have g194 := of_decide_eq_true b192
          refine wp_ift rfl ?_
          refine w_skip ?_
          refine then_normal ?_
          refine w_seq ?_
          refine w_block ?_
          refine w_seq ?_
          refine w_lit ?_
          obtain ⟨g195, c196, e197⟩ := row_shape (H188.at 9 rfl) (by omega)
          obtain ⟨x198, h199⟩ := get_at (show m < O180.length by omega)
          refine wl_pure (wants0 rfl) (d := 111) (v := (.pointer (some ⟨g195, 0 + ((m : Int)).toNat * 34, none⟩))) rfl (e_indexAddrV (E := 43) (by kernel_rfl) (by kernel_rfl) (Nat.le_of_ble_eq_true rfl) rfl e197 rfl (by omega) (by omega)) ?_
          refine wl_pure (wants0 rfl) (d := 112) (v := (.agg ⟨(([(.int .i64 (x198.i)), (.slice x198.a x198.n x198.c)] : List Value) ++ hc x198.h)⟩)) rfl (e_loadRun (vs := (([(.int .i64 (x198.i)), (.slice x198.a x198.n x198.c)] : List Value) ++ hc x198.h)) rfl (by kernel_rfl) (by kernel_rfl) (Nat.le_of_ble_eq_true (by kernel_rfl)) (rows_run (H188.at 9 rfl) e197 encOp_len h199 0 (show 0 + ((m : Int)).toNat * 34 = m * 34 + 0 by omega) (by kernel_rfl) (by kernel_rfl))) ?_
          refine wl_do (wants0 rfl) (fun K200 hK200 => ?_)
          refine d_alloc (zs := (([(.int .i64 (0)), (.slice none 0 0)] : List Value) ++ hc hash0)) (z := (.agg ⟨(([(.int .i64 (0)), (.slice none 0 0)] : List Value) ++ hc hash0)⟩)) rfl H188 (by kernel_rfl) (by kernel_rfl) ?_
          intro b201 w202 (H203 : Sat w [restC w (fun _ => False), cellC b3 103 ([(.map (some m4))] : List Value), mapC m4 signedV (Value.int .i64) (marks B1), cellC r5 96 ([(.slice none 0 0)] : List Value), cellC b12 52 ([(.pointer (some ⟨b3, 0, none⟩)), (.pointer (some ⟨r5, 0, none⟩))] : List Value), cellC r21 86 ([(.int .i64 (1)), (.int .i64 (3)), (.int .i64 (2)), (.map (some m22))] : List Value), mapC m22 (Value.int .i64) encX L1, denC L1, rowTr b29 80 7 T1, rowC 43 34 (.slice a178 O180.length c179) O180.length (O180.flatMap encOp), cellC b201 43 (([(.int .i64 (0)), (.slice none 0 0)] : List Value) ++ hc hash0)] w202)
          refine hK200 _ _ ?_
          clear hK200 K200
          refine wl_do (wants0 rfl) (fun K204 hK204 => ?_)
          refine d_storeX (vs := (([(.int .i64 (x198.i)), (.slice x198.a x198.n x198.c)] : List Value) ++ hc x198.h)) (cs' := (([(.int .i64 (x198.i)), (.slice x198.a x198.n x198.c)] : List Value) ++ hc x198.h)) rfl H203 10 rfl rfl rfl rfl (by kernel_rfl) (Nat.le_of_ble_eq_true (by kernel_rfl)) (Nat.le_of_ble_eq_true (by kernel_rfl)) (by kernel_rfl) (by kernel_rfl) ?_
          intro w205 (H206 : Sat w [restC w (fun _ => False), cellC b3 103 ([(.map (some m4))] : List Value), mapC m4 signedV (Value.int .i64) (marks B1), cellC r5 96 ([(.slice none 0 0)] : List Value), cellC b12 52 ([(.pointer (some ⟨b3, 0, none⟩)), (.pointer (some ⟨r5, 0, none⟩))] : List Value), cellC r21 86 ([(.int .i64 (1)), (.int .i64 (3)), (.int .i64 (2)), (.map (some m22))] : List Value), mapC m22 (Value.int .i64) encX L1, denC L1, rowTr b29 80 7 T1, rowC 43 34 (.slice a178 O180.length c179) O180.length (O180.flatMap encOp), cellC b201 43 (([(.int .i64 (x198.i)), (.slice x198.a x198.n x198.c)] : List Value) ++ hc x198.h)] w205)
          refine hK204 _ _ ?_
          clear hK204 K204
          refine w_nil ?_
          refine then_normal ?_
          refine w_seq ?_
          refine w_seq ?_
          obtain ⟨⟨hx0, hx6⟩, hxt, hxa⟩ := hP1.openAt o181 h199
          have hxl := hU m x198 (Nat.le_refl _) h199
          refine w_lit ?_
          refine wl_pure (wants0 rfl) (d := 113) (v := (.pointer (some ⟨b201, 0, none⟩))) rfl (by kernel_rfl) ?_
          refine wl_pure (wants0 rfl) (d := 114) (v := (.int .i64 (x198.i))) rfl (e_load1 rfl (by kernel_rfl) (H206.cell 10 rfl (by kernel_rfl))) ?_
          refine wl_pure (wants0 rfl) (d := 115) (v := (.int .i64 (last))) rfl (by kernel_rfl) ?_
          refine wl_pure (wants0 rfl) (d := 116) (v := (.bool (decide (x198.i ≤ last)))) rfl (by kernel_rfl) ?_
          refine wl_pure (wants0 rfl) (d := 117) (v := (.bool (decide (x198.i ≤ last)))) rfl (by kernel_rfl) ?_
          have b208 : (decide (x198.i ≤ last)) = false := by exact decide_eq_false (by omega)
          refine wl_know 117 (.bool false) (congrArg Value.bool b208) ?_
          have g209 := of_decide_eq_false b208
          refine wl_pure (wantsY 4 117 false rfl (by kernel_rfl) rfl (by kernel_rfl)) (d := 118) (v := (.pointer (some ⟨b201, 0, none⟩))) rfl (by kernel_rfl) ?_
          refine wl_pure (wantsY 4 117 false rfl (by kernel_rfl) rfl (by kernel_rfl)) (d := 119) (v := (.int .i64 (x198.i))) rfl (e_load1 rfl (by kernel_rfl) (H206.cell 10 rfl (by kernel_rfl))) ?_
          refine wl_pure (wantsY 4 117 false rfl (by kernel_rfl) rfl (by kernel_rfl)) (d := 120) (v := (.bool (decide (x198.i > 6)))) rfl (by kernel_rfl) ?_
          refine wl_pure (wants0 rfl) (d := 121) (v := (.bool (decide (x198.i > 6)))) rfl (by kernel_rfl) ?_
          refine wl_pure (wants0 rfl) (d := 122) (v := (.bool (decide (x198.i > 6)))) rfl (by kernel_rfl) ?_
          have b210 : (decide (x198.i > 6)) = false := by exact decide_eq_false (by omega)
          refine wl_know 122 (.bool false) (congrArg Value.bool b210) ?_
          have g211 := of_decide_eq_false b210
          refine wl_pure (wantsY 9 122 false rfl (by kernel_rfl) rfl (by kernel_rfl)) (d := 123) (v := (.pointer (some ⟨b201, 0, none⟩))) rfl (by kernel_rfl) ?_
          refine wl_pure (wantsY 9 122 false rfl (by kernel_rfl) rfl (by kernel_rfl)) (d := 124) (v := (.int .i64 (x198.i))) rfl (e_load1 rfl (by kernel_rfl) (H206.cell 10 rfl (by kernel_rfl))) ?_
          refine wl_pure (wantsY 9 122 false rfl (by kernel_rfl) rfl (by kernel_rfl)) (d := 125) (v := (.pointer (some ⟨b29, 0 + (x198.i).toNat * 1, none⟩))) rfl (e_indexAddrA (E := 4) (N := 7) (by kernel_rfl) (by kernel_rfl) (Nat.le_of_ble_eq_true rfl) rfl rfl (by omega) (by omega)) ?_
          refine wl_pure (wantsY 9 122 false rfl (by kernel_rfl) rfl (by kernel_rfl)) (d := 126) (v := (.bool (T1.getD (x198.i).toNat false))) rfl (e_load1 rfl (by kernel_rfl) (rowTr_cell (H206.at 8 rfl) (show (x198.i).toNat < 7 by omega) (show 0 + (x198.i).toNat * 1 = (x198.i).toNat by omega))) ?_
          refine wl_pure (wantsY 9 122 false rfl (by kernel_rfl) rfl (by kernel_rfl)) (d := 127) (v := (.bool (!(T1.getD (x198.i).toNat false)))) rfl (by kernel_rfl) ?_
          refine wl_pure (wants0 rfl) (d := 128) (v := (.bool (!(T1.getD (x198.i).toNat false)))) rfl (by kernel_rfl) ?_
          refine wl_pure (wants0 rfl) (d := 129) (v := (.bool (!(T1.getD (x198.i).toNat false)))) rfl (by kernel_rfl) ?_
          have b212 : (!(T1.getD (x198.i).toNat false)) = false := by (rw [hE1.t.at hx0 hx6, hxt]; rfl)
          refine wl_know 129 (.bool false) (congrArg Value.bool b212) ?_
          have g213 := bnot_false b212
          refine wl_pure (wantsY 16 129 false rfl (by kernel_rfl) rfl (by kernel_rfl)) (d := 130) (v := (.pointer (some ⟨r21, 0, none⟩))) rfl (by kernel_rfl) ?_
          refine wl_pure (wantsY 16 129 false rfl (by kernel_rfl) rfl (by kernel_rfl)) (d := 131) (v := (.pointer (some ⟨b201, 0, none⟩))) rfl (by kernel_rfl) ?_
          refine wl_pure (wantsY 16 129 false rfl (by kernel_rfl) rfl (by kernel_rfl)) (d := 132) (v := (.int .i64 (x198.i))) rfl (e_load1 rfl (by kernel_rfl) (H206.cell 10 rfl (by kernel_rfl))) ?_
          refine wl_do (wantsY 16 129 false rfl (by kernel_rfl) rfl (by kernel_rfl)) (fun K214 hK214 => ?_)
          refine d_call (d := 133) rfl (by kernel_rfl) (rvAckedG_any w205 r21 m22 1 3 2 L1 (H206.at 5 rfl) (H206.at 6 rfl) x198.i) ?_
          rintro _ w215 ⟨rfl, u217⟩
          have H216 := H206.keepU u217
          refine ⟨_, rfl, ?_⟩
          refine hK214 _ _ ?_
          clear hK214 K214
          refine wl_pure (wantsY 16 129 false rfl (by kernel_rfl) rfl (by kernel_rfl)) (d := 134) (v := (.bool (!(ackB L1 x198.i)))) rfl (by kernel_rfl) ?_
          refine wl_pure (wants0 rfl) (d := 135) (v := (.bool (!(ackB L1 x198.i)))) rfl (by kernel_rfl) ?_
          refine w_nil ?_
          refine then_normal ?_
          have b218 : (!(ackB L1 x198.i)) = false := by (rw [hxa]; rfl)
          refine wp_know 135 (.bool false) (congrArg Value.bool b218) ?_
          have g219 := bnot_false b218
          refine wp_iff rfl ?_
          refine w_skip ?_
          refine then_normal ?_
          refine w_lit ?_
          refine wl_pure (wants0 rfl) (d := 136) (v := (.pointer (some ⟨b201, 0, none⟩))) rfl (by kernel_rfl) ?_
          refine wl_pure (wants0 rfl) (d := 137) (v := (.int .i64 (x198.i))) rfl (e_load1 rfl (by kernel_rfl) (H216.cell 10 rfl (by kernel_rfl))) ?_
          refine wl_pure (wants0 rfl) (d := 10) (v := (.int .i64 (x198.i))) rfl (by kernel_rfl) ?_
          refine w_nil ?_
          refine blk_normal ?_
          refine then_normal ?_
          refine w_lit ?_
          refine wl_pure (wants0 rfl) (d := 138) (v := (.int .i64 ((m : Int) + 1))) rfl (e_int (z := (m : Int) + 1) (by kernel_rfl) (IntWalk.i64_in _ (by omega))) ?_
          refine wl_pure (wants0 rfl) (d := 109) (v := (.int .i64 ((m : Int) + 1))) rfl (by kernel_rfl) ?_
          refine w_nil ?_
          have H220 : Sat w [restC w (fun _ => False), cellC b3 103 ([(.map (some m4))] : List Value), mapC m4 signedV (Value.int .i64) (marks B1), cellC r5 96 ([(.slice none 0 0)] : List Value), cellC b12 52 ([(.pointer (some ⟨b3, 0, none⟩)), (.pointer (some ⟨r5, 0, none⟩))] : List Value), cellC r21 86 ([(.int .i64 (1)), (.int .i64 (3)), (.int .i64 (2)), (.map (some m22))] : List Value), mapC m22 (Value.int .i64) encX L1, denC L1, rowTr b29 80 7 T1, rowC 43 34 (.slice a178 O180.length c179) O180.length (O180.flatMap encOp)] w215 := H216.pick [0, 1, 2, 3, 4, 5, 6, 7, 8, 9] (by decide)
          refine round_back ?_ _ ⟨(m + 1), x198.i, (show ((.int .i64 ((m : Int) + 1)) : Value) = _ by first | rfl | go_num), (show ((.int .i64 (x198.i)) : Value) = _ by first | rfl | go_num), (by omega), (hP1.risStep o181 h199), H220, rfl⟩ (by omega)
          exact (same_upd rfl (same_upd rfl (same_upd rfl (same_upd rfl (same_upd rfl (same_upd rfl (same_upd rfl (same_upd rfl (same_upd rfl (same_upd rfl (same_upd rfl (same_upd rfl (same_upd rfl (same_upd rfl (same_upd rfl (same_upd rfl (same_upd rfl (same_upd rfl (same_upd rfl (same_upd rfl (same_upd rfl (same_upd rfl (same_upd rfl (same_upd rfl (same_upd rfl (same_upd rfl (same_upd rfl (same_upd rfl (same_upd rfl (same_upd rfl (same_upd rfl (same_upd rfl (same_upd rfl (same_upd rfl (same_upd rfl (same_upd rfl (same_upd rfl (same_upd rfl (same_upd rfl (same_ovr))))))))))))))))))))))))))))))))))))))))
        · have g221 := of_decide_eq_false b192
          refine wp_know 110 (.bool false) (congrArg Value.bool b192) ?_
          have g222 := of_decide_eq_false b192
          refine wp_iff rfl ?_
          refine w_exit ?_
          refine then_exit ?_
          refine back_exit ?_
          refine blk_hit ?_
          refine then_normal ?_
          refine w_seq ?_
          refine w_lit ?_
          refine wl_pure (wants0 rfl) (d := 139) (v := (.pointer (some ⟨r21, 0, none⟩))) rfl (by kernel_rfl) ?_
          refine wl_do (wants0 rfl) (fun K223 hK223 => ?_)
          refine d_call (d := 140) rfl (by kernel_rfl) (rvTombs_any w187 r21 m22 1 3 2 L1 (H188.at 5 rfl) (H188.at 6 rfl) (by omega) (hP1.i64 (by decide)) (H188.at 7 rfl) (hP1.dens ⟨by decide, by decide⟩) 3 rfl (by omega)) ?_
          rintro _ w224 ⟨a225, c226, O227, rfl, o228, o229, k230, u231, q232⟩
          have H233 : Sat w [restC w (fun _ => False), cellC b3 103 ([(.map (some m4))] : List Value), mapC m4 signedV (Value.int .i64) (marks B1), cellC r5 96 ([(.slice none 0 0)] : List Value), cellC b12 52 ([(.pointer (some ⟨b3, 0, none⟩)), (.pointer (some ⟨r5, 0, none⟩))] : List Value), cellC r21 86 ([(.int .i64 (1)), (.int .i64 (3)), (.int .i64 (2)), (.map (some m22))] : List Value), mapC m22 (Value.int .i64) encX L1, denC L1, rowTr b29 80 7 T1, rowC 43 34 (.slice a178 O180.length c179) O180.length (O180.flatMap encOp), rowC 78 2 (.slice a225 O227.length c226) O227.length (O227.flatMap encTb)] w224 := H188.addU u231 k230 q232
          refine ⟨_, rfl, ?_⟩
          have hz0 := hP1.noTombs o228
          refine hK223 _ _ ?_
          clear hK223 K223
          refine wl_pure (wants0 rfl) (d := 141) (v := (.int .i64 ((O227.length : Int)))) rfl (by kernel_rfl) ?_
          refine wl_pure (wants0 rfl) (d := 142) (v := (.bool (!(decide ((O227.length : Int) = 0))))) rfl (by kernel_rfl) ?_
          refine w_nil ?_
          refine then_normal ?_
          have b234 : (!(decide ((O227.length : Int) = 0))) = false := by (rw [decide_eq_true (by omega)]; rfl)
          refine wp_know 142 (.bool false) (congrArg Value.bool b234) ?_
          have g235 := bnot_false b234
          have g236 := of_decide_eq_true g235
          refine wp_iff rfl ?_
          refine w_skip ?_
          refine blk_normal ?_
          refine then_normal ?_
          refine w_lit ?_
          refine wl_pure (wants0 rfl) (d := 40) (v := (.int .i64 ((i : Int)))) rfl (by kernel_rfl) ?_
          refine wl_pure (wants0 rfl) (d := 41) (v := (.int .i64 ((i : Int) + 1))) rfl (e_int (z := (i : Int) + 1) (by kernel_rfl) (IntWalk.i64_in _ (by omega))) ?_
          refine wl_pure (wants0 rfl) (d := 8) (v := (.int .i64 ((i : Int) + 1))) rfl (by kernel_rfl) ?_
          refine w_nil ?_
          have H237 : Sat w [restC w (fun _ => False), cellC b3 103 ([(.map (some m4))] : List Value), mapC m4 signedV (Value.int .i64) (marks B1), cellC r5 96 ([(.slice none 0 0)] : List Value), cellC b12 52 ([(.pointer (some ⟨b3, 0, none⟩)), (.pointer (some ⟨r5, 0, none⟩))] : List Value), cellC r21 86 ([(.int .i64 (1)), (.int .i64 (3)), (.int .i64 (2)), (.map (some m22))] : List Value), mapC m22 (Value.int .i64) encX L1, denC L1, rowTr b29 80 7 T1] w224 := H233.pick [0, 1, 2, 3, 4, 5, 6, 7, 8] (by decide)
          refine round_back ?_ _ ⟨(i + 1), L1, B1, T1, (show ((.int .i64 ((i : Int) + 1)) : Value) = _ by first | rfl | go_num), (by omega), hP1, hE1, (by omega), (by omega), H237, rfl⟩ (by omega)
          exact (same_upd rfl (same_upd rfl (same_upd rfl (same_upd rfl (same_upd rfl (same_upd rfl (same_upd rfl (same_upd rfl (same_upd rfl (same_upd rfl (same_upd rfl (same_upd rfl (same_ovr2 rfl (same_upd rfl (same_upd rfl (same_upd rfl (same_upd rfl (same_upd rfl (same_ovr2 rfl (same_upd rfl (same_upd rfl (same_upd rfl (same_upd rfl (same_upd rfl (same_upd rfl (same_upd rfl (same_upd rfl (same_upd rfl (same_upd rfl (same_upd rfl (same_upd rfl (same_upd rfl (same_upd rfl (same_upd rfl (same_upd rfl (same_upd rfl (same_upd rfl (same_upd rfl (same_ovr)))))))))))))))))))))))))))))))))))))))
    · have g238 := of_decide_eq_false b41
      refine wp_know 39 (.bool false) (congrArg Value.bool b41) ?_
      have g239 := of_decide_eq_false b41
      refine wp_iff rfl ?_
      refine w_exit ?_
      refine then_exit ?_
      refine back_exit ?_
      refine blk_hit ?_
      refine then_normal ?_
      refine w_seq ?_
      refine w_lit ?_
      refine wl_do (wants0 rfl) (fun K240 hK240 => ?_)
      refine d_call (d := 143) rfl (by kernel_rfl) (wakes_any w34) ?_
      rintro _ w241 ⟨rfl, u243⟩
      have H242 := H35.keepU u243
      refine ⟨_, rfl, ?_⟩
      refine hK240 _ _ ?_
      clear hK240 K240
      refine wl_pure (wants0 rfl) (d := 2) (v := (.bool true)) rfl (by kernel_rfl) ?_
      refine w_nil ?_
      refine then_normal ?_
      refine w_ret ?_
      refine end1 rfl (res_tmp (v := (.bool true)) rfl) ?_
      exact ⟨rfl, H242.upd 0 rfl [] (fun _ h => h.elim)⟩
  · have g244 := of_decide_eq_false b38
    refine wl_know 36 (.bool false) (congrArg Value.bool b38) ?_
    have g245 := of_decide_eq_false b38
    refine wl_pass (wantsN 4 36 true rfl (by kernel_rfl) rfl (by kernel_rfl)) rfl ?_
    refine wl_pass (wantsN 4 36 true rfl (by kernel_rfl) rfl (by kernel_rfl)) rfl ?_
    refine wl_pure (wants0 rfl) (d := 39) (v := (.bool false)) rfl (by kernel_rfl) ?_
    refine w_nil ?_
    refine then_normal ?_
    refine wp_iff rfl ?_
    refine w_exit ?_
    refine then_exit ?_
    refine back_exit ?_
    refine blk_hit ?_
    refine then_normal ?_
    refine w_seq ?_
    refine w_lit ?_
    refine wl_do (wants0 rfl) (fun K246 hK246 => ?_)
    refine d_call (d := 143) rfl (by kernel_rfl) (wakes_any w34) ?_
    rintro _ w247 ⟨rfl, u249⟩
    have H248 := H35.keepU u249
    refine ⟨_, rfl, ?_⟩
    refine hK246 _ _ ?_
    clear hK246 K246
    refine wl_pure (wants0 rfl) (d := 2) (v := (.bool true)) rfl (by kernel_rfl) ?_
    refine w_nil ?_
    refine then_normal ?_
    refine w_ret ?_
    refine end1 rfl (res_tmp (v := (.bool true)) rfl) ?_
    exact ⟨rfl, H248.upd 0 rfl [] (fun _ h => h.elim)⟩

end Go.Proofs.Ytoiplcicbjimlaa
