/- WHAT IS PROVED: RegistryFirst: its walk. Conditions: stated with each. -/
import Derived.Test.YtjlbabikogdknaaFirst18M
import Derived.Test.YtjlbabikogdknaaIns
import Derived.Test.YtjlbabikogdknaaBits
namespace Go.Proofs.Ytjlbabikogdknaa
open Go.RowKit

set_option maxRecDepth 100000 in
set_option maxHeartbeats 400000 in
theorem first18_all (w : World) (va : Option Addr) (vc : Nat) (who : List Int) (hwho : IntsAt w (.slice va who.length vc) who) (hwl : who.length ≤ 9223372036854775807) (n : Int) :
    Calls Try.prog 4 #[(.slice va who.length vc), (.int .i64 (n))] w fun e w' => e = .returned (.bool true) ∧ Upd [] w w' := by
  have H := Sat.start0 w
  have hw := within_lim n 70 (by omega)
  obtain ⟨N, hN⟩ : ∃ N : Nat, (N : Int) = 1 + withinV n 70 := ⟨(1 + withinV n 70).toNat, by omega⟩
  refine calls_fr Try.func4 rfl 146 rfl (Nat.le_of_ble_eq_true rfl) ?_
  refine w_seq ?_
  refine w_lit ?_
  refine wl_pure (wants0 rfl) (d := 4) (v := (.bool false)) rfl (by kernel_rfl) ?_
  refine w_nil ?_
  refine then_normal ?_
  refine w_seq ?_
  refine w_lit ?_
  refine wl_do (wants0 rfl) (fun K1 hK1 => ?_)
  refine d_call (d := 17) rfl (by kernel_rfl) (new_any w) ?_
  rintro _ w4 ⟨r2, b3, rfl, k5, u6, p7, q8⟩
  have H9 : Sat w [restC w (fun _ => False), regC r2 b3 []] w4 := H.addU u6 k5 (fun x hx => by simp [regC, regL, sepC, cellC, mapC] at hx; omega)
  have H10 : Sat w [restC w (fun _ => False), cellC r2 52 ([(.map (some b3))] : List Value), mapC b3 strV (Value.int .i64) []] w4 := H9.open 1 rfl
  refine ⟨_, rfl, ?_⟩
  refine hK1 _ _ ?_
  clear hK1 K1
  refine wl_pure (wants0 rfl) (d := 5) (v := (.pointer (some ⟨r2, 0, none⟩))) rfl (by kernel_rfl) ?_
  refine w_nil ?_
  refine then_normal ?_
  refine w_seq ?_
  refine w_seq ?_
  refine w_lit ?_
  refine wl_pure (wants0 rfl) (d := 18) (v := (.pointer (some ⟨r2, 0, none⟩))) rfl (by kernel_rfl) ?_
  refine wl_pure (wants0 rfl) (d := 19) (v := (.bool false)) rfl (by kernel_rfl) ?_
  refine w_nil ?_
  refine then_normal ?_
  refine wp_iff rfl ?_
  refine w_skip ?_
  refine then_normal ?_
  refine w_seq ?_
  refine w_lit ?_
  refine wl_pure (wants0 rfl) (d := 20) (v := (.int .i64 (n))) rfl (by kernel_rfl) ?_
  refine wl_do (wants0 rfl) (fun K11 hK11 => ?_)
  refine d_call (d := 21) rfl (by kernel_rfl) (within_any w4 n 70 (by omega)) ?_
  rintro _ w12 ⟨rfl, u14⟩
  have H13 := H10.keepU u14
  refine ⟨_, rfl, ?_⟩
  refine hK11 _ _ ?_
  clear hK11 K11
  refine wl_pure (wants0 rfl) (d := 22) (v := (.int .i64 (1 + (withinV n 70)))) rfl (e_int (z := 1 + (withinV n 70)) (by kernel_rfl) (IntWalk.i64_in _ (by omega))) ?_
  refine wl_pure (wants0 rfl) (d := 1) (v := (.int .i64 (1 + (withinV n 70)))) rfl (by kernel_rfl) ?_
  refine w_nil ?_
  refine then_normal ?_
  refine w_seq ?_
  refine wp_know 1 (.int .i64 ((N : Int))) (show ((.int .i64 (1 + (withinV n 70))) : Value) = _ by rw [hN]) ?_
  refine w_lit ?_
  refine wl_pure (wants0 rfl) (d := 6) (v := (.int .i64 (0))) rfl (by kernel_rfl) ?_
  refine w_nil ?_
  refine then_normal ?_
  refine w_seq ?_
  refine w_seq ?_
  refine w_lit ?_
  refine wl_pure (wants0 rfl) (d := 7) (v := (.int .i64 (0))) rfl (by kernel_rfl) ?_
  refine w_nil ?_
  refine then_normal ?_
  refine w_block ?_
  refine wp_round [4, 6, 7, 8, 9, 10, 11, 12, 23, 24, 25, 26, 27, 28, 29, 30, 31, 32, 33, 34, 35, 36, 37, 38, 39, 40, 41, 42, 43, 44, 45, 46, 47, 48, 49, 50, 51, 52, 53, 54, 55, 56, 57, 58, 59, 60, 61, 62, 63, 64, 65, 66, 67, 68, 69, 70, 71, 72, 73, 74, 75, 76, 77, 78, 79, 80, 81, 82, 83, 84, 85, 86, 87, 88, 89, 90, 91, 92, 93, 94, 95, 96, 97, 98] (fun F_ W_ m_ => ∃ (i : Nat), F_ 7 = (.int .i64 ((i : Int))) ∧ F_ 6 = (.int .i64 (((min i 64 : Nat) : Int))) ∧ (i ≤ N) ∧ Sat w [restC w (fun _ => False), cellC r2 52 ([(.map (some b3))] : List Value), mapC b3 strV (Value.int .i64) (fL who i)] W_ ∧ m_ = N + 1 - i) _ ⟨0, (show ((.int .i64 (0)) : Value) = _ by first | rfl | go_num), rfl, by omega, H13, rfl⟩ ?_
  rintro g15 w16 _ ⟨i, v18, v19, hi, H17, rfl⟩
  refine wp_know 7 _ v18 ?_
  refine wp_know 6 _ v19 ?_
  refine w_seq ?_
  refine w_seq ?_
  refine w_lit ?_
  refine wl_pure (wants0 rfl) (d := 23) (v := (.int .i64 ((i : Int)))) rfl (by kernel_rfl) ?_
  refine wl_pure (wants0 rfl) (d := 24) (v := (.int .i64 ((N : Int)))) rfl (by kernel_rfl) ?_
  refine wl_pure (wants0 rfl) (d := 25) (v := (.bool (decide ((i : Int) < (N : Int))))) rfl (by kernel_rfl) ?_
  refine w_nil ?_
  refine then_normal ?_
  refine (bsplit (decide ((i : Int) < (N : Int)))).elim (fun b21 => ?_) (fun b21 => ?_)
  · have g22 := of_decide_eq_true b21
    refine wp_know 25 (.bool true) (congrArg Value.bool b21) ?_
    have g23 := of_decide_eq_true b21
    refine wp_ift rfl ?_
    refine w_skip ?_
    refine then_normal ?_
    refine w_seq ?_
    refine w_block ?_
    refine w_seq ?_
    refine w_lit ?_
    refine wl_pure (wants0 rfl) (d := 8) (v := (.int .i64 (0))) rfl (by kernel_rfl) ?_
    refine w_nil ?_
    refine then_normal ?_
    refine w_seq ?_
    refine w_seq ?_
    refine w_lit ?_
    refine wl_pure (wants0 rfl) (d := 28) (v := (.int .i64 ((i : Int)))) rfl (by kernel_rfl) ?_
    refine wl_pure (wants0 rfl) (d := 29) (v := (.slice va who.length vc)) rfl (by kernel_rfl) ?_
    refine wl_pure (wants0 rfl) (d := 30) (v := (.int .i64 ((who.length : Int)))) rfl (by kernel_rfl) ?_
    refine wl_pure (wants0 rfl) (d := 31) (v := (.bool (decide ((i : Int) < (who.length : Int))))) rfl (by kernel_rfl) ?_
    refine w_nil ?_
    refine then_normal ?_
    refine (bsplit (decide ((i : Int) < (who.length : Int)))).elim (fun b24 => ?_) (fun b24 => ?_)
    · have g25 := of_decide_eq_true b24
      refine wp_know 31 (.bool true) (congrArg Value.bool b24) ?_
      have g26 := of_decide_eq_true b24
      refine wp_ift rfl ?_
      refine w_lit ?_
      refine wl_pure (wants0 rfl) (d := 32) (v := (.slice va who.length vc)) rfl (by kernel_rfl) ?_
      refine wl_pure (wants0 rfl) (d := 33) (v := (.int .i64 ((i : Int)))) rfl (by kernel_rfl) ?_
      obtain ⟨g27, o28, c29, e30, R31⟩ := IntsAt.atD hwho (show i < who.length by omega)
      refine wl_pure (wants0 rfl) (d := 34) (v := (.pointer (some ⟨g27, o28 + ((i : Int)).toNat * 1, none⟩))) rfl (e_indexAddrW (E := 3) (by kernel_rfl) (by kernel_rfl) (Nat.le_of_ble_eq_true rfl) rfl e30 rfl (by omega) (by omega)) ?_
      refine wl_pure (wants0 rfl) (d := 35) (v := (.int .i64 ((who.getD i 0)))) rfl (e_load1 rfl (by kernel_rfl) (H17.cellR 0 rfl (cells_at R31 0 (by kernel_rfl) (show o28 + ((i : Int)).toNat * 1 = o28 + i * 1 + 0 by omega)) (fun h => h))) ?_
      refine wl_do (wants0 rfl) (fun K32 hK32 => ?_)
      refine d_call (d := 36) rfl (by kernel_rfl) (within_any w16 (who.getD i 0) 100 (by omega)) ?_
      rintro _ w33 ⟨rfl, u35⟩
      have H34 := H17.keepU u35
      refine ⟨_, rfl, ?_⟩
      refine hK32 _ _ ?_
      clear hK32 K32
      refine wl_pure (wants0 rfl) (d := 8) (v := (.int .i64 (withinV (who.getD i 0) 100))) rfl (by kernel_rfl) ?_
      refine w_nil ?_
      refine then_normal ?_
      refine w_seq ?_
      refine wp_know 8 (.int .i64 (clI who i)) (show ((.int .i64 (withinV (who.getD i 0) 100)) : Value) = _ by unfold clI; rw [if_pos (by omega)]) ?_
      have hcl := clI_lim who i
      refine w_lit ?_
      refine wl_pure (wants0 rfl) (d := 37) (v := (.int .i64 ((i : Int)))) rfl (by kernel_rfl) ?_
      refine wl_pure (wants0 rfl) (d := 38) (v := (.int .i64 ((i : Int) / 26))) rfl (e_quo (by kernel_rfl) (by omega) (by omega) (IntWalk.i64_in _ (by omega))) ?_
      refine wl_pure (wants0 rfl) (d := 39) (v := (.int .i64 (97 + ((i : Int) / 26)))) rfl (e_int (z := 97 + ((i : Int) / 26)) (by kernel_rfl) (IntWalk.i64_in _ (by omega))) ?_
      refine wl_pure (wants0 rfl) (d := 40) (v := (.int .u8 (97 + ((i : Int) / 26)))) rfl (e_int (z := 97 + ((i : Int) / 26)) (by kernel_rfl) (wrap_u8 (by omega))) ?_
      refine wl_pure (wants0 rfl) (d := 41) (v := (.int .i64 ((i : Int)))) rfl (by kernel_rfl) ?_
      refine wl_pure (wants0 rfl) (d := 42) (v := (.int .i64 ((i : Int) % 26))) rfl (e_rem (by kernel_rfl) (by omega) (by omega)) ?_
      refine wl_pure (wants0 rfl) (d := 43) (v := (.int .i64 (97 + ((i : Int) % 26)))) rfl (e_int (z := 97 + ((i : Int) % 26)) (by kernel_rfl) (IntWalk.i64_in _ (by omega))) ?_
      refine wl_pure (wants0 rfl) (d := 44) (v := (.int .u8 (97 + ((i : Int) % 26)))) rfl (e_int (z := 97 + ((i : Int) % 26)) (by kernel_rfl) (wrap_u8 (by omega))) ?_
      refine wl_do (wants0 rfl) (fun K36 hK36 => ?_)
      refine d_buildSlice (e := 5) (size := 1) (bytes := 1) (z := (.int .u8 (0))) (pvs := [(0, (.int .u8 (97 + ((i : Int) / 26)))), (1, (.int .u8 (97 + ((i : Int) % 26))))]) (vs := ([(.int .u8 (97 + ((i : Int) / 26))), (.int .u8 (97 + ((i : Int) % 26)))] : List Value)) rfl H34 (by kernel_rfl) (by kernel_rfl) (by kernel_rfl) (by kernel_rfl) (by kernel_rfl) rfl rfl ?_
      intro b37 w38 (H39 : Sat w [restC w (fun _ => False), cellC r2 52 ([(.map (some b3))] : List Value), mapC b3 strV (Value.int .i64) (fL who i), rowC 5 1 (.slice (some ⟨b37, 0, none⟩) 2 2) 2 ([(.int .u8 (97 + ((i : Int) / 26))), (.int .u8 (97 + ((i : Int) % 26)))] : List Value)] w38)
      refine hK36 _ _ ?_
      clear hK36 K36
      refine wl_pure (wants0 rfl) (d := 46) (v := (strV (keyI i))) rfl (e_convBytes (e := 5) (s := (keyI i)) (by kernel_rfl) (by kernel_rfl) (by kernel_rfl) rfl (ownsRow_bytes (by have q := H39.at 3 rfl; rw [keyI_bytes (show i < 70 by omega)] at q; exact q))) ?_
      refine wl_pure (wants0 rfl) (d := 9) (v := (strV (keyI i))) rfl (by kernel_rfl) ?_
      refine w_nil ?_
      refine then_normal ?_
      refine w_seq ?_
      refine w_lit ?_
      refine wl_pure (wants0 rfl) (d := 47) (v := (.pointer (some ⟨r2, 0, none⟩))) rfl (by kernel_rfl) ?_
      refine wl_pure (wants0 rfl) (d := 48) (v := (strV (keyI i))) rfl (by kernel_rfl) ?_
      refine wl_pure (wants0 rfl) (d := 49) (v := (.int .i64 (clI who i))) rfl (by kernel_rfl) ?_
      refine wl_do (wants0 rfl) (fun K40 hK40 => ?_)
      refine d_call (d := 50) rfl (by kernel_rfl) (reserve_any w38 r2 b3 (fL who i) (H39.fin [1, 2] (by decide) rfl) (fL_short who i) (keyI i) (by simp [keyI]) (clI who i)) ?_
      rintro _ w41 ⟨e43, T42⟩
      rw [fE (show i < 70 by omega)] at e43
      rw [fN (show i < 70 by omega)] at T42
      subst e43
      have H44 : Sat w [restC w (fun _ => False), cellC r2 52 ([(.map (some b3))] : List Value), mapC b3 strV (Value.int .i64) (fL who (i + 1)), rowC 5 1 (.slice (some ⟨b37, 0, none⟩) 2 2) 2 ([(.int .u8 (97 + ((i : Int) / 26))), (.int .u8 (97 + ((i : Int) % 26)))] : List Value)] w41 := (Sat.turnL (L' := [cellC r2 52 ([(.map (some b3))] : List Value), mapC b3 strV (Value.int .i64) (fL who (i + 1))]) (R := [restC w (fun _ => False), rowC 5 1 (.slice (some ⟨b37, 0, none⟩) 2 2) 2 ([(.int .u8 (97 + ((i : Int) / 26))), (.int .u8 (97 + ((i : Int) % 26)))] : List Value)]) H39 [1, 2] [0, 3] (by decide) (by kernel_rfl) rfl T42).pick [2, 0, 1, 3] (by decide)
      refine ⟨_, rfl, ?_⟩
      refine hK40 _ _ ?_
      clear hK40 K40
      refine wl_pure (wants0 rfl) (d := 10) (v := (.int .i64 (if i < 64 then 0 else 7))) rfl (by kernel_rfl) ?_
      refine w_nil ?_
      refine then_normal ?_
      refine w_seq ?_
      refine w_seq ?_
      refine (bsplit (decide (i < 64))).elim (fun b45 => ?_) (fun b45 => ?_)
      · have g46 := of_decide_eq_true b45
        have g47 := of_decide_eq_true b45
        refine wp_know 10 (.int .i64 (0)) (show ((.int .i64 (if i < 64 then 0 else 7)) : Value) = _ by rw [if_pos (by omega)]) ?_
        refine w_lit ?_
        refine wl_pure (wants0 rfl) (d := 51) (v := (.int .i64 (0))) rfl (by kernel_rfl) ?_
        refine wl_pure (wants0 rfl) (d := 52) (v := (.bool true)) rfl (by kernel_rfl) ?_
        refine wl_pure (wants0 rfl) (d := 53) (v := (.int .i64 ((i : Int)))) rfl (by kernel_rfl) ?_
        refine wl_pure (wants0 rfl) (d := 54) (v := (.bool (decide ((i : Int) < 64)))) rfl (by kernel_rfl) ?_
        refine wl_pure (wants0 rfl) (d := 55) (v := (.bool (!(true == (decide ((i : Int) < 64)))))) rfl (by kernel_rfl) ?_
        refine wl_pure (wants0 rfl) (d := 56) (v := (.bool (!(true == (decide ((i : Int) < 64)))))) rfl (by kernel_rfl) ?_
        have b48 : (!(true == (decide ((i : Int) < 64)))) = false := by rw [decide_eq_true (by omega)]; rfl
        refine wl_know 56 (.bool false) (congrArg Value.bool b48) ?_
        have g49 := bnot_false b48
        refine wl_pure (wantsY 5 56 false rfl (by kernel_rfl) rfl (by kernel_rfl)) (d := 57) (v := (.int .i64 (0))) rfl (by kernel_rfl) ?_
        refine wl_pure (wantsY 5 56 false rfl (by kernel_rfl) rfl (by kernel_rfl)) (d := 58) (v := (.bool false)) rfl (by kernel_rfl) ?_
        refine wl_pure (wantsY 5 56 false rfl (by kernel_rfl) rfl (by kernel_rfl)) (d := 59) (v := (.bool false)) rfl (by kernel_rfl) ?_
        refine wl_pass (wantsN 8 59 true rfl (by kernel_rfl) rfl (by kernel_rfl)) rfl ?_
        refine wl_pass (wantsN 8 59 true rfl (by kernel_rfl) rfl (by kernel_rfl)) rfl ?_
        refine wl_pure (wantsY 5 56 false rfl (by kernel_rfl) rfl (by kernel_rfl)) (d := 62) (v := (.bool false)) rfl (by kernel_rfl) ?_
        refine wl_pure (wants0 rfl) (d := 63) (v := (.bool false)) rfl (by kernel_rfl) ?_
        refine w_nil ?_
        refine then_normal ?_
        refine wp_iff rfl ?_
        refine w_skip ?_
        refine then_normal ?_
        refine w_seq ?_
        refine w_seq ?_
        refine w_lit ?_
        refine wl_pure (wants0 rfl) (d := 64) (v := (.int .i64 (0))) rfl (by kernel_rfl) ?_
        refine wl_pure (wants0 rfl) (d := 65) (v := (.bool false)) rfl (by kernel_rfl) ?_
        refine w_nil ?_
        refine then_normal ?_
        refine wp_iff rfl ?_
        refine w_skip ?_
        refine then_normal ?_
        refine w_seq ?_
        refine w_lit ?_
        refine wl_pure (wants0 rfl) (d := 66) (v := (.int .i64 (((min i 64 : Nat) : Int)))) rfl (by kernel_rfl) ?_
        refine wl_pure (wants0 rfl) (d := 67) (v := (.int .i64 (((min i 64 : Nat) : Int) + 1))) rfl (e_int (z := ((min i 64 : Nat) : Int) + 1) (by kernel_rfl) (IntWalk.i64_in _ (by omega))) ?_
        refine wl_pure (wants0 rfl) (d := 6) (v := (.int .i64 (((min i 64 : Nat) : Int) + 1))) rfl (by kernel_rfl) ?_
        refine w_nil ?_
        refine then_normal ?_
        refine w_seq ?_
        refine w_lit ?_
        refine wl_pure (wants0 rfl) (d := 69) (v := (.pointer (some ⟨r2, 0, none⟩))) rfl (by kernel_rfl) ?_
        refine wl_pure (wants0 rfl) (d := 70) (v := (strV (keyI i))) rfl (by kernel_rfl) ?_
        refine wl_do (wants0 rfl) (fun K50 hK50 => ?_)
        refine d_call (d := 71) rfl (by kernel_rfl) (owner_any w41 r2 b3 (fL who (i + 1)) (H44.fin [1, 2] (by decide) rfl) (keyI i)) ?_
        rintro _ w51 ⟨rfl, u53⟩
        have H52 := H44.keepU u53
        refine ⟨_, rfl, ?_⟩
        refine hK50 _ _ ?_
        clear hK50 K50
        refine wl_pure (wants0 rfl) (d := 68) (v := (.tuple #[(.int .i64 ((lookM (fL who (i + 1)) (keyI i)).getD 0)), (.bool ((lookM (fL who (i + 1)) (keyI i)).isSome))])) rfl (by kernel_rfl) ?_
        refine wl_pure (wants0 rfl) (d := 72) (v := (.int .i64 ((lookM (fL who (i + 1)) (keyI i)).getD 0))) rfl (by kernel_rfl) ?_
        refine wl_pure (wants0 rfl) (d := 73) (v := (.bool ((lookM (fL who (i + 1)) (keyI i)).isSome))) rfl (by kernel_rfl) ?_
        refine wl_pure (wants0 rfl) (d := 11) (v := (.int .i64 ((lookM (fL who (i + 1)) (keyI i)).getD 0))) rfl (by kernel_rfl) ?_
        refine wl_pure (wants0 rfl) (d := 12) (v := (.bool ((lookM (fL who (i + 1)) (keyI i)).isSome))) rfl (by kernel_rfl) ?_
        refine w_nil ?_
        refine then_normal ?_
        refine w_seq ?_
        refine wp_know 11 (.int .i64 (clI who i)) (show ((.int .i64 ((lookM (fL who (i + 1)) (keyI i)).getD 0)) : Value) = _ by rw [fLook (show i < 64 by omega)]; rfl) ?_
        refine wp_know 12 (.bool true) (show ((.bool ((lookM (fL who (i + 1)) (keyI i)).isSome)) : Value) = _ by rw [fLook (show i < 64 by omega)]; rfl) ?_
        refine w_lit ?_
        refine wl_pure (wants0 rfl) (d := 74) (v := (.bool true)) rfl (by kernel_rfl) ?_
        refine wl_pure (wants0 rfl) (d := 75) (v := (.bool false)) rfl (by kernel_rfl) ?_
        refine wl_pure (wants0 rfl) (d := 76) (v := (.bool false)) rfl (by kernel_rfl) ?_
        refine wl_pure (wantsY 2 76 false rfl (by kernel_rfl) rfl (by kernel_rfl)) (d := 77) (v := (.int .i64 (clI who i))) rfl (by kernel_rfl) ?_
        refine wl_pure (wantsY 2 76 false rfl (by kernel_rfl) rfl (by kernel_rfl)) (d := 78) (v := (.int .i64 (clI who i))) rfl (by kernel_rfl) ?_
        refine wl_pure (wantsY 2 76 false rfl (by kernel_rfl) rfl (by kernel_rfl)) (d := 79) (v := (.bool (!(decide ((clI who i) = (clI who i)))))) rfl (by kernel_rfl) ?_
        refine wl_pure (wants0 rfl) (d := 80) (v := (.bool (!(decide ((clI who i) = (clI who i)))))) rfl (by kernel_rfl) ?_
        refine wl_pure (wants0 rfl) (d := 81) (v := (.bool (!(decide ((clI who i) = (clI who i)))))) rfl (by kernel_rfl) ?_
        have b54 : (!(decide ((clI who i) = (clI who i)))) = false := by rw [decide_eq_true rfl]; rfl
        refine wl_know 81 (.bool false) (congrArg Value.bool b54) ?_
        have g55 := bnot_false b54
        have g56 := of_decide_eq_true g55
        refine wl_pure (wantsY 7 81 false rfl (by kernel_rfl) rfl (by kernel_rfl)) (d := 82) (v := (.pointer (some ⟨r2, 0, none⟩))) rfl (by kernel_rfl) ?_
        refine wl_pure (wantsY 7 81 false rfl (by kernel_rfl) rfl (by kernel_rfl)) (d := 83) (v := (strV (keyI i))) rfl (by kernel_rfl) ?_
        refine wl_pure (wantsY 7 81 false rfl (by kernel_rfl) rfl (by kernel_rfl)) (d := 84) (v := (.int .i64 (clI who i))) rfl (by kernel_rfl) ?_
        refine wl_pure (wantsY 7 81 false rfl (by kernel_rfl) rfl (by kernel_rfl)) (d := 85) (v := (.int .i64 ((clI who i) + 1))) rfl (e_int (z := (clI who i) + 1) (by kernel_rfl) (IntWalk.i64_in _ (by omega))) ?_
        refine wl_pure (wantsY 7 81 false rfl (by kernel_rfl) rfl (by kernel_rfl)) (d := 86) (v := (.int .i64 (((clI who i) + 1) % 100))) rfl (e_rem (by kernel_rfl) (by omega) (by omega)) ?_
        refine wl_do (wantsY 7 81 false rfl (by kernel_rfl) rfl (by kernel_rfl)) (fun K57 hK57 => ?_)
        refine d_call (d := 87) rfl (by kernel_rfl) (reserve_any w51 r2 b3 (fL who (i + 1)) (H52.fin [1, 2] (by decide) rfl) (fL_short who (i + 1)) (keyI i) (by simp [keyI]) (((clI who i) + 1) % 100)) ?_
        rintro _ w58 ⟨e60, T59⟩
        rw [fE2 (show i < 64 by omega) (show 0 ≤ (((clI who i) + 1) % 100) ∧ (((clI who i) + 1) % 100) < 100 by omega)] at e60
        rw [fN2 (show i < 64 by omega) (show 0 ≤ (((clI who i) + 1) % 100) ∧ (((clI who i) + 1) % 100) < 100 by omega)] at T59
        subst e60
        have H61 : Sat w [restC w (fun _ => False), cellC r2 52 ([(.map (some b3))] : List Value), mapC b3 strV (Value.int .i64) (fL who (i + 1)), rowC 5 1 (.slice (some ⟨b37, 0, none⟩) 2 2) 2 ([(.int .u8 (97 + ((i : Int) / 26))), (.int .u8 (97 + ((i : Int) % 26)))] : List Value)] w58 := (Sat.turnL (L' := [cellC r2 52 ([(.map (some b3))] : List Value), mapC b3 strV (Value.int .i64) (fL who (i + 1))]) (R := [restC w (fun _ => False), rowC 5 1 (.slice (some ⟨b37, 0, none⟩) 2 2) 2 ([(.int .u8 (97 + ((i : Int) / 26))), (.int .u8 (97 + ((i : Int) % 26)))] : List Value)]) H52 [1, 2] [0, 3] (by decide) (by kernel_rfl) rfl T59).pick [2, 0, 1, 3] (by decide)
        refine ⟨_, rfl, ?_⟩
        refine hK57 _ _ ?_
        clear hK57 K57
        refine wl_pure (wantsY 7 81 false rfl (by kernel_rfl) rfl (by kernel_rfl)) (d := 88) (v := (.bool false)) rfl (by kernel_rfl) ?_
        refine wl_pure (wants0 rfl) (d := 89) (v := (.bool false)) rfl (by kernel_rfl) ?_
        refine wl_pure (wants0 rfl) (d := 90) (v := (.bool false)) rfl (by kernel_rfl) ?_
        refine wl_pure (wantsY 16 90 false rfl (by kernel_rfl) rfl (by kernel_rfl)) (d := 91) (v := (.pointer (some ⟨r2, 0, none⟩))) rfl (by kernel_rfl) ?_
        refine wl_pure (wantsY 16 90 false rfl (by kernel_rfl) rfl (by kernel_rfl)) (d := 92) (v := (strV (keyI i))) rfl (by kernel_rfl) ?_
        refine wl_pure (wantsY 16 90 false rfl (by kernel_rfl) rfl (by kernel_rfl)) (d := 93) (v := (.int .i64 (clI who i))) rfl (by kernel_rfl) ?_
        refine wl_pure (wantsY 16 90 false rfl (by kernel_rfl) rfl (by kernel_rfl)) (d := 94) (v := (.int .i64 ((clI who i) + 1))) rfl (e_int (z := (clI who i) + 1) (by kernel_rfl) (IntWalk.i64_in _ (by omega))) ?_
        refine wl_pure (wantsY 16 90 false rfl (by kernel_rfl) rfl (by kernel_rfl)) (d := 95) (v := (.int .i64 (((clI who i) + 1) % 100))) rfl (e_rem (by kernel_rfl) (by omega) (by omega)) ?_
        refine wl_do (wantsY 16 90 false rfl (by kernel_rfl) rfl (by kernel_rfl)) (fun K62 hK62 => ?_)
        refine d_call (d := 96) rfl (by kernel_rfl) (release_any w58 r2 b3 (fL who (i + 1)) (H61.fin [1, 2] (by decide) rfl) (fL_short who (i + 1)) (keyI i) (by simp [keyI]) (((clI who i) + 1) % 100)) ?_
        rintro _ w63 ⟨e65, T64⟩
        rw [fR (show i < 64 by omega) (show 0 ≤ (((clI who i) + 1) % 100) ∧ (((clI who i) + 1) % 100) < 100 by omega) (by omega)] at e65
        rw [fRN (show i < 64 by omega) (show 0 ≤ (((clI who i) + 1) % 100) ∧ (((clI who i) + 1) % 100) < 100 by omega) (by omega)] at T64
        subst e65
        have H66 : Sat w [restC w (fun _ => False), cellC r2 52 ([(.map (some b3))] : List Value), mapC b3 strV (Value.int .i64) (fL who (i + 1)), rowC 5 1 (.slice (some ⟨b37, 0, none⟩) 2 2) 2 ([(.int .u8 (97 + ((i : Int) / 26))), (.int .u8 (97 + ((i : Int) % 26)))] : List Value)] w63 := (Sat.turnL (L' := [cellC r2 52 ([(.map (some b3))] : List Value), mapC b3 strV (Value.int .i64) (fL who (i + 1))]) (R := [restC w (fun _ => False), rowC 5 1 (.slice (some ⟨b37, 0, none⟩) 2 2) 2 ([(.int .u8 (97 + ((i : Int) / 26))), (.int .u8 (97 + ((i : Int) % 26)))] : List Value)]) H61 [1, 2] [0, 3] (by decide) (by kernel_rfl) rfl T64).pick [2, 0, 1, 3] (by decide)
        refine ⟨_, rfl, ?_⟩
        refine hK62 _ _ ?_
        clear hK62 K62
        refine wl_pure (wantsY 16 90 false rfl (by kernel_rfl) rfl (by kernel_rfl)) (d := 97) (v := (.bool false)) rfl (by kernel_rfl) ?_
        refine wl_pure (wants0 rfl) (d := 98) (v := (.bool false)) rfl (by kernel_rfl) ?_
        refine w_nil ?_
        refine then_normal ?_
        refine wp_iff rfl ?_
        refine w_skip ?_
        refine blk_normal ?_
        refine then_normal ?_
        refine w_lit ?_
        refine wl_pure (wants0 rfl) (d := 26) (v := (.int .i64 ((i : Int)))) rfl (by kernel_rfl) ?_
        refine wl_pure (wants0 rfl) (d := 27) (v := (.int .i64 ((i : Int) + 1))) rfl (e_int (z := (i : Int) + 1) (by kernel_rfl) (IntWalk.i64_in _ (by omega))) ?_
        refine wl_pure (wants0 rfl) (d := 7) (v := (.int .i64 ((i : Int) + 1))) rfl (by kernel_rfl) ?_
        refine w_nil ?_
        have H67 : Sat w [restC w (fun _ => False), cellC r2 52 ([(.map (some b3))] : List Value), mapC b3 strV (Value.int .i64) (fL who (i + 1))] w63 := H66.pick [0, 1, 2] (by decide)
        refine round_back ?_ _ ⟨(i + 1), (show ((.int .i64 ((i : Int) + 1)) : Value) = _ by first | rfl | go_num), (show ((.int .i64 (((min i 64 : Nat) : Int) + 1)) : Value) = _ by congr 1; omega), by omega, H67, rfl⟩ (by omega)
        exact (same_upd rfl (same_upd rfl (same_upd rfl (same_upd rfl (same_upd rfl (same_upd rfl (same_upd rfl (same_upd rfl (same_upd rfl (same_upd rfl (same_upd rfl (same_upd rfl (same_upd rfl (same_upd rfl (same_upd rfl (same_upd rfl (same_upd rfl (same_upd rfl (same_upd rfl (same_upd rfl (same_upd rfl (same_upd rfl (same_upd rfl (same_upd rfl (same_upd rfl (same_upd rfl (same_upd rfl (same_upd rfl (same_upd rfl (same_upd rfl (same_upd rfl (same_upd rfl (same_upd rfl (same_upd rfl (same_upd rfl (same_upd rfl (same_upd rfl (same_upd rfl (same_upd rfl (same_upd rfl (same_upd rfl (same_upd rfl (same_upd rfl (same_upd rfl (same_upd rfl (same_upd rfl (same_upd rfl (same_upd rfl (same_upd rfl (same_upd rfl (same_upd rfl (same_upd rfl (same_upd rfl (same_upd rfl (same_upd rfl (same_upd rfl (same_upd rfl (same_upd rfl (same_upd rfl (same_upd rfl (same_upd rfl (same_upd rfl (same_upd rfl (same_upd rfl (same_upd rfl (same_upd rfl (same_upd rfl (same_upd rfl (same_upd rfl (same_upd rfl (same_upd rfl (same_upd rfl (same_upd rfl (same_upd rfl (same_upd rfl (same_upd rfl (same_upd rfl (same_upd rfl (same_upd rfl (same_upd rfl (same_upd rfl (same_upd rfl (same_upd rfl (same_upd rfl (same_upd rfl (same_upd rfl (same_upd rfl (same_upd rfl (same_upd rfl (same_upd rfl (same_upd rfl (same_upd rfl (same_upd rfl (same_upd rfl (same_ovr)))))))))))))))))))))))))))))))))))))))))))))))))))))))))))))))))))))))))))))))))))))))))))))))
      · have g68 := of_decide_eq_false b45
        have g69 := of_decide_eq_false b45
        refine wp_know 10 (.int .i64 (7)) (show ((.int .i64 (if i < 64 then 0 else 7)) : Value) = _ by rw [if_neg (by omega)]) ?_
        refine w_lit ?_
        refine wl_pure (wants0 rfl) (d := 51) (v := (.int .i64 (7))) rfl (by kernel_rfl) ?_
        refine wl_pure (wants0 rfl) (d := 52) (v := (.bool false)) rfl (by kernel_rfl) ?_
        refine wl_pure (wants0 rfl) (d := 53) (v := (.int .i64 ((i : Int)))) rfl (by kernel_rfl) ?_
        refine wl_pure (wants0 rfl) (d := 54) (v := (.bool (decide ((i : Int) < 64)))) rfl (by kernel_rfl) ?_
        refine wl_pure (wants0 rfl) (d := 55) (v := (.bool (!(false == (decide ((i : Int) < 64)))))) rfl (by kernel_rfl) ?_
        refine wl_pure (wants0 rfl) (d := 56) (v := (.bool (!(false == (decide ((i : Int) < 64)))))) rfl (by kernel_rfl) ?_
        have b70 : (!(false == (decide ((i : Int) < 64)))) = false := by rw [decide_eq_false (by omega)]; rfl
        refine wl_know 56 (.bool false) (congrArg Value.bool b70) ?_
        have g71 := bnot_false b70
        refine wl_pure (wantsY 5 56 false rfl (by kernel_rfl) rfl (by kernel_rfl)) (d := 57) (v := (.int .i64 (7))) rfl (by kernel_rfl) ?_
        refine wl_pure (wantsY 5 56 false rfl (by kernel_rfl) rfl (by kernel_rfl)) (d := 58) (v := (.bool true)) rfl (by kernel_rfl) ?_
        refine wl_pure (wantsY 5 56 false rfl (by kernel_rfl) rfl (by kernel_rfl)) (d := 59) (v := (.bool true)) rfl (by kernel_rfl) ?_
        refine wl_pure (wantsY 8 59 true rfl (by kernel_rfl) rfl (by kernel_rfl)) (d := 60) (v := (.int .i64 (7))) rfl (by kernel_rfl) ?_
        refine wl_pure (wantsY 8 59 true rfl (by kernel_rfl) rfl (by kernel_rfl)) (d := 61) (v := (.bool false)) rfl (by kernel_rfl) ?_
        refine wl_pure (wantsY 5 56 false rfl (by kernel_rfl) rfl (by kernel_rfl)) (d := 62) (v := (.bool false)) rfl (by kernel_rfl) ?_
        refine wl_pure (wants0 rfl) (d := 63) (v := (.bool false)) rfl (by kernel_rfl) ?_
        refine w_nil ?_
        refine then_normal ?_
        refine wp_iff rfl ?_
        refine w_skip ?_
        refine then_normal ?_
        refine w_seq ?_
        refine w_seq ?_
        refine w_lit ?_
        refine wl_pure (wants0 rfl) (d := 64) (v := (.int .i64 (7))) rfl (by kernel_rfl) ?_
        refine wl_pure (wants0 rfl) (d := 65) (v := (.bool true)) rfl (by kernel_rfl) ?_
        refine w_nil ?_
        refine then_normal ?_
        refine wp_ift rfl ?_
        refine w_exit ?_
        refine then_exit ?_
        refine blk_hit ?_
        refine then_normal ?_
        refine w_lit ?_
        refine wl_pure (wants0 rfl) (d := 26) (v := (.int .i64 ((i : Int)))) rfl (by kernel_rfl) ?_
        refine wl_pure (wants0 rfl) (d := 27) (v := (.int .i64 ((i : Int) + 1))) rfl (e_int (z := (i : Int) + 1) (by kernel_rfl) (IntWalk.i64_in _ (by omega))) ?_
        refine wl_pure (wants0 rfl) (d := 7) (v := (.int .i64 ((i : Int) + 1))) rfl (by kernel_rfl) ?_
        refine w_nil ?_
        have H72 : Sat w [restC w (fun _ => False), cellC r2 52 ([(.map (some b3))] : List Value), mapC b3 strV (Value.int .i64) (fL who (i + 1))] w41 := H44.pick [0, 1, 2] (by decide)
        refine round_back ?_ _ ⟨(i + 1), (show ((.int .i64 ((i : Int) + 1)) : Value) = _ by first | rfl | go_num), (show ((.int .i64 (((min i 64 : Nat) : Int))) : Value) = _ by congr 1; omega), by omega, H72, rfl⟩ (by omega)
        exact (same_upd rfl (same_upd rfl (same_upd rfl (same_upd rfl (same_upd rfl (same_upd rfl (same_upd rfl (same_upd rfl (same_upd rfl (same_upd rfl (same_upd rfl (same_upd rfl (same_upd rfl (same_upd rfl (same_upd rfl (same_upd rfl (same_upd rfl (same_upd rfl (same_upd rfl (same_upd rfl (same_upd rfl (same_upd rfl (same_upd rfl (same_upd rfl (same_upd rfl (same_upd rfl (same_upd rfl (same_upd rfl (same_upd rfl (same_upd rfl (same_upd rfl (same_upd rfl (same_upd rfl (same_upd rfl (same_upd rfl (same_upd rfl (same_upd rfl (same_upd rfl (same_upd rfl (same_upd rfl (same_upd rfl (same_upd rfl (same_upd rfl (same_upd rfl (same_upd rfl (same_upd rfl (same_upd rfl (same_upd rfl (same_upd rfl (same_upd rfl (same_upd rfl (same_upd rfl (same_upd rfl (same_upd rfl (same_upd rfl (same_ovr))))))))))))))))))))))))))))))))))))))))))))))))))))))))
    · have g73 := of_decide_eq_false b24
      refine wp_know 31 (.bool false) (congrArg Value.bool b24) ?_
      have g74 := of_decide_eq_false b24
      refine wp_iff rfl ?_
      refine w_skip ?_
      refine then_normal ?_
      refine w_seq ?_
      refine wp_know 8 (.int .i64 (clI who i)) (show ((.int .i64 (0)) : Value) = _ by unfold clI; rw [if_neg (by omega)]) ?_
      have hcl := clI_lim who i
      refine w_lit ?_
      refine wl_pure (wants0 rfl) (d := 37) (v := (.int .i64 ((i : Int)))) rfl (by kernel_rfl) ?_
      refine wl_pure (wants0 rfl) (d := 38) (v := (.int .i64 ((i : Int) / 26))) rfl (e_quo (by kernel_rfl) (by omega) (by omega) (IntWalk.i64_in _ (by omega))) ?_
      refine wl_pure (wants0 rfl) (d := 39) (v := (.int .i64 (97 + ((i : Int) / 26)))) rfl (e_int (z := 97 + ((i : Int) / 26)) (by kernel_rfl) (IntWalk.i64_in _ (by omega))) ?_
      refine wl_pure (wants0 rfl) (d := 40) (v := (.int .u8 (97 + ((i : Int) / 26)))) rfl (e_int (z := 97 + ((i : Int) / 26)) (by kernel_rfl) (wrap_u8 (by omega))) ?_
      refine wl_pure (wants0 rfl) (d := 41) (v := (.int .i64 ((i : Int)))) rfl (by kernel_rfl) ?_
      refine wl_pure (wants0 rfl) (d := 42) (v := (.int .i64 ((i : Int) % 26))) rfl (e_rem (by kernel_rfl) (by omega) (by omega)) ?_
      refine wl_pure (wants0 rfl) (d := 43) (v := (.int .i64 (97 + ((i : Int) % 26)))) rfl (e_int (z := 97 + ((i : Int) % 26)) (by kernel_rfl) (IntWalk.i64_in _ (by omega))) ?_
      refine wl_pure (wants0 rfl) (d := 44) (v := (.int .u8 (97 + ((i : Int) % 26)))) rfl (e_int (z := 97 + ((i : Int) % 26)) (by kernel_rfl) (wrap_u8 (by omega))) ?_
      refine wl_do (wants0 rfl) (fun K75 hK75 => ?_)
      refine d_buildSlice (e := 5) (size := 1) (bytes := 1) (z := (.int .u8 (0))) (pvs := [(0, (.int .u8 (97 + ((i : Int) / 26)))), (1, (.int .u8 (97 + ((i : Int) % 26))))]) (vs := ([(.int .u8 (97 + ((i : Int) / 26))), (.int .u8 (97 + ((i : Int) % 26)))] : List Value)) rfl H17 (by kernel_rfl) (by kernel_rfl) (by kernel_rfl) (by kernel_rfl) (by kernel_rfl) rfl rfl ?_
      intro b76 w77 (H78 : Sat w [restC w (fun _ => False), cellC r2 52 ([(.map (some b3))] : List Value), mapC b3 strV (Value.int .i64) (fL who i), rowC 5 1 (.slice (some ⟨b76, 0, none⟩) 2 2) 2 ([(.int .u8 (97 + ((i : Int) / 26))), (.int .u8 (97 + ((i : Int) % 26)))] : List Value)] w77)
      refine hK75 _ _ ?_
      clear hK75 K75
      refine wl_pure (wants0 rfl) (d := 46) (v := (strV (keyI i))) rfl (e_convBytes (e := 5) (s := (keyI i)) (by kernel_rfl) (by kernel_rfl) (by kernel_rfl) rfl (ownsRow_bytes (by have q := H78.at 3 rfl; rw [keyI_bytes (show i < 70 by omega)] at q; exact q))) ?_
      refine wl_pure (wants0 rfl) (d := 9) (v := (strV (keyI i))) rfl (by kernel_rfl) ?_
      refine w_nil ?_
      refine then_normal ?_
      refine w_seq ?_
      refine w_lit ?_
      refine wl_pure (wants0 rfl) (d := 47) (v := (.pointer (some ⟨r2, 0, none⟩))) rfl (by kernel_rfl) ?_
      refine wl_pure (wants0 rfl) (d := 48) (v := (strV (keyI i))) rfl (by kernel_rfl) ?_
      refine wl_pure (wants0 rfl) (d := 49) (v := (.int .i64 (clI who i))) rfl (by kernel_rfl) ?_
      refine wl_do (wants0 rfl) (fun K79 hK79 => ?_)
      refine d_call (d := 50) rfl (by kernel_rfl) (reserve_any w77 r2 b3 (fL who i) (H78.fin [1, 2] (by decide) rfl) (fL_short who i) (keyI i) (by simp [keyI]) (clI who i)) ?_
      rintro _ w80 ⟨e82, T81⟩
      rw [fE (show i < 70 by omega)] at e82
      rw [fN (show i < 70 by omega)] at T81
      subst e82
      have H83 : Sat w [restC w (fun _ => False), cellC r2 52 ([(.map (some b3))] : List Value), mapC b3 strV (Value.int .i64) (fL who (i + 1)), rowC 5 1 (.slice (some ⟨b76, 0, none⟩) 2 2) 2 ([(.int .u8 (97 + ((i : Int) / 26))), (.int .u8 (97 + ((i : Int) % 26)))] : List Value)] w80 := (Sat.turnL (L' := [cellC r2 52 ([(.map (some b3))] : List Value), mapC b3 strV (Value.int .i64) (fL who (i + 1))]) (R := [restC w (fun _ => False), rowC 5 1 (.slice (some ⟨b76, 0, none⟩) 2 2) 2 ([(.int .u8 (97 + ((i : Int) / 26))), (.int .u8 (97 + ((i : Int) % 26)))] : List Value)]) H78 [1, 2] [0, 3] (by decide) (by kernel_rfl) rfl T81).pick [2, 0, 1, 3] (by decide)
      refine ⟨_, rfl, ?_⟩
      refine hK79 _ _ ?_
      clear hK79 K79
      refine wl_pure (wants0 rfl) (d := 10) (v := (.int .i64 (if i < 64 then 0 else 7))) rfl (by kernel_rfl) ?_
      refine w_nil ?_
      refine then_normal ?_
      refine w_seq ?_
      refine w_seq ?_
      refine (bsplit (decide (i < 64))).elim (fun b84 => ?_) (fun b84 => ?_)
      · have g85 := of_decide_eq_true b84
        have g86 := of_decide_eq_true b84
        refine wp_know 10 (.int .i64 (0)) (show ((.int .i64 (if i < 64 then 0 else 7)) : Value) = _ by rw [if_pos (by omega)]) ?_
        refine w_lit ?_
        refine wl_pure (wants0 rfl) (d := 51) (v := (.int .i64 (0))) rfl (by kernel_rfl) ?_
        refine wl_pure (wants0 rfl) (d := 52) (v := (.bool true)) rfl (by kernel_rfl) ?_
        refine wl_pure (wants0 rfl) (d := 53) (v := (.int .i64 ((i : Int)))) rfl (by kernel_rfl) ?_
        refine wl_pure (wants0 rfl) (d := 54) (v := (.bool (decide ((i : Int) < 64)))) rfl (by kernel_rfl) ?_
        refine wl_pure (wants0 rfl) (d := 55) (v := (.bool (!(true == (decide ((i : Int) < 64)))))) rfl (by kernel_rfl) ?_
        refine wl_pure (wants0 rfl) (d := 56) (v := (.bool (!(true == (decide ((i : Int) < 64)))))) rfl (by kernel_rfl) ?_
        have b87 : (!(true == (decide ((i : Int) < 64)))) = false := by rw [decide_eq_true (by omega)]; rfl
        refine wl_know 56 (.bool false) (congrArg Value.bool b87) ?_
        have g88 := bnot_false b87
        refine wl_pure (wantsY 5 56 false rfl (by kernel_rfl) rfl (by kernel_rfl)) (d := 57) (v := (.int .i64 (0))) rfl (by kernel_rfl) ?_
        refine wl_pure (wantsY 5 56 false rfl (by kernel_rfl) rfl (by kernel_rfl)) (d := 58) (v := (.bool false)) rfl (by kernel_rfl) ?_
        refine wl_pure (wantsY 5 56 false rfl (by kernel_rfl) rfl (by kernel_rfl)) (d := 59) (v := (.bool false)) rfl (by kernel_rfl) ?_
        refine wl_pass (wantsN 8 59 true rfl (by kernel_rfl) rfl (by kernel_rfl)) rfl ?_
        refine wl_pass (wantsN 8 59 true rfl (by kernel_rfl) rfl (by kernel_rfl)) rfl ?_
        refine wl_pure (wantsY 5 56 false rfl (by kernel_rfl) rfl (by kernel_rfl)) (d := 62) (v := (.bool false)) rfl (by kernel_rfl) ?_
        refine wl_pure (wants0 rfl) (d := 63) (v := (.bool false)) rfl (by kernel_rfl) ?_
        refine w_nil ?_
        refine then_normal ?_
        refine wp_iff rfl ?_
        refine w_skip ?_
        refine then_normal ?_
        refine w_seq ?_
        refine w_seq ?_
        refine w_lit ?_
        refine wl_pure (wants0 rfl) (d := 64) (v := (.int .i64 (0))) rfl (by kernel_rfl) ?_
        refine wl_pure (wants0 rfl) (d := 65) (v := (.bool false)) rfl (by kernel_rfl) ?_
        refine w_nil ?_
        refine then_normal ?_
        refine wp_iff rfl ?_
        refine w_skip ?_
        refine then_normal ?_
        refine w_seq ?_
        refine w_lit ?_
        refine wl_pure (wants0 rfl) (d := 66) (v := (.int .i64 (((min i 64 : Nat) : Int)))) rfl (by kernel_rfl) ?_
        refine wl_pure (wants0 rfl) (d := 67) (v := (.int .i64 (((min i 64 : Nat) : Int) + 1))) rfl (e_int (z := ((min i 64 : Nat) : Int) + 1) (by kernel_rfl) (IntWalk.i64_in _ (by omega))) ?_
        refine wl_pure (wants0 rfl) (d := 6) (v := (.int .i64 (((min i 64 : Nat) : Int) + 1))) rfl (by kernel_rfl) ?_
        refine w_nil ?_
        refine then_normal ?_
        refine w_seq ?_
        refine w_lit ?_
        refine wl_pure (wants0 rfl) (d := 69) (v := (.pointer (some ⟨r2, 0, none⟩))) rfl (by kernel_rfl) ?_
        refine wl_pure (wants0 rfl) (d := 70) (v := (strV (keyI i))) rfl (by kernel_rfl) ?_
        refine wl_do (wants0 rfl) (fun K89 hK89 => ?_)
        refine d_call (d := 71) rfl (by kernel_rfl) (owner_any w80 r2 b3 (fL who (i + 1)) (H83.fin [1, 2] (by decide) rfl) (keyI i)) ?_
        rintro _ w90 ⟨rfl, u92⟩
        have H91 := H83.keepU u92
        refine ⟨_, rfl, ?_⟩
        refine hK89 _ _ ?_
        clear hK89 K89
        refine wl_pure (wants0 rfl) (d := 68) (v := (.tuple #[(.int .i64 ((lookM (fL who (i + 1)) (keyI i)).getD 0)), (.bool ((lookM (fL who (i + 1)) (keyI i)).isSome))])) rfl (by kernel_rfl) ?_
        refine wl_pure (wants0 rfl) (d := 72) (v := (.int .i64 ((lookM (fL who (i + 1)) (keyI i)).getD 0))) rfl (by kernel_rfl) ?_
        refine wl_pure (wants0 rfl) (d := 73) (v := (.bool ((lookM (fL who (i + 1)) (keyI i)).isSome))) rfl (by kernel_rfl) ?_
        refine wl_pure (wants0 rfl) (d := 11) (v := (.int .i64 ((lookM (fL who (i + 1)) (keyI i)).getD 0))) rfl (by kernel_rfl) ?_
        refine wl_pure (wants0 rfl) (d := 12) (v := (.bool ((lookM (fL who (i + 1)) (keyI i)).isSome))) rfl (by kernel_rfl) ?_
        refine w_nil ?_
        refine then_normal ?_
        refine w_seq ?_
        refine wp_know 11 (.int .i64 (clI who i)) (show ((.int .i64 ((lookM (fL who (i + 1)) (keyI i)).getD 0)) : Value) = _ by rw [fLook (show i < 64 by omega)]; rfl) ?_
        refine wp_know 12 (.bool true) (show ((.bool ((lookM (fL who (i + 1)) (keyI i)).isSome)) : Value) = _ by rw [fLook (show i < 64 by omega)]; rfl) ?_
        refine w_lit ?_
        refine wl_pure (wants0 rfl) (d := 74) (v := (.bool true)) rfl (by kernel_rfl) ?_
        refine wl_pure (wants0 rfl) (d := 75) (v := (.bool false)) rfl (by kernel_rfl) ?_
        refine wl_pure (wants0 rfl) (d := 76) (v := (.bool false)) rfl (by kernel_rfl) ?_
        refine wl_pure (wantsY 2 76 false rfl (by kernel_rfl) rfl (by kernel_rfl)) (d := 77) (v := (.int .i64 (clI who i))) rfl (by kernel_rfl) ?_
        refine wl_pure (wantsY 2 76 false rfl (by kernel_rfl) rfl (by kernel_rfl)) (d := 78) (v := (.int .i64 (clI who i))) rfl (by kernel_rfl) ?_
        refine wl_pure (wantsY 2 76 false rfl (by kernel_rfl) rfl (by kernel_rfl)) (d := 79) (v := (.bool (!(decide ((clI who i) = (clI who i)))))) rfl (by kernel_rfl) ?_
        refine wl_pure (wants0 rfl) (d := 80) (v := (.bool (!(decide ((clI who i) = (clI who i)))))) rfl (by kernel_rfl) ?_
        refine wl_pure (wants0 rfl) (d := 81) (v := (.bool (!(decide ((clI who i) = (clI who i)))))) rfl (by kernel_rfl) ?_
        have b93 : (!(decide ((clI who i) = (clI who i)))) = false := by rw [decide_eq_true rfl]; rfl
        refine wl_know 81 (.bool false) (congrArg Value.bool b93) ?_
        have g94 := bnot_false b93
        have g95 := of_decide_eq_true g94
        refine wl_pure (wantsY 7 81 false rfl (by kernel_rfl) rfl (by kernel_rfl)) (d := 82) (v := (.pointer (some ⟨r2, 0, none⟩))) rfl (by kernel_rfl) ?_
        refine wl_pure (wantsY 7 81 false rfl (by kernel_rfl) rfl (by kernel_rfl)) (d := 83) (v := (strV (keyI i))) rfl (by kernel_rfl) ?_
        refine wl_pure (wantsY 7 81 false rfl (by kernel_rfl) rfl (by kernel_rfl)) (d := 84) (v := (.int .i64 (clI who i))) rfl (by kernel_rfl) ?_
        refine wl_pure (wantsY 7 81 false rfl (by kernel_rfl) rfl (by kernel_rfl)) (d := 85) (v := (.int .i64 ((clI who i) + 1))) rfl (e_int (z := (clI who i) + 1) (by kernel_rfl) (IntWalk.i64_in _ (by omega))) ?_
        refine wl_pure (wantsY 7 81 false rfl (by kernel_rfl) rfl (by kernel_rfl)) (d := 86) (v := (.int .i64 (((clI who i) + 1) % 100))) rfl (e_rem (by kernel_rfl) (by omega) (by omega)) ?_
        refine wl_do (wantsY 7 81 false rfl (by kernel_rfl) rfl (by kernel_rfl)) (fun K96 hK96 => ?_)
        refine d_call (d := 87) rfl (by kernel_rfl) (reserve_any w90 r2 b3 (fL who (i + 1)) (H91.fin [1, 2] (by decide) rfl) (fL_short who (i + 1)) (keyI i) (by simp [keyI]) (((clI who i) + 1) % 100)) ?_
        rintro _ w97 ⟨e99, T98⟩
        rw [fE2 (show i < 64 by omega) (show 0 ≤ (((clI who i) + 1) % 100) ∧ (((clI who i) + 1) % 100) < 100 by omega)] at e99
        rw [fN2 (show i < 64 by omega) (show 0 ≤ (((clI who i) + 1) % 100) ∧ (((clI who i) + 1) % 100) < 100 by omega)] at T98
        subst e99
        have H100 : Sat w [restC w (fun _ => False), cellC r2 52 ([(.map (some b3))] : List Value), mapC b3 strV (Value.int .i64) (fL who (i + 1)), rowC 5 1 (.slice (some ⟨b76, 0, none⟩) 2 2) 2 ([(.int .u8 (97 + ((i : Int) / 26))), (.int .u8 (97 + ((i : Int) % 26)))] : List Value)] w97 := (Sat.turnL (L' := [cellC r2 52 ([(.map (some b3))] : List Value), mapC b3 strV (Value.int .i64) (fL who (i + 1))]) (R := [restC w (fun _ => False), rowC 5 1 (.slice (some ⟨b76, 0, none⟩) 2 2) 2 ([(.int .u8 (97 + ((i : Int) / 26))), (.int .u8 (97 + ((i : Int) % 26)))] : List Value)]) H91 [1, 2] [0, 3] (by decide) (by kernel_rfl) rfl T98).pick [2, 0, 1, 3] (by decide)
        refine ⟨_, rfl, ?_⟩
        refine hK96 _ _ ?_
        clear hK96 K96
        refine wl_pure (wantsY 7 81 false rfl (by kernel_rfl) rfl (by kernel_rfl)) (d := 88) (v := (.bool false)) rfl (by kernel_rfl) ?_
        refine wl_pure (wants0 rfl) (d := 89) (v := (.bool false)) rfl (by kernel_rfl) ?_
        refine wl_pure (wants0 rfl) (d := 90) (v := (.bool false)) rfl (by kernel_rfl) ?_
        refine wl_pure (wantsY 16 90 false rfl (by kernel_rfl) rfl (by kernel_rfl)) (d := 91) (v := (.pointer (some ⟨r2, 0, none⟩))) rfl (by kernel_rfl) ?_
        refine wl_pure (wantsY 16 90 false rfl (by kernel_rfl) rfl (by kernel_rfl)) (d := 92) (v := (strV (keyI i))) rfl (by kernel_rfl) ?_
        refine wl_pure (wantsY 16 90 false rfl (by kernel_rfl) rfl (by kernel_rfl)) (d := 93) (v := (.int .i64 (clI who i))) rfl (by kernel_rfl) ?_
        refine wl_pure (wantsY 16 90 false rfl (by kernel_rfl) rfl (by kernel_rfl)) (d := 94) (v := (.int .i64 ((clI who i) + 1))) rfl (e_int (z := (clI who i) + 1) (by kernel_rfl) (IntWalk.i64_in _ (by omega))) ?_
        refine wl_pure (wantsY 16 90 false rfl (by kernel_rfl) rfl (by kernel_rfl)) (d := 95) (v := (.int .i64 (((clI who i) + 1) % 100))) rfl (e_rem (by kernel_rfl) (by omega) (by omega)) ?_
        refine wl_do (wantsY 16 90 false rfl (by kernel_rfl) rfl (by kernel_rfl)) (fun K101 hK101 => ?_)
        refine d_call (d := 96) rfl (by kernel_rfl) (release_any w97 r2 b3 (fL who (i + 1)) (H100.fin [1, 2] (by decide) rfl) (fL_short who (i + 1)) (keyI i) (by simp [keyI]) (((clI who i) + 1) % 100)) ?_
        rintro _ w102 ⟨e104, T103⟩
        rw [fR (show i < 64 by omega) (show 0 ≤ (((clI who i) + 1) % 100) ∧ (((clI who i) + 1) % 100) < 100 by omega) (by omega)] at e104
        rw [fRN (show i < 64 by omega) (show 0 ≤ (((clI who i) + 1) % 100) ∧ (((clI who i) + 1) % 100) < 100 by omega) (by omega)] at T103
        subst e104
        have H105 : Sat w [restC w (fun _ => False), cellC r2 52 ([(.map (some b3))] : List Value), mapC b3 strV (Value.int .i64) (fL who (i + 1)), rowC 5 1 (.slice (some ⟨b76, 0, none⟩) 2 2) 2 ([(.int .u8 (97 + ((i : Int) / 26))), (.int .u8 (97 + ((i : Int) % 26)))] : List Value)] w102 := (Sat.turnL (L' := [cellC r2 52 ([(.map (some b3))] : List Value), mapC b3 strV (Value.int .i64) (fL who (i + 1))]) (R := [restC w (fun _ => False), rowC 5 1 (.slice (some ⟨b76, 0, none⟩) 2 2) 2 ([(.int .u8 (97 + ((i : Int) / 26))), (.int .u8 (97 + ((i : Int) % 26)))] : List Value)]) H100 [1, 2] [0, 3] (by decide) (by kernel_rfl) rfl T103).pick [2, 0, 1, 3] (by decide)
        refine ⟨_, rfl, ?_⟩
        refine hK101 _ _ ?_
        clear hK101 K101
        refine wl_pure (wantsY 16 90 false rfl (by kernel_rfl) rfl (by kernel_rfl)) (d := 97) (v := (.bool false)) rfl (by kernel_rfl) ?_
        refine wl_pure (wants0 rfl) (d := 98) (v := (.bool false)) rfl (by kernel_rfl) ?_
        refine w_nil ?_
        refine then_normal ?_
        refine wp_iff rfl ?_
        refine w_skip ?_
        refine blk_normal ?_
        refine then_normal ?_
        refine w_lit ?_
        refine wl_pure (wants0 rfl) (d := 26) (v := (.int .i64 ((i : Int)))) rfl (by kernel_rfl) ?_
        refine wl_pure (wants0 rfl) (d := 27) (v := (.int .i64 ((i : Int) + 1))) rfl (e_int (z := (i : Int) + 1) (by kernel_rfl) (IntWalk.i64_in _ (by omega))) ?_
        refine wl_pure (wants0 rfl) (d := 7) (v := (.int .i64 ((i : Int) + 1))) rfl (by kernel_rfl) ?_
        refine w_nil ?_
        have H106 : Sat w [restC w (fun _ => False), cellC r2 52 ([(.map (some b3))] : List Value), mapC b3 strV (Value.int .i64) (fL who (i + 1))] w102 := H105.pick [0, 1, 2] (by decide)
        refine round_back ?_ _ ⟨(i + 1), (show ((.int .i64 ((i : Int) + 1)) : Value) = _ by first | rfl | go_num), (show ((.int .i64 (((min i 64 : Nat) : Int) + 1)) : Value) = _ by congr 1; omega), by omega, H106, rfl⟩ (by omega)
        exact (same_upd rfl (same_upd rfl (same_upd rfl (same_upd rfl (same_upd rfl (same_upd rfl (same_upd rfl (same_upd rfl (same_upd rfl (same_upd rfl (same_upd rfl (same_upd rfl (same_upd rfl (same_upd rfl (same_upd rfl (same_upd rfl (same_upd rfl (same_upd rfl (same_upd rfl (same_upd rfl (same_upd rfl (same_upd rfl (same_upd rfl (same_upd rfl (same_upd rfl (same_upd rfl (same_upd rfl (same_upd rfl (same_upd rfl (same_upd rfl (same_upd rfl (same_upd rfl (same_upd rfl (same_upd rfl (same_upd rfl (same_upd rfl (same_upd rfl (same_upd rfl (same_upd rfl (same_upd rfl (same_upd rfl (same_upd rfl (same_upd rfl (same_upd rfl (same_upd rfl (same_upd rfl (same_upd rfl (same_upd rfl (same_upd rfl (same_upd rfl (same_upd rfl (same_upd rfl (same_upd rfl (same_upd rfl (same_upd rfl (same_upd rfl (same_upd rfl (same_upd rfl (same_upd rfl (same_upd rfl (same_upd rfl (same_upd rfl (same_upd rfl (same_upd rfl (same_upd rfl (same_upd rfl (same_upd rfl (same_upd rfl (same_upd rfl (same_upd rfl (same_upd rfl (same_upd rfl (same_upd rfl (same_upd rfl (same_upd rfl (same_upd rfl (same_upd rfl (same_upd rfl (same_upd rfl (same_upd rfl (same_upd rfl (same_upd rfl (same_upd rfl (same_upd rfl (same_upd rfl (same_upd rfl (same_upd rfl (same_upd rfl (same_ovr)))))))))))))))))))))))))))))))))))))))))))))))))))))))))))))))))))))))))))))))))))))))))
      · have g107 := of_decide_eq_false b84
        have g108 := of_decide_eq_false b84
        refine wp_know 10 (.int .i64 (7)) (show ((.int .i64 (if i < 64 then 0 else 7)) : Value) = _ by rw [if_neg (by omega)]) ?_
        refine w_lit ?_
        refine wl_pure (wants0 rfl) (d := 51) (v := (.int .i64 (7))) rfl (by kernel_rfl) ?_
        refine wl_pure (wants0 rfl) (d := 52) (v := (.bool false)) rfl (by kernel_rfl) ?_
        refine wl_pure (wants0 rfl) (d := 53) (v := (.int .i64 ((i : Int)))) rfl (by kernel_rfl) ?_
        refine wl_pure (wants0 rfl) (d := 54) (v := (.bool (decide ((i : Int) < 64)))) rfl (by kernel_rfl) ?_
        refine wl_pure (wants0 rfl) (d := 55) (v := (.bool (!(false == (decide ((i : Int) < 64)))))) rfl (by kernel_rfl) ?_
        refine wl_pure (wants0 rfl) (d := 56) (v := (.bool (!(false == (decide ((i : Int) < 64)))))) rfl (by kernel_rfl) ?_
        have b109 : (!(false == (decide ((i : Int) < 64)))) = false := by rw [decide_eq_false (by omega)]; rfl
        refine wl_know 56 (.bool false) (congrArg Value.bool b109) ?_
        have g110 := bnot_false b109
        refine wl_pure (wantsY 5 56 false rfl (by kernel_rfl) rfl (by kernel_rfl)) (d := 57) (v := (.int .i64 (7))) rfl (by kernel_rfl) ?_
        refine wl_pure (wantsY 5 56 false rfl (by kernel_rfl) rfl (by kernel_rfl)) (d := 58) (v := (.bool true)) rfl (by kernel_rfl) ?_
        refine wl_pure (wantsY 5 56 false rfl (by kernel_rfl) rfl (by kernel_rfl)) (d := 59) (v := (.bool true)) rfl (by kernel_rfl) ?_
        refine wl_pure (wantsY 8 59 true rfl (by kernel_rfl) rfl (by kernel_rfl)) (d := 60) (v := (.int .i64 (7))) rfl (by kernel_rfl) ?_
        refine wl_pure (wantsY 8 59 true rfl (by kernel_rfl) rfl (by kernel_rfl)) (d := 61) (v := (.bool false)) rfl (by kernel_rfl) ?_
        refine wl_pure (wantsY 5 56 false rfl (by kernel_rfl) rfl (by kernel_rfl)) (d := 62) (v := (.bool false)) rfl (by kernel_rfl) ?_
        refine wl_pure (wants0 rfl) (d := 63) (v := (.bool false)) rfl (by kernel_rfl) ?_
        refine w_nil ?_
        refine then_normal ?_
        refine wp_iff rfl ?_
        refine w_skip ?_
        refine then_normal ?_
        refine w_seq ?_
        refine w_seq ?_
        refine w_lit ?_
        refine wl_pure (wants0 rfl) (d := 64) (v := (.int .i64 (7))) rfl (by kernel_rfl) ?_
        refine wl_pure (wants0 rfl) (d := 65) (v := (.bool true)) rfl (by kernel_rfl) ?_
        refine w_nil ?_
        refine then_normal ?_
        refine wp_ift rfl ?_
        refine w_exit ?_
        refine then_exit ?_
        refine blk_hit ?_
        refine then_normal ?_
        refine w_lit ?_
        refine wl_pure (wants0 rfl) (d := 26) (v := (.int .i64 ((i : Int)))) rfl (by kernel_rfl) ?_
        refine wl_pure (wants0 rfl) (d := 27) (v := (.int .i64 ((i : Int) + 1))) rfl (e_int (z := (i : Int) + 1) (by kernel_rfl) (IntWalk.i64_in _ (by omega))) ?_
        refine wl_pure (wants0 rfl) (d := 7) (v := (.int .i64 ((i : Int) + 1))) rfl (by kernel_rfl) ?_
        refine w_nil ?_
        have H111 : Sat w [restC w (fun _ => False), cellC r2 52 ([(.map (some b3))] : List Value), mapC b3 strV (Value.int .i64) (fL who (i + 1))] w80 := H83.pick [0, 1, 2] (by decide)
        refine round_back ?_ _ ⟨(i + 1), (show ((.int .i64 ((i : Int) + 1)) : Value) = _ by first | rfl | go_num), (show ((.int .i64 (((min i 64 : Nat) : Int))) : Value) = _ by congr 1; omega), by omega, H111, rfl⟩ (by omega)
        exact (same_upd rfl (same_upd rfl (same_upd rfl (same_upd rfl (same_upd rfl (same_upd rfl (same_upd rfl (same_upd rfl (same_upd rfl (same_upd rfl (same_upd rfl (same_upd rfl (same_upd rfl (same_upd rfl (same_upd rfl (same_upd rfl (same_upd rfl (same_upd rfl (same_upd rfl (same_upd rfl (same_upd rfl (same_upd rfl (same_upd rfl (same_upd rfl (same_upd rfl (same_upd rfl (same_upd rfl (same_upd rfl (same_upd rfl (same_upd rfl (same_upd rfl (same_upd rfl (same_upd rfl (same_upd rfl (same_upd rfl (same_upd rfl (same_upd rfl (same_upd rfl (same_upd rfl (same_upd rfl (same_upd rfl (same_upd rfl (same_upd rfl (same_upd rfl (same_upd rfl (same_upd rfl (same_upd rfl (same_upd rfl (same_upd rfl (same_ovr))))))))))))))))))))))))))))))))))))))))))))))))))
  · have g112 := of_decide_eq_false b21
    refine wp_know 25 (.bool false) (congrArg Value.bool b21) ?_
    have g113 := of_decide_eq_false b21
    refine wp_iff rfl ?_
    refine w_exit ?_
    refine then_exit ?_
    refine back_exit ?_
    refine blk_hit ?_
    refine then_normal ?_
    refine w_seq ?_
    refine w_lit ?_
    refine wl_pure (wants0 rfl) (d := 13) (v := (.int .i64 (0))) rfl (by kernel_rfl) ?_
    refine w_nil ?_
    refine then_normal ?_
    refine w_seq ?_
    refine w_seq ?_
    refine w_lit ?_
    refine wl_pure (wants0 rfl) (d := 14) (v := (.int .i64 (0))) rfl (by kernel_rfl) ?_
    refine w_nil ?_
    refine then_normal ?_
    refine w_block ?_
    refine wp_round [13, 14, 99, 100, 101, 102, 103, 104, 105, 106, 107] (fun F_ W_ m_ => ∃ (k : Nat), F_ 14 = (.int .i64 ((k : Int))) ∧ F_ 13 = (.int .i64 (sumC (fL who i) k)) ∧ (k ≤ 100) ∧ Sat w [restC w (fun _ => False), cellC r2 52 ([(.map (some b3))] : List Value), mapC b3 strV (Value.int .i64) (fL who i)] W_ ∧ m_ = 101 - k) _ ⟨0, (show ((.int .i64 (0)) : Value) = _ by first | rfl | go_num), rfl, by omega, H17, rfl⟩ ?_
    rintro g114 w115 _ ⟨k, v117, v118, hk, H116, rfl⟩
    refine wp_know 14 _ v117 ?_
    refine wp_know 13 _ v118 ?_
    have hsc := sumC_le (fL who i) (fL_short who i).1 k
    have hcn : 0 ≤ cntL (fL who i) (k : Int) ∧ cntL (fL who i) (k : Int) ≤ 64 := by
      have q1 := (fL_short who i).1
      have q2 := List.countP_le_length (l := fL who i) (p := fun x => decide (x.2 = (k : Int)))
      unfold cntL
      omega
    refine w_seq ?_
    refine w_seq ?_
    refine w_lit ?_
    refine wl_pure (wants0 rfl) (d := 99) (v := (.int .i64 ((k : Int)))) rfl (by kernel_rfl) ?_
    refine wl_pure (wants0 rfl) (d := 100) (v := (.bool (decide ((k : Int) < 100)))) rfl (by kernel_rfl) ?_
    refine w_nil ?_
    refine then_normal ?_
    refine (bsplit (decide ((k : Int) < 100))).elim (fun b120 => ?_) (fun b120 => ?_)
    · have g121 := of_decide_eq_true b120
      refine wp_know 100 (.bool true) (congrArg Value.bool b120) ?_
      have g122 := of_decide_eq_true b120
      refine wp_ift rfl ?_
      refine w_skip ?_
      refine then_normal ?_
      refine w_seq ?_
      refine w_block ?_
      refine w_lit ?_
      refine wl_pure (wants0 rfl) (d := 103) (v := (.int .i64 (sumC (fL who i) k))) rfl (by kernel_rfl) ?_
      refine wl_pure (wants0 rfl) (d := 104) (v := (.pointer (some ⟨r2, 0, none⟩))) rfl (by kernel_rfl) ?_
      refine wl_pure (wants0 rfl) (d := 105) (v := (.int .i64 ((k : Int)))) rfl (by kernel_rfl) ?_
      refine wl_do (wants0 rfl) (fun K123 hK123 => ?_)
      refine d_call (d := 106) rfl (by kernel_rfl) (count_any w115 r2 b3 (fL who i) (H116.fin [1, 2] (by decide) rfl) (fL_short who i) (k : Int)) ?_
      rintro _ w124 ⟨rfl, u126⟩
      have H125 := H116.keepU u126
      refine ⟨_, rfl, ?_⟩
      refine hK123 _ _ ?_
      clear hK123 K123
      refine wl_pure (wants0 rfl) (d := 107) (v := (.int .i64 ((sumC (fL who i) k) + (cntL (fL who i) (k : Int))))) rfl (e_int (z := (sumC (fL who i) k) + (cntL (fL who i) (k : Int))) (by kernel_rfl) (IntWalk.i64_in _ (by omega))) ?_
      refine wl_pure (wants0 rfl) (d := 13) (v := (.int .i64 ((sumC (fL who i) k) + (cntL (fL who i) (k : Int))))) rfl (by kernel_rfl) ?_
      refine w_nil ?_
      refine blk_normal ?_
      refine then_normal ?_
      refine w_lit ?_
      refine wl_pure (wants0 rfl) (d := 101) (v := (.int .i64 ((k : Int)))) rfl (by kernel_rfl) ?_
      refine wl_pure (wants0 rfl) (d := 102) (v := (.int .i64 ((k : Int) + 1))) rfl (e_int (z := (k : Int) + 1) (by kernel_rfl) (IntWalk.i64_in _ (by omega))) ?_
      refine wl_pure (wants0 rfl) (d := 14) (v := (.int .i64 ((k : Int) + 1))) rfl (by kernel_rfl) ?_
      refine w_nil ?_
      refine round_back ?_ _ ⟨(k + 1), (show ((.int .i64 ((k : Int) + 1)) : Value) = _ by first | rfl | go_num), (show ((.int .i64 ((sumC (fL who i) k) + (cntL (fL who i) (k : Int)))) : Value) = _ by rw [sumC_succ]), by omega, H125, rfl⟩ (by omega)
      exact (same_upd rfl (same_upd rfl (same_upd rfl (same_upd rfl (same_upd rfl (same_upd rfl (same_upd rfl (same_upd rfl (same_upd rfl (same_upd rfl (same_upd rfl (same_upd rfl (same_upd rfl (same_upd rfl (same_ovr)))))))))))))))
    · have g127 := of_decide_eq_false b120
      refine wp_know 100 (.bool false) (congrArg Value.bool b120) ?_
      have g128 := of_decide_eq_false b120
      refine wp_iff rfl ?_
      refine w_exit ?_
      refine then_exit ?_
      refine back_exit ?_
      refine blk_hit ?_
      refine then_normal ?_
      refine w_seq ?_
      have hk1 : k = 100 := by omega
      have hNi : i = N := by omega
      have hsum : sumC (fL who i) k = ((min i 64 : Nat) : Int) := by rw [hk1]; exact sum_all who i
      have hE := endE (who := who) (n := i) (by omega)
      refine w_lit ?_
      refine wl_pure (wants0 rfl) (d := 109) (v := (.pointer (some ⟨r2, 0, none⟩))) rfl (by kernel_rfl) ?_
      refine wl_do (wants0 rfl) (fun K129 hK129 => ?_)
      refine d_call (d := 110) rfl (by kernel_rfl) (owner_any w115 r2 b3 (fL who i) (H116.fin [1, 2] (by decide) rfl) ([97, 97])) ?_
      rintro _ w130 ⟨rfl, u132⟩
      have H131 := H116.keepU u132
      refine ⟨_, rfl, ?_⟩
      refine hK129 _ _ ?_
      clear hK129 K129
      refine wl_pure (wants0 rfl) (d := 108) (v := (.tuple #[(.int .i64 ((lookM (fL who i) ([97, 97])).getD 0)), (.bool ((lookM (fL who i) ([97, 97])).isSome))])) rfl (by kernel_rfl) ?_
      refine wl_pure (wants0 rfl) (d := 111) (v := (.int .i64 ((lookM (fL who i) ([97, 97])).getD 0))) rfl (by kernel_rfl) ?_
      refine wl_pure (wants0 rfl) (d := 112) (v := (.bool ((lookM (fL who i) ([97, 97])).isSome))) rfl (by kernel_rfl) ?_
      refine wl_pure (wants0 rfl) (d := 15) (v := (.int .i64 ((lookM (fL who i) ([97, 97])).getD 0))) rfl (by kernel_rfl) ?_
      refine wl_pure (wants0 rfl) (d := 16) (v := (.bool ((lookM (fL who i) ([97, 97])).isSome))) rfl (by kernel_rfl) ?_
      refine w_nil ?_
      refine then_normal ?_
      refine w_seq ?_
      refine wp_know 15 (.int .i64 (clI who 0)) (show ((.int .i64 ((lookM (fL who i) ([97, 97])).getD 0)) : Value) = _ by rw [hE.1]) ?_
      refine w_lit ?_
      refine wl_pure (wants0 rfl) (d := 113) (v := (.int .i64 (sumC (fL who i) k))) rfl (by kernel_rfl) ?_
      refine wl_pure (wants0 rfl) (d := 114) (v := (.int .i64 (((min i 64 : Nat) : Int)))) rfl (by kernel_rfl) ?_
      refine wl_pure (wants0 rfl) (d := 115) (v := (.bool (decide ((sumC (fL who i) k) = ((min i 64 : Nat) : Int))))) rfl (by kernel_rfl) ?_
      refine wl_pure (wants0 rfl) (d := 116) (v := (.bool (decide ((sumC (fL who i) k) = ((min i 64 : Nat) : Int))))) rfl (by kernel_rfl) ?_
      have b133 : (decide ((sumC (fL who i) k) = ((min i 64 : Nat) : Int))) = true := by exact decide_eq_true hsum
      refine wl_know 116 (.bool true) (congrArg Value.bool b133) ?_
      have g134 := of_decide_eq_true b133
      refine wl_pure (wantsY 3 116 true rfl (by kernel_rfl) rfl (by kernel_rfl)) (d := 117) (v := (.pointer (some ⟨r2, 0, none⟩))) rfl (by kernel_rfl) ?_
      refine wl_do (wantsY 3 116 true rfl (by kernel_rfl) rfl (by kernel_rfl)) (fun K135 hK135 => ?_)
      refine d_call (d := 118) rfl (by kernel_rfl) (items_any w130 r2 b3 (fL who i) (H131.fin [1, 2] (by decide) rfl) (fL_short who i)) ?_
      rintro _ w136 ⟨u137, rfl, k138, p139, q140⟩
      have H141 : Sat w [restC w (fun _ => False), cellC r2 52 ([(.map (some b3))] : List Value), mapC b3 strV (Value.int .i64) (fL who i), rowC 9 1 u137 ((sortK ((fL who i) : RegL)).length) ((sortK ((fL who i) : RegL)).flatMap encS)] w136 := H131.addU p139 k138 q140
      obtain ⟨a142, c143, rfl⟩ := ownsRow_shape (H141.at 3 rfl)
      refine ⟨_, rfl, ?_⟩
      refine hK135 _ _ ?_
      clear hK135 K135
      refine wl_pure (wantsY 3 116 true rfl (by kernel_rfl) rfl (by kernel_rfl)) (d := 119) (v := (.int .i64 (((sortK ((fL who i) : RegL)).length : Int)))) rfl (by kernel_rfl) ?_
      refine wl_pure (wantsY 3 116 true rfl (by kernel_rfl) rfl (by kernel_rfl)) (d := 120) (v := (.int .i64 (((min i 64 : Nat) : Int)))) rfl (by kernel_rfl) ?_
      refine wl_pure (wantsY 3 116 true rfl (by kernel_rfl) rfl (by kernel_rfl)) (d := 121) (v := (.bool (decide (((sortK ((fL who i) : RegL)).length : Int) = ((min i 64 : Nat) : Int))))) rfl (by kernel_rfl) ?_
      refine wl_pure (wants0 rfl) (d := 122) (v := (.bool (decide (((sortK ((fL who i) : RegL)).length : Int) = ((min i 64 : Nat) : Int))))) rfl (by kernel_rfl) ?_
      refine wl_pure (wants0 rfl) (d := 123) (v := (.bool (decide (((sortK ((fL who i) : RegL)).length : Int) = ((min i 64 : Nat) : Int))))) rfl (by kernel_rfl) ?_
      have b144 : (decide (((sortK ((fL who i) : RegL)).length : Int) = ((min i 64 : Nat) : Int))) = true := by exact decide_eq_true (by rw [sortK_len, fL_len])
      refine wl_know 123 (.bool true) (congrArg Value.bool b144) ?_
      have g145 := of_decide_eq_true b144
      refine wl_pure (wantsY 10 123 true rfl (by kernel_rfl) rfl (by kernel_rfl)) (d := 124) (v := (.pointer (some ⟨r2, 0, none⟩))) rfl (by kernel_rfl) ?_
      refine wl_pure (wantsY 10 123 true rfl (by kernel_rfl) rfl (by kernel_rfl)) (d := 125) (v := (.int .i64 (clI who 0))) rfl (by kernel_rfl) ?_
      refine wl_do (wantsY 10 123 true rfl (by kernel_rfl) rfl (by kernel_rfl)) (fun K146 hK146 => ?_)
      refine d_call (d := 126) rfl (by kernel_rfl) (release_any w136 r2 b3 (fL who i) (H141.fin [1, 2] (by decide) rfl) (fL_short who i) ([97, 97]) (by decide) (clI who 0)) ?_
      rintro _ w147 ⟨e149, T148⟩
      rw [(endE (who := who) (n := i) (by omega)).2.1] at e149
      rw [show relL (fL who i) [97, 97] (clI who 0) = relL (fL who i) [97, 97] (clI who 0) from rfl] at T148
      subst e149
      have H150 : Sat w [restC w (fun _ => False), cellC r2 52 ([(.map (some b3))] : List Value), mapC b3 strV (Value.int .i64) (relL (fL who i) [97, 97] (clI who 0)), rowC 9 1 (.slice a142 ((sortK ((fL who i) : RegL)).length) c143) ((sortK ((fL who i) : RegL)).length) ((sortK ((fL who i) : RegL)).flatMap encS)] w147 := (Sat.turnL (L' := [cellC r2 52 ([(.map (some b3))] : List Value), mapC b3 strV (Value.int .i64) (relL (fL who i) [97, 97] (clI who 0))]) (R := [restC w (fun _ => False), rowC 9 1 (.slice a142 ((sortK ((fL who i) : RegL)).length) c143) ((sortK ((fL who i) : RegL)).length) ((sortK ((fL who i) : RegL)).flatMap encS)]) H141 [1, 2] [0, 3] (by decide) (by kernel_rfl) rfl T148).pick [2, 0, 1, 3] (by decide)
      refine ⟨_, rfl, ?_⟩
      refine hK146 _ _ ?_
      clear hK146 K146
      refine wl_pure (wantsY 10 123 true rfl (by kernel_rfl) rfl (by kernel_rfl)) (d := 127) (v := (.bool true)) rfl (by kernel_rfl) ?_
      refine wl_pure (wants0 rfl) (d := 128) (v := (.bool true)) rfl (by kernel_rfl) ?_
      refine wl_pure (wants0 rfl) (d := 129) (v := (.bool true)) rfl (by kernel_rfl) ?_
      refine wl_pure (wantsY 16 129 true rfl (by kernel_rfl) rfl (by kernel_rfl)) (d := 130) (v := (.pointer (some ⟨r2, 0, none⟩))) rfl (by kernel_rfl) ?_
      refine wl_pure (wantsY 16 129 true rfl (by kernel_rfl) rfl (by kernel_rfl)) (d := 131) (v := (.int .i64 (clI who 0))) rfl (by kernel_rfl) ?_
      refine wl_do (wantsY 16 129 true rfl (by kernel_rfl) rfl (by kernel_rfl)) (fun K151 hK151 => ?_)
      refine d_call (d := 132) rfl (by kernel_rfl) (release_any w147 r2 b3 (relL (fL who i) [97, 97] (clI who 0)) (H150.fin [1, 2] (by decide) rfl) ((fL_short who i).rel _ _) ([97, 97]) (by decide) (clI who 0)) ?_
      rintro _ w152 ⟨e154, T153⟩
      rw [(endE (who := who) (n := i) (by omega)).2.2.1] at e154
      rw [(endE (who := who) (n := i) (by omega)).2.2.2.1] at T153
      subst e154
      have H155 : Sat w [restC w (fun _ => False), cellC r2 52 ([(.map (some b3))] : List Value), mapC b3 strV (Value.int .i64) (relL (fL who i) [97, 97] (clI who 0)), rowC 9 1 (.slice a142 ((sortK ((fL who i) : RegL)).length) c143) ((sortK ((fL who i) : RegL)).length) ((sortK ((fL who i) : RegL)).flatMap encS)] w152 := (Sat.turnL (L' := [cellC r2 52 ([(.map (some b3))] : List Value), mapC b3 strV (Value.int .i64) (relL (fL who i) [97, 97] (clI who 0))]) (R := [restC w (fun _ => False), rowC 9 1 (.slice a142 ((sortK ((fL who i) : RegL)).length) c143) ((sortK ((fL who i) : RegL)).length) ((sortK ((fL who i) : RegL)).flatMap encS)]) H150 [1, 2] [0, 3] (by decide) (by kernel_rfl) rfl T153).pick [2, 0, 1, 3] (by decide)
      refine ⟨_, rfl, ?_⟩
      refine hK151 _ _ ?_
      clear hK151 K151
      refine wl_pure (wantsY 16 129 true rfl (by kernel_rfl) rfl (by kernel_rfl)) (d := 133) (v := (.bool true)) rfl (by kernel_rfl) ?_
      refine wl_pure (wants0 rfl) (d := 134) (v := (.bool true)) rfl (by kernel_rfl) ?_
      refine wl_pure (wants0 rfl) (d := 135) (v := (.bool true)) rfl (by kernel_rfl) ?_
      refine wl_pure (wantsY 22 135 true rfl (by kernel_rfl) rfl (by kernel_rfl)) (d := 136) (v := (.pointer (some ⟨r2, 0, none⟩))) rfl (by kernel_rfl) ?_
      refine wl_do (wantsY 22 135 true rfl (by kernel_rfl) rfl (by kernel_rfl)) (fun K156 hK156 => ?_)
      refine d_call (d := 137) rfl (by kernel_rfl) (items_any w152 r2 b3 (relL (fL who i) [97, 97] (clI who 0)) (H155.fin [1, 2] (by decide) rfl) ((fL_short who i).rel _ _)) ?_
      rintro _ w157 ⟨u158, rfl, k159, p160, q161⟩
      have H162 : Sat w [restC w (fun _ => False), cellC r2 52 ([(.map (some b3))] : List Value), mapC b3 strV (Value.int .i64) (relL (fL who i) [97, 97] (clI who 0)), rowC 9 1 (.slice a142 ((sortK ((fL who i) : RegL)).length) c143) ((sortK ((fL who i) : RegL)).length) ((sortK ((fL who i) : RegL)).flatMap encS), rowC 9 1 u158 ((sortK ((relL (fL who i) [97, 97] (clI who 0)) : RegL)).length) ((sortK ((relL (fL who i) [97, 97] (clI who 0)) : RegL)).flatMap encS)] w157 := H155.addU p160 k159 q161
      obtain ⟨a163, c164, rfl⟩ := ownsRow_shape (H162.at 4 rfl)
      refine ⟨_, rfl, ?_⟩
      refine hK156 _ _ ?_
      clear hK156 K156
      refine wl_pure (wantsY 22 135 true rfl (by kernel_rfl) rfl (by kernel_rfl)) (d := 138) (v := (.int .i64 (((sortK ((relL (fL who i) [97, 97] (clI who 0)) : RegL)).length : Int)))) rfl (by kernel_rfl) ?_
      refine wl_pure (wantsY 22 135 true rfl (by kernel_rfl) rfl (by kernel_rfl)) (d := 139) (v := (.int .i64 (((min i 64 : Nat) : Int)))) rfl (by kernel_rfl) ?_
      refine wl_pure (wantsY 22 135 true rfl (by kernel_rfl) rfl (by kernel_rfl)) (d := 140) (v := (.int .i64 (((min i 64 : Nat) : Int) - 1))) rfl (e_int (z := ((min i 64 : Nat) : Int) - 1) (by kernel_rfl) (IntWalk.i64_in _ (by omega))) ?_
      refine wl_pure (wantsY 22 135 true rfl (by kernel_rfl) rfl (by kernel_rfl)) (d := 141) (v := (.bool (decide (((sortK ((relL (fL who i) [97, 97] (clI who 0)) : RegL)).length : Int) = (((min i 64 : Nat) : Int) - 1))))) rfl (by kernel_rfl) ?_
      refine wl_pure (wants0 rfl) (d := 142) (v := (.bool (decide (((sortK ((relL (fL who i) [97, 97] (clI who 0)) : RegL)).length : Int) = (((min i 64 : Nat) : Int) - 1))))) rfl (by kernel_rfl) ?_
      refine wl_pure (wants0 rfl) (d := 143) (v := (.bool (decide (((sortK ((relL (fL who i) [97, 97] (clI who 0)) : RegL)).length : Int) = (((min i 64 : Nat) : Int) - 1))))) rfl (by kernel_rfl) ?_
      have b165 : (decide (((sortK ((relL (fL who i) [97, 97] (clI who 0)) : RegL)).length : Int) = (((min i 64 : Nat) : Int) - 1))) = true := by exact decide_eq_true (by rw [sortK_len]; have q := hE.2.2.2.2; omega)
      refine wl_know 143 (.bool true) (congrArg Value.bool b165) ?_
      have g166 := of_decide_eq_true b165
      refine wl_do (wantsY 30 143 true rfl (by kernel_rfl) rfl (by kernel_rfl)) (fun K167 hK167 => ?_)
      refine d_call (d := 144) rfl (by kernel_rfl) (wakes_any w157) ?_
      rintro _ w168 ⟨rfl, u170⟩
      have H169 := H162.keepU u170
      refine ⟨_, rfl, ?_⟩
      refine hK167 _ _ ?_
      clear hK167 K167
      refine wl_pure (wants0 rfl) (d := 145) (v := (.bool true)) rfl (by kernel_rfl) ?_
      refine wl_pure (wants0 rfl) (d := 4) (v := (.bool true)) rfl (by kernel_rfl) ?_
      refine w_nil ?_
      refine then_normal ?_
      refine w_ret ?_
      refine end1 rfl (res_tmp (v := (.bool true)) rfl) ?_
      exact ⟨rfl, H169.upd 0 rfl [] (fun _ h => h.elim)⟩

end Go.Proofs.Ytjlbabikogdknaa
