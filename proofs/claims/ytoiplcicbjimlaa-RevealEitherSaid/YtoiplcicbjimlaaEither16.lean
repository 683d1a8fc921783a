/- WHAT IS PROVED: the walk of RevealEither. Conditions: stated with each. -/
import Derived.Test.YtoiplcicbjimlaaTb16M
import Derived.Test.YtoiplcicbjimlaaActs16
import Derived.Test.YtoiplcicbjimlaaMat16
namespace Go.Proofs.Ytoiplcicbjimlaa
open Go.RowKit
theorem entH_eq {K : Int} (h : withinV K 9 = K) : entH K = entH K := rfl

set_option maxRecDepth 100000 in
set_option maxHeartbeats 4000000 in
theorem either16_walk (w : World) (va : Option Addr) (vc : Nat) (acts : List ActR) (hacts : ListAt encAc 5 w (.slice va acts.length vc) acts) (_hle : acts.length ≤ 9223372036854775807) (hat : ∀ x ∈ acts, TimeOk x) :
    Calls Try.prog 4 #[(.slice va acts.length vc)] w fun e w' => e = .returned (.bool true) ∧ Upd [] w w' := by
  have hact : ∀ i, i < acts.length → 0 ≤ (acts.getD i ac0).t ∧ (acts.getD i ac0).t ≤ 18446744073709551615 := fun i hi => by
    rw [List.getD_eq_getElem?_getD, List.getElem?_eq_getElem hi]; exact hat _ (List.getElem_mem hi)
  have H := Sat.start0 w
  refine calls_fr Try.func4 rfl 193 rfl (Nat.le_of_ble_eq_true rfl) ?_
  refine w_seq ?_
  refine w_lit ?_
  refine wl_pure (wants0 rfl) (d := 2) (v := (.bool false)) rfl (by kernel_rfl) ?_
  refine w_nil ?_
  refine then_normal ?_
  refine w_seq ?_
  refine w_lit ?_
  refine wl_pure (wants0 rfl) (d := 17) (v := (.agg ⟨([(.int .i64 (1)), (.int .i64 (3))] : List Value)⟩)) rfl (by kernel_rfl) ?_
  refine wl_do (wants0 rfl) (fun K1 hK1 => ?_)
  refine d_alloc (zs := ([(.int .i64 (0)), (.int .i64 (0))] : List Value)) (z := (.agg ⟨([(.int .i64 (0)), (.int .i64 (0))] : List Value)⟩)) rfl H (by kernel_rfl) (by kernel_rfl) ?_
  intro b2 w3 (H4 : Sat w [restC w (fun _ => False), cellC b2 31 ([(.int .i64 (0)), (.int .i64 (0))] : List Value)] w3)
  refine hK1 _ _ ?_
  clear hK1 K1
  refine wl_do (wants0 rfl) (fun K5 hK5 => ?_)
  refine d_storeX (vs := ([(.int .i64 (1)), (.int .i64 (3))] : List Value)) (cs' := ([(.int .i64 (1)), (.int .i64 (3))] : List Value)) rfl H4 1 rfl rfl rfl rfl (by kernel_rfl) (Nat.le_of_ble_eq_true (by kernel_rfl)) (Nat.le_of_ble_eq_true (by kernel_rfl)) (by kernel_rfl) (by kernel_rfl) ?_
  intro w6 (H7 : Sat w [restC w (fun _ => False), cellC b2 31 ([(.int .i64 (1)), (.int .i64 (3))] : List Value)] w6)
  refine hK5 _ _ ?_
  clear hK5 K5
  refine w_nil ?_
  refine then_normal ?_
  refine w_seq ?_
  refine w_lit ?_
  refine wl_do (wants0 rfl) (fun K9 hK9 => ?_)
  refine d_call (d := 19) rfl (by kernel_rfl) (new10_any w6) ?_
  rintro _ w10 ⟨b11, m12, r13, rfl, k14, p15, q16⟩
  have H17 : Sat w [restC w (fun _ => False), cellC b2 31 ([(.int .i64 (1)), (.int .i64 (3))] : List Value), sepC [cellC b11 103 [.map (some m12)], mapC m12 signedV (Value.int .i64) (marks []), cellC r13 96 [.slice none 0 0]]] w10 := H7.addU p15 k14 q16
  have H18 : Sat w [restC w (fun _ => False), cellC b2 31 ([(.int .i64 (1)), (.int .i64 (3))] : List Value), cellC b11 103 ([(.map (some m12))] : List Value), mapC m12 signedV (Value.int .i64) (marks ([] : List Signed)), cellC r13 96 ([(.slice none 0 0)] : List Value)] w10 := H17.open 2 rfl
  refine ⟨_, rfl, ?_⟩
  refine hK9 _ _ ?_
  clear hK9 K9
  refine wl_pure (wants0 rfl) (d := 18) (v := (.tuple #[(.agg ⟨([(.pointer (some ⟨b11, 0, none⟩)), (.pointer (some ⟨r13, 0, none⟩))] : List Value)⟩), (.bool true)])) rfl (by kernel_rfl) ?_
  refine wl_pure (wants0 rfl) (d := 20) (v := (.agg ⟨([(.pointer (some ⟨b11, 0, none⟩)), (.pointer (some ⟨r13, 0, none⟩))] : List Value)⟩)) rfl (by kernel_rfl) ?_
  refine wl_pure (wants0 rfl) (d := 21) (v := (.bool true)) rfl (by kernel_rfl) ?_
  refine wl_do (wants0 rfl) (fun K19 hK19 => ?_)
  refine d_alloc (zs := ([(.pointer none), (.pointer none)] : List Value)) (z := (.agg ⟨([(.pointer none), (.pointer none)] : List Value)⟩)) rfl H18 (by kernel_rfl) (by kernel_rfl) ?_
  intro b20 w21 (H22 : Sat w [restC w (fun _ => False), cellC b2 31 ([(.int .i64 (1)), (.int .i64 (3))] : List Value), cellC b11 103 ([(.map (some m12))] : List Value), mapC m12 signedV (Value.int .i64) (marks ([] : List Signed)), cellC r13 96 ([(.slice none 0 0)] : List Value), cellC b20 52 ([(.pointer none), (.pointer none)] : List Value)] w21)
  refine hK19 _ _ ?_
  clear hK19 K19
  refine wl_do (wants0 rfl) (fun K23 hK23 => ?_)
  refine d_storeX (vs := ([(.pointer (some ⟨b11, 0, none⟩)), (.pointer (some ⟨r13, 0, none⟩))] : List Value)) (cs' := ([(.pointer (some ⟨b11, 0, none⟩)), (.pointer (some ⟨r13, 0, none⟩))] : List Value)) rfl H22 5 rfl rfl rfl rfl (by kernel_rfl) (Nat.le_of_ble_eq_true (by kernel_rfl)) (Nat.le_of_ble_eq_true (by kernel_rfl)) (by kernel_rfl) (by kernel_rfl) ?_
  intro w24 (H25 : Sat w [restC w (fun _ => False), cellC b2 31 ([(.int .i64 (1)), (.int .i64 (3))] : List Value), cellC b11 103 ([(.map (some m12))] : List Value), mapC m12 signedV (Value.int .i64) (marks ([] : List Signed)), cellC r13 96 ([(.slice none 0 0)] : List Value), cellC b20 52 ([(.pointer (some ⟨b11, 0, none⟩)), (.pointer (some ⟨r13, 0, none⟩))] : List Value)] w24)
  refine hK23 _ _ ?_
  clear hK23 K23
  refine wl_pure (wants0 rfl) (d := 5) (v := (.bool true)) rfl (by kernel_rfl) ?_
  refine w_nil ?_
  refine then_normal ?_
  refine w_seq ?_
  refine w_lit ?_
  refine wl_pure (wants0 rfl) (d := 23) (v := (.agg ⟨([(.int .i64 (1)), (.int .i64 (3))] : List Value)⟩)) rfl (e_loadN (vs := ([(.int .i64 (1)), (.int .i64 (3))] : List Value)) rfl (by kernel_rfl) (by kernel_rfl) (by exact Nat.le_of_ble_eq_true (by kernel_rfl)) (H25.at 1 rfl) (by kernel_rfl)) ?_
  refine wl_do (wants0 rfl) (fun K27 hK27 => ?_)
  refine d_call (d := 24) rfl (by kernel_rfl) (rvNew_any w24 (1 : Int) (3 : Int) (3 : Int) (by decide) (by decide)) ?_
  rintro _ w28 ⟨r29, m30, rfl, k31, p32, q33⟩
  have H34 : Sat w [restC w (fun _ => False), cellC b2 31 ([(.int .i64 (1)), (.int .i64 (3))] : List Value), cellC b11 103 ([(.map (some m12))] : List Value), mapC m12 signedV (Value.int .i64) (marks ([] : List Signed)), cellC r13 96 ([(.slice none 0 0)] : List Value), cellC b20 52 ([(.pointer (some ⟨b11, 0, none⟩)), (.pointer (some ⟨r13, 0, none⟩))] : List Value), sepC (rvL r29 m30 (1 : Int) (3 : Int) (3 : Int) [])] w28 := H25.addU p32 k31 q33
  have H35 : Sat w [restC w (fun _ => False), cellC b2 31 ([(.int .i64 (1)), (.int .i64 (3))] : List Value), cellC b11 103 ([(.map (some m12))] : List Value), mapC m12 signedV (Value.int .i64) (marks ([] : List Signed)), cellC r13 96 ([(.slice none 0 0)] : List Value), cellC b20 52 ([(.pointer (some ⟨b11, 0, none⟩)), (.pointer (some ⟨r13, 0, none⟩))] : List Value), cellC r29 86 ([(.int .i64 (1)), (.int .i64 (3)), (.int .i64 (3)), (.map (some m30))] : List Value), mapC m30 (Value.int .i64) encX ([] : List (Int × PlX)), denC ([] : List (Int × PlX))] w28 := H34.open 6 rfl
  refine ⟨_, rfl, ?_⟩
  refine hK27 _ _ ?_
  clear hK27 K27
  refine wl_pure (wants0 rfl) (d := 22) (v := (.tuple #[(.pointer (some ⟨r29, 0, none⟩)), (.int .i64 (0))])) rfl (by kernel_rfl) ?_
  refine wl_pure (wants0 rfl) (d := 25) (v := (.pointer (some ⟨r29, 0, none⟩))) rfl (by kernel_rfl) ?_
  refine wl_pure (wants0 rfl) (d := 26) (v := (.int .i64 (0))) rfl (by kernel_rfl) ?_
  refine wl_pure (wants0 rfl) (d := 6) (v := (.pointer (some ⟨r29, 0, none⟩))) rfl (by kernel_rfl) ?_
  refine wl_pure (wants0 rfl) (d := 7) (v := (.int .i64 (0))) rfl (by kernel_rfl) ?_
  refine w_nil ?_
  refine then_normal ?_
  refine w_seq ?_
  refine w_seq ?_
  refine w_lit ?_
  refine wl_pure (wants0 rfl) (d := 27) (v := (.bool true)) rfl (by kernel_rfl) ?_
  refine wl_pure (wants0 rfl) (d := 28) (v := (.bool false)) rfl (by kernel_rfl) ?_
  refine wl_pure (wants0 rfl) (d := 29) (v := (.bool false)) rfl (by kernel_rfl) ?_
  refine wl_pure (wantsY 2 29 false rfl (by kernel_rfl) rfl (by kernel_rfl)) (d := 30) (v := (.int .i64 (0))) rfl (by kernel_rfl) ?_
  refine wl_pure (wantsY 2 29 false rfl (by kernel_rfl) rfl (by kernel_rfl)) (d := 31) (v := (.bool false)) rfl (by kernel_rfl) ?_
  refine wl_pure (wants0 rfl) (d := 32) (v := (.bool false)) rfl (by kernel_rfl) ?_
  refine wl_pure (wants0 rfl) (d := 33) (v := (.bool false)) rfl (by kernel_rfl) ?_
  refine wl_pure (wantsY 6 33 false rfl (by kernel_rfl) rfl (by kernel_rfl)) (d := 34) (v := (.pointer (some ⟨r29, 0, none⟩))) rfl (by kernel_rfl) ?_
  refine wl_pure (wantsY 6 33 false rfl (by kernel_rfl) rfl (by kernel_rfl)) (d := 35) (v := (.bool false)) rfl (by kernel_rfl) ?_
  refine wl_pure (wants0 rfl) (d := 36) (v := (.bool false)) rfl (by kernel_rfl) ?_
  refine w_nil ?_
  refine then_normal ?_
  refine wp_iff rfl ?_
  refine w_skip ?_
  refine then_normal ?_
  refine w_seq ?_
  refine w_lit ?_
  refine wl_do (wants0 rfl) (fun K36 hK36 => ?_)
  refine d_alloc (zs := ([(.bool false), (.bool false), (.bool false), (.bool false), (.bool false), (.bool false)] : List Value)) (z := (.agg ⟨([(.bool false), (.bool false), (.bool false), (.bool false), (.bool false), (.bool false)] : List Value)⟩)) rfl H35 (by kernel_rfl) (by kernel_rfl) ?_
  intro b37 w38 (H39 : Sat w [restC w (fun _ => False), cellC b2 31 ([(.int .i64 (1)), (.int .i64 (3))] : List Value), cellC b11 103 ([(.map (some m12))] : List Value), mapC m12 signedV (Value.int .i64) (marks ([] : List Signed)), cellC r13 96 ([(.slice none 0 0)] : List Value), cellC b20 52 ([(.pointer (some ⟨b11, 0, none⟩)), (.pointer (some ⟨r13, 0, none⟩))] : List Value), cellC r29 86 ([(.int .i64 (1)), (.int .i64 (3)), (.int .i64 (3)), (.map (some m30))] : List Value), mapC m30 (Value.int .i64) encX ([] : List (Int × PlX)), denC ([] : List (Int × PlX)), cellC b37 55 ([(.bool false), (.bool false), (.bool false), (.bool false), (.bool false), (.bool false)] : List Value)] w38)
  have H40 : Sat w [restC w (fun _ => False), cellC b2 31 ([(.int .i64 (1)), (.int .i64 (3))] : List Value), cellC b11 103 ([(.map (some m12))] : List Value), mapC m12 signedV (Value.int .i64) (marks ([] : List Signed)), cellC r13 96 ([(.slice none 0 0)] : List Value), cellC b20 52 ([(.pointer (some ⟨b11, 0, none⟩)), (.pointer (some ⟨r13, 0, none⟩))] : List Value), cellC r29 86 ([(.int .i64 (1)), (.int .i64 (3)), (.int .i64 (3)), (.map (some m30))] : List Value), mapC m30 (Value.int .i64) encX ([] : List (Int × PlX)), denC ([] : List (Int × PlX)), rowTr b37 55 6 ([false, false, false, false, false, false])] w38 := Sat.toTr H39 9 [false, false, false, false, false, false] (by kernel_rfl) rfl
  refine hK36 _ _ ?_
  clear hK36 K36
  refine wl_do (wants0 rfl) (fun K41 hK41 => ?_)
  refine d_alloc (zs := ([(.bool false), (.bool false), (.bool false), (.bool false), (.bool false), (.bool false)] : List Value)) (z := (.agg ⟨([(.bool false), (.bool false), (.bool false), (.bool false), (.bool false), (.bool false)] : List Value)⟩)) rfl H40 (by kernel_rfl) (by kernel_rfl) ?_
  intro b42 w43 (H44 : Sat w [restC w (fun _ => False), cellC b2 31 ([(.int .i64 (1)), (.int .i64 (3))] : List Value), cellC b11 103 ([(.map (some m12))] : List Value), mapC m12 signedV (Value.int .i64) (marks ([] : List Signed)), cellC r13 96 ([(.slice none 0 0)] : List Value), cellC b20 52 ([(.pointer (some ⟨b11, 0, none⟩)), (.pointer (some ⟨r13, 0, none⟩))] : List Value), cellC r29 86 ([(.int .i64 (1)), (.int .i64 (3)), (.int .i64 (3)), (.map (some m30))] : List Value), mapC m30 (Value.int .i64) encX ([] : List (Int × PlX)), denC ([] : List (Int × PlX)), rowTr b37 55 6 ([false, false, false, false, false, false]), cellC b42 55 ([(.bool false), (.bool false), (.bool false), (.bool false), (.bool false), (.bool false)] : List Value)] w43)
  have H45 : Sat w [restC w (fun _ => False), cellC b2 31 ([(.int .i64 (1)), (.int .i64 (3))] : List Value), cellC b11 103 ([(.map (some m12))] : List Value), mapC m12 signedV (Value.int .i64) (marks ([] : List Signed)), cellC r13 96 ([(.slice none 0 0)] : List Value), cellC b20 52 ([(.pointer (some ⟨b11, 0, none⟩)), (.pointer (some ⟨r13, 0, none⟩))] : List Value), cellC r29 86 ([(.int .i64 (1)), (.int .i64 (3)), (.int .i64 (3)), (.map (some m30))] : List Value), mapC m30 (Value.int .i64) encX ([] : List (Int × PlX)), denC ([] : List (Int × PlX)), rowTr b37 55 6 ([false, false, false, false, false, false]), rowTr b42 55 6 ([false, false, false, false, false, false])] w43 := Sat.toTr H44 10 [false, false, false, false, false, false] (by kernel_rfl) rfl
  refine hK41 _ _ ?_
  clear hK41 K41
  refine wl_do (wants0 rfl) (fun K46 hK46 => ?_)
  refine d_alloc (zs := ([(.bool false), (.bool false), (.bool false), (.bool false), (.bool false), (.bool false)] : List Value)) (z := (.agg ⟨([(.bool false), (.bool false), (.bool false), (.bool false), (.bool false), (.bool false)] : List Value)⟩)) rfl H45 (by kernel_rfl) (by kernel_rfl) ?_
  intro b47 w48 (H49 : Sat w [restC w (fun _ => False), cellC b2 31 ([(.int .i64 (1)), (.int .i64 (3))] : List Value), cellC b11 103 ([(.map (some m12))] : List Value), mapC m12 signedV (Value.int .i64) (marks ([] : List Signed)), cellC r13 96 ([(.slice none 0 0)] : List Value), cellC b20 52 ([(.pointer (some ⟨b11, 0, none⟩)), (.pointer (some ⟨r13, 0, none⟩))] : List Value), cellC r29 86 ([(.int .i64 (1)), (.int .i64 (3)), (.int .i64 (3)), (.map (some m30))] : List Value), mapC m30 (Value.int .i64) encX ([] : List (Int × PlX)), denC ([] : List (Int × PlX)), rowTr b37 55 6 ([false, false, false, false, false, false]), rowTr b42 55 6 ([false, false, false, false, false, false]), cellC b47 55 ([(.bool false), (.bool false), (.bool false), (.bool false), (.bool false), (.bool false)] : List Value)] w48)
  have H50 : Sat w [restC w (fun _ => False), cellC b2 31 ([(.int .i64 (1)), (.int .i64 (3))] : List Value), cellC b11 103 ([(.map (some m12))] : List Value), mapC m12 signedV (Value.int .i64) (marks ([] : List Signed)), cellC r13 96 ([(.slice none 0 0)] : List Value), cellC b20 52 ([(.pointer (some ⟨b11, 0, none⟩)), (.pointer (some ⟨r13, 0, none⟩))] : List Value), cellC r29 86 ([(.int .i64 (1)), (.int .i64 (3)), (.int .i64 (3)), (.map (some m30))] : List Value), mapC m30 (Value.int .i64) encX ([] : List (Int × PlX)), denC ([] : List (Int × PlX)), rowTr b37 55 6 ([false, false, false, false, false, false]), rowTr b42 55 6 ([false, false, false, false, false, false]), rowTr b47 55 6 ([false, false, false, false, false, false])] w48 := Sat.toTr H49 11 [false, false, false, false, false, false] (by kernel_rfl) rfl
  refine hK46 _ _ ?_
  clear hK46 K46
  refine w_nil ?_
  refine then_normal ?_
  refine w_seq ?_
  refine w_seq ?_
  refine w_lit ?_
  refine wl_pure (wants0 rfl) (d := 11) (v := (.int .i64 (0))) rfl (by kernel_rfl) ?_
  refine w_nil ?_
  refine then_normal ?_
  refine w_block ?_
  refine wp_round [2, 11, 12, 13, 15, 16, 37, 38, 39, 40, 41, 42, 43, 44, 45, 46, 47, 48, 49, 50, 51, 52, 53, 54, 55, 56, 57, 58, 59, 60, 61, 62, 63, 64, 65, 66, 67, 68, 69, 70, 71, 72, 73, 74, 75, 76, 77, 78, 79, 80, 81, 82, 83, 84, 85, 86, 87, 88, 89, 90, 91, 92, 93, 94, 95, 96, 97, 98, 99, 100, 101, 102, 103, 104, 105, 106, 107, 108, 109, 110, 111, 112, 113, 114, 115, 116, 117, 118, 119, 120, 121, 122, 123, 124, 125, 126, 127, 128, 129, 130, 131, 132, 133, 134, 135, 136, 137, 138, 139, 140, 141, 142, 143, 144, 145, 146, 147, 148, 149, 150, 151, 152, 153, 154, 155, 156, 157, 158, 159, 160, 161, 162, 163, 164, 165, 166, 167, 168, 169, 170, 171, 172, 173, 174, 175, 176, 177, 178, 179, 180, 181, 182, 183, 184, 185, 186, 187, 188, 189, 190, 191] (fun F_ W_ m_ => ∃ (i : Nat) (L : List (Int × PlX)) (B : List Signed) (A D T : List Bool), F_ 11 = (.int .i64 ((i : Int))) ∧ (i ≤ 40) ∧ (PlI 6 3 L) ∧ (EiI 6 L A D T) ∧ (L.length ≤ i) ∧ (B.length ≤ 40 * i) ∧ Sat w [restC w (fun _ => False), cellC b2 31 ([(.int .i64 (1)), (.int .i64 (3))] : List Value), cellC b11 103 ([(.map (some m12))] : List Value), mapC m12 signedV (Value.int .i64) (marks B), cellC r13 96 ([(.slice none 0 0)] : List Value), cellC b20 52 ([(.pointer (some ⟨b11, 0, none⟩)), (.pointer (some ⟨r13, 0, none⟩))] : List Value), cellC r29 86 ([(.int .i64 (1)), (.int .i64 (3)), (.int .i64 (3)), (.map (some m30))] : List Value), mapC m30 (Value.int .i64) encX L, denC L, rowTr b37 55 6 A, rowTr b42 55 6 D, rowTr b47 55 6 T] W_ ∧ m_ = 41 - i) _ ⟨0, [], [], ([false, false, false, false, false, false]), ([false, false, false, false, false, false]), ([false, false, false, false, false, false]), (show ((.int .i64 (0)) : Value) = _ by first | rfl | go_num), (by omega), (PlI.nil _ _), EiI.start6, (by simp), (by simp), H50, rfl⟩ ?_
  rintro g51 w52 _ ⟨i, L, B, A, D, T, v54, hi, hP, hE, hLl, hBl, H53, rfl⟩
  refine wp_know 11 _ v54 ?_
  refine w_seq ?_
  refine w_seq ?_
  refine w_lit ?_
  refine wl_pure (wants0 rfl) (d := 37) (v := (.int .i64 ((i : Int)))) rfl (by kernel_rfl) ?_
  refine wl_pure (wants0 rfl) (d := 38) (v := (.slice va acts.length vc)) rfl (by kernel_rfl) ?_
  refine wl_pure (wants0 rfl) (d := 39) (v := (.int .i64 ((acts.length : Int)))) rfl (by kernel_rfl) ?_
  refine wl_pure (wants0 rfl) (d := 40) (v := (.bool (decide ((i : Int) < (acts.length : Int))))) rfl (by kernel_rfl) ?_
  refine wl_pure (wants0 rfl) (d := 41) (v := (.bool (decide ((i : Int) < (acts.length : Int))))) rfl (by kernel_rfl) ?_
  refine (bsplit (decide ((i : Int) < (acts.length : Int)))).elim (fun b56 => ?_) (fun b56 => ?_)
  · have g57 := of_decide_eq_true b56
    refine wl_know 41 (.bool true) (congrArg Value.bool b56) ?_
    have g58 := of_decide_eq_true b56
    refine wl_pure (wantsY 4 41 true rfl (by kernel_rfl) rfl (by kernel_rfl)) (d := 42) (v := (.int .i64 ((i : Int)))) rfl (by kernel_rfl) ?_
    refine wl_pure (wantsY 4 41 true rfl (by kernel_rfl) rfl (by kernel_rfl)) (d := 43) (v := (.bool (decide ((i : Int) < 40)))) rfl (by kernel_rfl) ?_
    refine wl_pure (wants0 rfl) (d := 44) (v := (.bool (decide ((i : Int) < 40)))) rfl (by kernel_rfl) ?_
    refine w_nil ?_
    refine then_normal ?_
    refine (bsplit (decide ((i : Int) < 40))).elim (fun b59 => ?_) (fun b59 => ?_)
    · have g60 := of_decide_eq_true b59
      refine wp_know 44 (.bool true) (congrArg Value.bool b59) ?_
      have g61 := of_decide_eq_true b59
      refine wp_ift rfl ?_
      refine w_skip ?_
      refine then_normal ?_
      refine w_seq ?_
      refine w_block ?_
      refine w_seq ?_
      refine w_lit ?_
      refine wl_pure (wants0 rfl) (d := 47) (v := (.slice va acts.length vc)) rfl (by kernel_rfl) ?_
      refine wl_pure (wants0 rfl) (d := 48) (v := (.int .i64 ((i : Int)))) rfl (by kernel_rfl) ?_
      obtain ⟨g62, o63, c64, e65, R66⟩ := SliceOf.atD hacts ac0 (show i < acts.length by omega)
      have ht_ : 0 ≤ (acts.getD i ac0).t ∧ (acts.getD i ac0).t ≤ 18446744073709551615 := hact i (by omega)
      refine wl_pure (wants0 rfl) (d := 49) (v := (.pointer (some ⟨g62, o63 + ((i : Int)).toNat * 5, none⟩))) rfl (e_indexAddrW (E := 57) (by kernel_rfl) (by kernel_rfl) (Nat.le_of_ble_eq_true rfl) rfl e65 rfl (by omega) (by omega)) ?_
      refine wl_pure (wants0 rfl) (d := 50) (v := (.pointer (some ⟨g62, o63 + ((i : Int)).toNat * 5 + 1, none⟩))) rfl (by kernel_rfl) ?_
      refine wl_pure (wants0 rfl) (d := 51) (v := (.int .i64 ((acts.getD i ac0).i))) rfl (e_load1 rfl (by kernel_rfl) (H53.cellR 0 rfl (cells_at R66 1 (by kernel_rfl) (show o63 + ((i : Int)).toNat * 5 + 1 = o63 + i * 5 + 1 by omega)) (fun h => h))) ?_
      refine wl_do (wants0 rfl) (fun K67 hK67 => ?_)
      refine d_call (d := 52) rfl (by kernel_rfl) (within_any w52 ((acts.getD i ac0).i) 6 (by omega)) ?_
      rintro _ w68 ⟨rfl, u70⟩
      have H69 := H53.keepU u70
      refine ⟨_, rfl, ?_⟩
      refine hK67 _ _ ?_
      clear hK67 K67
      refine wl_pure (wants0 rfl) (d := 12) (v := (.int .i64 (withinV ((acts.getD i ac0).i) 6))) rfl (by kernel_rfl) ?_
      refine w_nil ?_
      refine then_normal ?_
      obtain ⟨K, hK⟩ : ∃ K, K = withinV (acts.getD i ac0).i 6 := ⟨_, rfl⟩
      have hK6 := within_lim (acts.getD i ac0).i 6 (by omega)
      rw [← hK] at hK6
      have hKK : withinV K 9 = K := by unfold withinV; rw [if_neg (by decide)]; exact Int.emod_eq_of_lt hK6.1 (by omega)
      have hK6n : K < ((6 : Nat) : Int) := by omega
      refine wp_know 12 (.int .i64 (K)) (show ((.int .i64 (withinV ((acts.getD i ac0).i) 6)) : Value) = _ by rw [hK]) ?_
      refine wp_meetR (([2, 13, 15, 53, 54, 55, 56, 57, 58, 59, 60, 61, 62, 63, 64, 65, 66, 67, 68, 69, 70, 71, 72, 73, 74, 75, 76, 77, 78, 79, 80, 81, 82, 83, 84, 85, 86, 87, 88, 89] : List Nat) ++ ([90, 91, 92, 93, 94, 95, 96, 97, 98, 99, 100, 101, 102, 103, 104, 105, 106, 107, 108, 109, 110, 111, 112, 113, 114, 115, 116, 117, 118, 119, 120, 121, 122, 123, 124, 125, 126, 127, 128, 129] : List Nat) ++ ([130, 131, 132, 133, 134, 135, 136, 137, 138, 139, 140, 141, 142, 143, 144, 145, 146, 147, 148, 149, 150, 151, 152, 153, 154, 155, 156, 157, 158, 159, 160, 161] : List Nat)) (fun G_ W_ => ∃ (L1 : List (Int × PlX)) (B1 : List Signed) (A1 D1 T1 : List Bool), (PlI 6 3 L1) ∧ (EiI 6 L1 A1 D1 T1) ∧ (L1.length ≤ i + 1) ∧ (B1.length ≤ 40 * (i + 1)) ∧ Sat w [restC w (fun _ => False), cellC b2 31 ([(.int .i64 (1)), (.int .i64 (3))] : List Value), cellC b11 103 ([(.map (some m12))] : List Value), mapC m12 signedV (Value.int .i64) (marks B1), cellC r13 96 ([(.slice none 0 0)] : List Value), cellC b20 52 ([(.pointer (some ⟨b11, 0, none⟩)), (.pointer (some ⟨r13, 0, none⟩))] : List Value), cellC r29 86 ([(.int .i64 (1)), (.int .i64 (3)), (.int .i64 (3)), (.map (some m30))] : List Value), mapC m30 (Value.int .i64) encX L1, denC L1, rowTr b37 55 6 A1, rowTr b42 55 6 D1, rowTr b47 55 6 T1] W_) ?_ ?_
      · refine w_seq ?_
        refine w_lit ?_
        refine wl_pure (wants0 rfl) (d := 53) (v := (.slice va acts.length vc)) rfl (by kernel_rfl) ?_
        refine wl_pure (wants0 rfl) (d := 54) (v := (.int .i64 ((i : Int)))) rfl (by kernel_rfl) ?_
        refine wl_pure (wants0 rfl) (d := 55) (v := (.pointer (some ⟨g62, o63 + ((i : Int)).toNat * 5, none⟩))) rfl (e_indexAddrW (E := 57) (by kernel_rfl) (by kernel_rfl) (Nat.le_of_ble_eq_true rfl) rfl e65 rfl (by omega) (by omega)) ?_
        refine wl_pure (wants0 rfl) (d := 56) (v := (.pointer (some ⟨g62, o63 + ((i : Int)).toNat * 5, none⟩))) rfl (by kernel_rfl) ?_
        refine wl_pure (wants0 rfl) (d := 57) (v := (.int .i64 ((acts.getD i ac0).d))) rfl (e_load1 rfl (by kernel_rfl) (H69.cellR 0 rfl (cells_at R66 0 (by kernel_rfl) (show o63 + ((i : Int)).toNat * 5 = o63 + i * 5 + 0 by omega)) (fun h => h))) ?_
        refine wl_do (wants0 rfl) (fun K72 hK72 => ?_)
        refine d_call (d := 58) rfl (by kernel_rfl) (within_any w68 ((acts.getD i ac0).d) 9 (by omega)) ?_
        rintro _ w73 ⟨rfl, u75⟩
        have H74 := H69.keepU u75
        refine ⟨_, rfl, ?_⟩
        refine hK72 _ _ ?_
        clear hK72 K72
        refine w_nil ?_
        refine then_normal ?_
        refine w_block ?_
        refine w_seq ?_
        refine w_seq ?_
        refine w_lit ?_
        refine wl_pure (wants0 rfl) (d := 77) (v := (.bool (decide ((withinV ((acts.getD i ac0).d) 9) = 2)))) rfl (by kernel_rfl) ?_
        refine wl_pure (wants0 rfl) (d := 76) (v := (.bool (decide ((withinV ((acts.getD i ac0).d) 9) = 2)))) rfl (by kernel_rfl) ?_
        refine w_nil ?_
        refine then_normal ?_
        refine (bsplit (decide ((withinV ((acts.getD i ac0).d) 9) = 2))).elim (fun b76 => ?_) (fun b76 => ?_)
        · have g77 := of_decide_eq_true b76
          refine wp_know 76 (.bool true) (congrArg Value.bool b76) ?_
          have g78 := of_decide_eq_true b76
          refine wp_ift rfl ?_
          refine w_skip ?_
          refine then_normal ?_
          refine wp_ift rfl ?_
          refine w_seq ?_
          refine w_lit ?_
          refine wl_pure (wants0 rfl) (d := 79) (v := (.pointer (some ⟨r29, 0, none⟩))) rfl (by kernel_rfl) ?_
          refine wl_pure (wants0 rfl) (d := 80) (v := (.int .i64 (K))) rfl (by kernel_rfl) ?_
          refine wl_pure (wants0 rfl) (d := 81) (v := (.int .i64 (K))) rfl (by kernel_rfl) ?_
          refine wl_pure (wants0 rfl) (d := 82) (v := (.int .u8 (K))) rfl (e_int (z := K) (by kernel_rfl) (wrap_u8 (by omega))) ?_
          refine wl_do (wants0 rfl) (fun K79 hK79 => ?_)
          refine d_buildSlice (e := 5) (size := 1) (bytes := 1) (z := (.int .u8 (0))) (pvs := [(0, (.int .u8 (K)))]) (vs := ([(.int .u8 (K))] : List Value)) rfl H74 (by kernel_rfl) (by kernel_rfl) (by kernel_rfl) (by kernel_rfl) (by kernel_rfl) rfl rfl ?_
          intro b80 w81 (H82 : Sat w [restC w (fun _ => False), cellC b2 31 ([(.int .i64 (1)), (.int .i64 (3))] : List Value), cellC b11 103 ([(.map (some m12))] : List Value), mapC m12 signedV (Value.int .i64) (marks B), cellC r13 96 ([(.slice none 0 0)] : List Value), cellC b20 52 ([(.pointer (some ⟨b11, 0, none⟩)), (.pointer (some ⟨r13, 0, none⟩))] : List Value), cellC r29 86 ([(.int .i64 (1)), (.int .i64 (3)), (.int .i64 (3)), (.map (some m30))] : List Value), mapC m30 (Value.int .i64) encX L, denC L, rowTr b37 55 6 A, rowTr b42 55 6 D, rowTr b47 55 6 T, rowC 5 1 (.slice (some ⟨b80, 0, none⟩) 1 1) 1 ([(.int .u8 (K))] : List Value)] w81)
          have H83 : Sat w [restC w (fun _ => False), cellC b2 31 ([(.int .i64 (1)), (.int .i64 (3))] : List Value), cellC b11 103 ([(.map (some m12))] : List Value), mapC m12 signedV (Value.int .i64) (marks B), cellC r13 96 ([(.slice none 0 0)] : List Value), cellC b20 52 ([(.pointer (some ⟨b11, 0, none⟩)), (.pointer (some ⟨r13, 0, none⟩))] : List Value), cellC r29 86 ([(.int .i64 (1)), (.int .i64 (3)), (.int .i64 (3)), (.map (some m30))] : List Value), mapC m30 (Value.int .i64) encX L, denC L, rowTr b37 55 6 A, rowTr b42 55 6 D, rowTr b47 55 6 T, rowC 5 1 (.slice (some ⟨b80, 0, none⟩) 1 1) 1 ([UInt8.ofNat (K).toNat].flatMap encB)] w81 := H82.cast (by rw [byte_enc (by omega)])
          refine hK79 _ _ ?_
          clear hK79 K79
          refine wl_pure (wants0 rfl) (d := 84) (v := (.agg ⟨(hc (hash1 (7)))⟩)) rfl (by kernel_rfl) ?_
          refine wl_pure (wants0 rfl) (d := 85) (v := (.agg ⟨(([(.int .i64 (K)), (.slice (some ⟨b80, 0, none⟩) 1 1)] : List Value) ++ hc (hash1 (7)))⟩)) rfl (by kernel_rfl) ?_
          refine wl_do (wants0 rfl) (fun K84 hK84 => ?_)
          refine d_call (d := 86) rfl (by kernel_rfl) (rvOpenG_any w81 r29 m30 1 3 3 L K (some ⟨b80, 0, none⟩) 1 ([UInt8.ofNat (K).toNat]) (H83.fin [6, 7, 8, 12] (by decide) rfl) (hash1 (7)) (by simp) (hP.mat (by rw [hKK]))) ?_
          rintro _ w85 ⟨c86, M87, rfl, R88, T89⟩
          have H90 : Sat w [restC w (fun _ => False), cellC b2 31 ([(.int .i64 (1)), (.int .i64 (3))] : List Value), cellC b11 103 ([(.map (some m12))] : List Value), mapC m12 signedV (Value.int .i64) (marks B), cellC r13 96 ([(.slice none 0 0)] : List Value), cellC b20 52 ([(.pointer (some ⟨b11, 0, none⟩)), (.pointer (some ⟨r13, 0, none⟩))] : List Value), cellC r29 86 ([(.int .i64 (1)), (.int .i64 (3)), (.int .i64 (3)), (.map (some m30))] : List Value), mapC m30 (Value.int .i64) encX M87, denC M87, rowTr b37 55 6 A, rowTr b42 55 6 D, rowTr b47 55 6 T, rowC 5 1 (.slice (some ⟨b80, 0, none⟩) 1 1) 1 ([UInt8.ofNat (K).toNat].flatMap encB)] w85 := (Sat.turnL (L' := [cellC r29 86 ([(.int .i64 (1)), (.int .i64 (3)), (.int .i64 (3)), (.map (some m30))] : List Value), mapC m30 (Value.int .i64) encX M87, denC M87, rowC 5 1 (.slice (some ⟨b80, 0, none⟩) 1 1) 1 ([UInt8.ofNat (K).toNat].flatMap encB)]) (R := [restC w (fun _ => False), cellC b2 31 ([(.int .i64 (1)), (.int .i64 (3))] : List Value), cellC b11 103 ([(.map (some m12))] : List Value), mapC m12 signedV (Value.int .i64) (marks B), cellC r13 96 ([(.slice none 0 0)] : List Value), cellC b20 52 ([(.pointer (some ⟨b11, 0, none⟩)), (.pointer (some ⟨r13, 0, none⟩))] : List Value), rowTr b37 55 6 A, rowTr b42 55 6 D, rowTr b47 55 6 T]) H83 [6, 7, 8, 12] [0, 1, 2, 3, 4, 5, 9, 10, 11] (by decide) (by kernel_rfl) rfl T89).pick [4, 5, 6, 7, 8, 9, 0, 1, 2, 10, 11, 12, 3] (by decide)
          refine ⟨_, rfl, ?_⟩
          have hcode := hE.code R88 hK6.1 hK6n
          have hP2 := hP.open R88 (by simp)
          refine hK84 _ _ ?_
          clear hK84 K84
          refine wl_pure (wants0 rfl) (d := 13) (v := (.int .i64 (c86))) rfl (by kernel_rfl) ?_
          refine w_nil ?_
          refine then_normal ?_
          refine w_seq ?_
          refine w_seq ?_
          refine w_lit ?_
          refine wl_pure (wants0 rfl) (d := 87) (v := (.int .i64 (c86))) rfl (by kernel_rfl) ?_
          refine wl_pure (wants0 rfl) (d := 88) (v := (.bool (decide (c86 = 0)))) rfl (by kernel_rfl) ?_
          refine wl_pure (wants0 rfl) (d := 89) (v := (.int .i64 (K))) rfl (by kernel_rfl) ?_
          refine wl_pure (wants0 rfl) (d := 90) (v := (.pointer (some ⟨b47, 0 + (K).toNat * 1, none⟩))) rfl (e_indexAddrA (E := 4) (N := 6) (by kernel_rfl) (by kernel_rfl) (Nat.le_of_ble_eq_true rfl) rfl rfl (by omega) (by omega)) ?_
          refine wl_pure (wants0 rfl) (d := 91) (v := (.bool (T.getD (K).toNat false))) rfl (e_load1 rfl (by kernel_rfl) (rowTr_cell (H90.at 11 rfl) (show (K).toNat < 6 by omega) (show 0 + (K).toNat * 1 = (K).toNat by omega))) ?_
          refine wl_pure (wants0 rfl) (d := 92) (v := (.bool (T.getD (K).toNat false))) rfl (by kernel_rfl) ?_
          refine (bsplit (T.getD (K).toNat false)).elim (fun b91 => ?_) (fun b91 => ?_)
          · refine wl_know 92 (.bool true) (congrArg Value.bool b91) ?_
            refine wl_pure (wantsY 5 92 true rfl (by kernel_rfl) rfl (by kernel_rfl)) (d := 93) (v := (.int .i64 (K))) rfl (by kernel_rfl) ?_
            refine wl_pure (wantsY 5 92 true rfl (by kernel_rfl) rfl (by kernel_rfl)) (d := 94) (v := (.pointer (some ⟨b42, 0 + (K).toNat * 1, none⟩))) rfl (e_indexAddrA (E := 4) (N := 6) (by kernel_rfl) (by kernel_rfl) (Nat.le_of_ble_eq_true rfl) rfl rfl (by omega) (by omega)) ?_
            refine wl_pure (wantsY 5 92 true rfl (by kernel_rfl) rfl (by kernel_rfl)) (d := 95) (v := (.bool (D.getD (K).toNat false))) rfl (e_load1 rfl (by kernel_rfl) (rowTr_cell (H90.at 10 rfl) (show (K).toNat < 6 by omega) (show 0 + (K).toNat * 1 = (K).toNat by omega))) ?_
            refine wl_pure (wantsY 5 92 true rfl (by kernel_rfl) rfl (by kernel_rfl)) (d := 96) (v := (.bool (!(D.getD (K).toNat false)))) rfl (by kernel_rfl) ?_
            refine wl_pure (wants0 rfl) (d := 97) (v := (.bool (!(D.getD (K).toNat false)))) rfl (by kernel_rfl) ?_
            refine wl_pure (wants0 rfl) (d := 98) (v := (.bool (!((decide (c86 = 0)) == (!(D.getD (K).toNat false)))))) rfl (by kernel_rfl) ?_
            refine w_nil ?_
            refine then_normal ?_
            have b92 : (!((decide (c86 = 0)) == (!(D.getD (K).toNat false)))) = false := by rw [hcode, b91]; cases (D.getD K.toNat false) <;> rfl
            refine wp_know 98 (.bool false) (congrArg Value.bool b92) ?_
            have g93 := bnot_false b92
            refine wp_iff rfl ?_
            refine w_skip ?_
            refine then_normal ?_
            refine w_lit ?_
            refine wl_pure (wants0 rfl) (d := 99) (v := (.int .i64 (K))) rfl (by kernel_rfl) ?_
            refine wl_pure (wants0 rfl) (d := 100) (v := (.int .i64 (K))) rfl (by kernel_rfl) ?_
            refine wl_pure (wants0 rfl) (d := 101) (v := (.pointer (some ⟨b37, 0 + (K).toNat * 1, none⟩))) rfl (e_indexAddrA (E := 4) (N := 6) (by kernel_rfl) (by kernel_rfl) (Nat.le_of_ble_eq_true rfl) rfl rfl (by omega) (by omega)) ?_
            refine wl_pure (wants0 rfl) (d := 102) (v := (.bool (A.getD (K).toNat false))) rfl (e_load1 rfl (by kernel_rfl) (rowTr_cell (H90.at 9 rfl) (show (K).toNat < 6 by omega) (show 0 + (K).toNat * 1 = (K).toNat by omega))) ?_
            refine wl_pure (wants0 rfl) (d := 103) (v := (.bool (A.getD (K).toNat false))) rfl (by kernel_rfl) ?_
            refine (bsplit (A.getD (K).toNat false)).elim (fun b94 => ?_) (fun b94 => ?_)
            · refine wl_know 103 (.bool true) (congrArg Value.bool b94) ?_
              refine wl_pass (wantsN 4 103 false rfl (by kernel_rfl) rfl (by kernel_rfl)) rfl ?_
              refine wl_pass (wantsN 4 103 false rfl (by kernel_rfl) rfl (by kernel_rfl)) rfl ?_
              refine wl_pure (wants0 rfl) (d := 106) (v := (.bool true)) rfl (by kernel_rfl) ?_
              refine wl_pure (wants0 rfl) (d := 107) (v := (.pointer (some ⟨b37, 0 + (K).toNat * 1, none⟩))) rfl (e_indexAddrA (E := 4) (N := 6) (by kernel_rfl) (by kernel_rfl) (Nat.le_of_ble_eq_true rfl) rfl rfl (by omega) (by omega)) ?_
              refine wl_do (wants0 rfl) (fun K95 hK95 => ?_)
              refine d_storeTr rfl H90 9 rfl rfl rfl (by kernel_rfl) (show 0 + (K).toNat * 1 = (K).toNat by omega) (show (K).toNat < 6 by omega) ?_
              intro w96 (H97 : Sat w [restC w (fun _ => False), cellC b2 31 ([(.int .i64 (1)), (.int .i64 (3))] : List Value), cellC b11 103 ([(.map (some m12))] : List Value), mapC m12 signedV (Value.int .i64) (marks B), cellC r13 96 ([(.slice none 0 0)] : List Value), cellC b20 52 ([(.pointer (some ⟨b11, 0, none⟩)), (.pointer (some ⟨r13, 0, none⟩))] : List Value), cellC r29 86 ([(.int .i64 (1)), (.int .i64 (3)), (.int .i64 (3)), (.map (some m30))] : List Value), mapC m30 (Value.int .i64) encX M87, denC M87, rowTr b37 55 6 (A.set (K).toNat true), rowTr b42 55 6 D, rowTr b47 55 6 T, rowC 5 1 (.slice (some ⟨b80, 0, none⟩) 1 1) 1 ([UInt8.ofNat (K).toNat].flatMap encB)] w96)
              refine hK95 _ _ ?_
              clear hK95 K95
              refine w_nil ?_
              refine blk_normal ?_
              have H98 : Sat w [restC w (fun _ => False), cellC b2 31 ([(.int .i64 (1)), (.int .i64 (3))] : List Value), cellC b11 103 ([(.map (some m12))] : List Value), mapC m12 signedV (Value.int .i64) (marks B), cellC r13 96 ([(.slice none 0 0)] : List Value), cellC b20 52 ([(.pointer (some ⟨b11, 0, none⟩)), (.pointer (some ⟨r13, 0, none⟩))] : List Value), cellC r29 86 ([(.int .i64 (1)), (.int .i64 (3)), (.int .i64 (3)), (.map (some m30))] : List Value), mapC m30 (Value.int .i64) encX M87, denC M87, rowTr b37 55 6 (A.set (K).toNat true), rowTr b42 55 6 D, rowTr b47 55 6 T] w96 := H97.pick [0, 1, 2, 3, 4, 5, 6, 7, 8, 9, 10, 11] (by decide)
              refine meetR_at ?_ ⟨M87, B, (A.set (K).toNat true), D, T, hP2.1, (hE.open R88 hK6.1 hK6n (by rw [b94]; rfl)), (by omega), (by omega), H98⟩
              exact (same_upd rfl (same_upd rfl (same_upd rfl (same_upd rfl (same_upd rfl (same_upd rfl (same_upd rfl (same_upd rfl (same_upd rfl (same_upd rfl (same_upd rfl (same_upd rfl (same_upd rfl (same_upd rfl (same_upd rfl (same_upd rfl (same_upd rfl (same_upd rfl (same_upd rfl (same_upd rfl (same_upd rfl (same_upd rfl (same_upd rfl (same_upd rfl (same_upd rfl (same_upd rfl (same_upd rfl (same_upd rfl (same_upd rfl (same_upd rfl (same_upd rfl (same_upd rfl (same_upd rfl (same_upd rfl (same_upd rfl (same_upd rfl (same_upd rfl (same_upd rfl (same_upd rfl (same_upd rfl (same_upd rfl (same_upd rfl (same_refl)))))))))))))))))))))))))))))))))))))))))))
            · refine wl_know 103 (.bool false) (congrArg Value.bool b94) ?_
              refine wl_pure (wantsY 4 103 false rfl (by kernel_rfl) rfl (by kernel_rfl)) (d := 104) (v := (.int .i64 (c86))) rfl (by kernel_rfl) ?_
              refine wl_pure (wantsY 4 103 false rfl (by kernel_rfl) rfl (by kernel_rfl)) (d := 105) (v := (.bool (decide (c86 = 0)))) rfl (by kernel_rfl) ?_
              refine wl_pure (wants0 rfl) (d := 106) (v := (.bool (decide (c86 = 0)))) rfl (by kernel_rfl) ?_
              refine wl_pure (wants0 rfl) (d := 107) (v := (.pointer (some ⟨b37, 0 + (K).toNat * 1, none⟩))) rfl (e_indexAddrA (E := 4) (N := 6) (by kernel_rfl) (by kernel_rfl) (Nat.le_of_ble_eq_true rfl) rfl rfl (by omega) (by omega)) ?_
              refine wl_do (wants0 rfl) (fun K99 hK99 => ?_)
              refine d_storeTr rfl H90 9 rfl rfl rfl (by kernel_rfl) (show 0 + (K).toNat * 1 = (K).toNat by omega) (show (K).toNat < 6 by omega) ?_
              intro w100 (H101 : Sat w [restC w (fun _ => False), cellC b2 31 ([(.int .i64 (1)), (.int .i64 (3))] : List Value), cellC b11 103 ([(.map (some m12))] : List Value), mapC m12 signedV (Value.int .i64) (marks B), cellC r13 96 ([(.slice none 0 0)] : List Value), cellC b20 52 ([(.pointer (some ⟨b11, 0, none⟩)), (.pointer (some ⟨r13, 0, none⟩))] : List Value), cellC r29 86 ([(.int .i64 (1)), (.int .i64 (3)), (.int .i64 (3)), (.map (some m30))] : List Value), mapC m30 (Value.int .i64) encX M87, denC M87, rowTr b37 55 6 (A.set (K).toNat (decide (c86 = 0))), rowTr b42 55 6 D, rowTr b47 55 6 T, rowC 5 1 (.slice (some ⟨b80, 0, none⟩) 1 1) 1 ([UInt8.ofNat (K).toNat].flatMap encB)] w100)
              refine hK99 _ _ ?_
              clear hK99 K99
              refine w_nil ?_
              refine blk_normal ?_
              have H102 : Sat w [restC w (fun _ => False), cellC b2 31 ([(.int .i64 (1)), (.int .i64 (3))] : List Value), cellC b11 103 ([(.map (some m12))] : List Value), mapC m12 signedV (Value.int .i64) (marks B), cellC r13 96 ([(.slice none 0 0)] : List Value), cellC b20 52 ([(.pointer (some ⟨b11, 0, none⟩)), (.pointer (some ⟨r13, 0, none⟩))] : List Value), cellC r29 86 ([(.int .i64 (1)), (.int .i64 (3)), (.int .i64 (3)), (.map (some m30))] : List Value), mapC m30 (Value.int .i64) encX M87, denC M87, rowTr b37 55 6 (A.set (K).toNat (decide (c86 = 0))), rowTr b42 55 6 D, rowTr b47 55 6 T] w100 := H101.pick [0, 1, 2, 3, 4, 5, 6, 7, 8, 9, 10, 11] (by decide)
              refine meetR_at ?_ ⟨M87, B, (A.set (K).toNat (decide (c86 = 0))), D, T, hP2.1, (hE.open R88 hK6.1 hK6n (by rw [b94]; rfl)), (by omega), (by omega), H102⟩
              exact (same_upd rfl (same_upd rfl (same_upd rfl (same_upd rfl (same_upd rfl (same_upd rfl (same_upd rfl (same_upd rfl (same_upd rfl (same_upd rfl (same_upd rfl (same_upd rfl (same_upd rfl (same_upd rfl (same_upd rfl (same_upd rfl (same_upd rfl (same_upd rfl (same_upd rfl (same_upd rfl (same_upd rfl (same_upd rfl (same_upd rfl (same_upd rfl (same_upd rfl (same_upd rfl (same_upd rfl (same_upd rfl (same_upd rfl (same_upd rfl (same_upd rfl (same_upd rfl (same_upd rfl (same_upd rfl (same_upd rfl (same_upd rfl (same_upd rfl (same_upd rfl (same_upd rfl (same_upd rfl (same_upd rfl (same_upd rfl (same_refl)))))))))))))))))))))))))))))))))))))))))))
          · refine wl_know 92 (.bool false) (congrArg Value.bool b91) ?_
            refine wl_pass (wantsN 5 92 true rfl (by kernel_rfl) rfl (by kernel_rfl)) rfl ?_
            refine wl_pass (wantsN 5 92 true rfl (by kernel_rfl) rfl (by kernel_rfl)) rfl ?_
            refine wl_pass (wantsN 5 92 true rfl (by kernel_rfl) rfl (by kernel_rfl)) rfl ?_
            refine wl_pass (wantsN 5 92 true rfl (by kernel_rfl) rfl (by kernel_rfl)) rfl ?_
            refine wl_pure (wants0 rfl) (d := 97) (v := (.bool false)) rfl (by kernel_rfl) ?_
            refine wl_pure (wants0 rfl) (d := 98) (v := (.bool (!((decide (c86 = 0)) == false)))) rfl (by kernel_rfl) ?_
            refine w_nil ?_
            refine then_normal ?_
            have b103 : (!((decide (c86 = 0)) == false)) = false := by rw [hcode, b91]; cases (D.getD K.toNat false) <;> rfl
            refine wp_know 98 (.bool false) (congrArg Value.bool b103) ?_
            have g104 := bnot_false b103
            refine wp_iff rfl ?_
            refine w_skip ?_
            refine then_normal ?_
            refine w_lit ?_
            refine wl_pure (wants0 rfl) (d := 99) (v := (.int .i64 (K))) rfl (by kernel_rfl) ?_
            refine wl_pure (wants0 rfl) (d := 100) (v := (.int .i64 (K))) rfl (by kernel_rfl) ?_
            refine wl_pure (wants0 rfl) (d := 101) (v := (.pointer (some ⟨b37, 0 + (K).toNat * 1, none⟩))) rfl (e_indexAddrA (E := 4) (N := 6) (by kernel_rfl) (by kernel_rfl) (Nat.le_of_ble_eq_true rfl) rfl rfl (by omega) (by omega)) ?_
            refine wl_pure (wants0 rfl) (d := 102) (v := (.bool (A.getD (K).toNat false))) rfl (e_load1 rfl (by kernel_rfl) (rowTr_cell (H90.at 9 rfl) (show (K).toNat < 6 by omega) (show 0 + (K).toNat * 1 = (K).toNat by omega))) ?_
            refine wl_pure (wants0 rfl) (d := 103) (v := (.bool (A.getD (K).toNat false))) rfl (by kernel_rfl) ?_
            refine (bsplit (A.getD (K).toNat false)).elim (fun b105 => ?_) (fun b105 => ?_)
            · refine wl_know 103 (.bool true) (congrArg Value.bool b105) ?_
              refine wl_pass (wantsN 4 103 false rfl (by kernel_rfl) rfl (by kernel_rfl)) rfl ?_
              refine wl_pass (wantsN 4 103 false rfl (by kernel_rfl) rfl (by kernel_rfl)) rfl ?_
              refine wl_pure (wants0 rfl) (d := 106) (v := (.bool true)) rfl (by kernel_rfl) ?_
              refine wl_pure (wants0 rfl) (d := 107) (v := (.pointer (some ⟨b37, 0 + (K).toNat * 1, none⟩))) rfl (e_indexAddrA (E := 4) (N := 6) (by kernel_rfl) (by kernel_rfl) (Nat.le_of_ble_eq_true rfl) rfl rfl (by omega) (by omega)) ?_
              refine wl_do (wants0 rfl) (fun K106 hK106 => ?_)
              refine d_storeTr rfl H90 9 rfl rfl rfl (by kernel_rfl) (show 0 + (K).toNat * 1 = (K).toNat by omega) (show (K).toNat < 6 by omega) ?_
              intro w107 (H108 : Sat w [restC w (fun _ => False), cellC b2 31 ([(.int .i64 (1)), (.int .i64 (3))] : List Value), cellC b11 103 ([(.map (some m12))] : List Value), mapC m12 signedV (Value.int .i64) (marks B), cellC r13 96 ([(.slice none 0 0)] : List Value), cellC b20 52 ([(.pointer (some ⟨b11, 0, none⟩)), (.pointer (some ⟨r13, 0, none⟩))] : List Value), cellC r29 86 ([(.int .i64 (1)), (.int .i64 (3)), (.int .i64 (3)), (.map (some m30))] : List Value), mapC m30 (Value.int .i64) encX M87, denC M87, rowTr b37 55 6 (A.set (K).toNat true), rowTr b42 55 6 D, rowTr b47 55 6 T, rowC 5 1 (.slice (some ⟨b80, 0, none⟩) 1 1) 1 ([UInt8.ofNat (K).toNat].flatMap encB)] w107)
              refine hK106 _ _ ?_
              clear hK106 K106
              refine w_nil ?_
              refine blk_normal ?_
              have H109 : Sat w [restC w (fun _ => False), cellC b2 31 ([(.int .i64 (1)), (.int .i64 (3))] : List Value), cellC b11 103 ([(.map (some m12))] : List Value), mapC m12 signedV (Value.int .i64) (marks B), cellC r13 96 ([(.slice none 0 0)] : List Value), cellC b20 52 ([(.pointer (some ⟨b11, 0, none⟩)), (.pointer (some ⟨r13, 0, none⟩))] : List Value), cellC r29 86 ([(.int .i64 (1)), (.int .i64 (3)), (.int .i64 (3)), (.map (some m30))] : List Value), mapC m30 (Value.int .i64) encX M87, denC M87, rowTr b37 55 6 (A.set (K).toNat true), rowTr b42 55 6 D, rowTr b47 55 6 T] w107 := H108.pick [0, 1, 2, 3, 4, 5, 6, 7, 8, 9, 10, 11] (by decide)
              refine meetR_at ?_ ⟨M87, B, (A.set (K).toNat true), D, T, hP2.1, (hE.open R88 hK6.1 hK6n (by rw [b105]; rfl)), (by omega), (by omega), H109⟩
              exact (same_upd rfl (same_upd rfl (same_upd rfl (same_upd rfl (same_upd rfl (same_upd rfl (same_upd rfl (same_upd rfl (same_upd rfl (same_upd rfl (same_upd rfl (same_upd rfl (same_upd rfl (same_upd rfl (same_upd rfl (same_upd rfl (same_upd rfl (same_upd rfl (same_upd rfl (same_upd rfl (same_upd rfl (same_upd rfl (same_upd rfl (same_upd rfl (same_upd rfl (same_upd rfl (same_upd rfl (same_upd rfl (same_upd rfl (same_upd rfl (same_upd rfl (same_upd rfl (same_upd rfl (same_upd rfl (same_upd rfl (same_upd rfl (same_upd rfl (same_upd rfl (same_upd rfl (same_upd rfl (same_upd rfl (same_upd rfl (same_refl)))))))))))))))))))))))))))))))))))))))))))
            · refine wl_know 103 (.bool false) (congrArg Value.bool b105) ?_
              refine wl_pure (wantsY 4 103 false rfl (by kernel_rfl) rfl (by kernel_rfl)) (d := 104) (v := (.int .i64 (c86))) rfl (by kernel_rfl) ?_
              refine wl_pure (wantsY 4 103 false rfl (by kernel_rfl) rfl (by kernel_rfl)) (d := 105) (v := (.bool (decide (c86 = 0)))) rfl (by kernel_rfl) ?_
              refine wl_pure (wants0 rfl) (d := 106) (v := (.bool (decide (c86 = 0)))) rfl (by kernel_rfl) ?_
              refine wl_pure (wants0 rfl) (d := 107) (v := (.pointer (some ⟨b37, 0 + (K).toNat * 1, none⟩))) rfl (e_indexAddrA (E := 4) (N := 6) (by kernel_rfl) (by kernel_rfl) (Nat.le_of_ble_eq_true rfl) rfl rfl (by omega) (by omega)) ?_
              refine wl_do (wants0 rfl) (fun K110 hK110 => ?_)
              refine d_storeTr rfl H90 9 rfl rfl rfl (by kernel_rfl) (show 0 + (K).toNat * 1 = (K).toNat by omega) (show (K).toNat < 6 by omega) ?_
              intro w111 (H112 : Sat w [restC w (fun _ => False), cellC b2 31 ([(.int .i64 (1)), (.int .i64 (3))] : List Value), cellC b11 103 ([(.map (some m12))] : List Value), mapC m12 signedV (Value.int .i64) (marks B), cellC r13 96 ([(.slice none 0 0)] : List Value), cellC b20 52 ([(.pointer (some ⟨b11, 0, none⟩)), (.pointer (some ⟨r13, 0, none⟩))] : List Value), cellC r29 86 ([(.int .i64 (1)), (.int .i64 (3)), (.int .i64 (3)), (.map (some m30))] : List Value), mapC m30 (Value.int .i64) encX M87, denC M87, rowTr b37 55 6 (A.set (K).toNat (decide (c86 = 0))), rowTr b42 55 6 D, rowTr b47 55 6 T, rowC 5 1 (.slice (some ⟨b80, 0, none⟩) 1 1) 1 ([UInt8.ofNat (K).toNat].flatMap encB)] w111)
              refine hK110 _ _ ?_
              clear hK110 K110
              refine w_nil ?_
              refine blk_normal ?_
              have H113 : Sat w [restC w (fun _ => False), cellC b2 31 ([(.int .i64 (1)), (.int .i64 (3))] : List Value), cellC b11 103 ([(.map (some m12))] : List Value), mapC m12 signedV (Value.int .i64) (marks B), cellC r13 96 ([(.slice none 0 0)] : List Value), cellC b20 52 ([(.pointer (some ⟨b11, 0, none⟩)), (.pointer (some ⟨r13, 0, none⟩))] : List Value), cellC r29 86 ([(.int .i64 (1)), (.int .i64 (3)), (.int .i64 (3)), (.map (some m30))] : List Value), mapC m30 (Value.int .i64) encX M87, denC M87, rowTr b37 55 6 (A.set (K).toNat (decide (c86 = 0))), rowTr b42 55 6 D, rowTr b47 55 6 T] w111 := H112.pick [0, 1, 2, 3, 4, 5, 6, 7, 8, 9, 10, 11] (by decide)
              refine meetR_at ?_ ⟨M87, B, (A.set (K).toNat (decide (c86 = 0))), D, T, hP2.1, (hE.open R88 hK6.1 hK6n (by rw [b105]; rfl)), (by omega), (by omega), H113⟩
              exact (same_upd rfl (same_upd rfl (same_upd rfl (same_upd rfl (same_upd rfl (same_upd rfl (same_upd rfl (same_upd rfl (same_upd rfl (same_upd rfl (same_upd rfl (same_upd rfl (same_upd rfl (same_upd rfl (same_upd rfl (same_upd rfl (same_upd rfl (same_upd rfl (same_upd rfl (same_upd rfl (same_upd rfl (same_upd rfl (same_upd rfl (same_upd rfl (same_upd rfl (same_upd rfl (same_upd rfl (same_upd rfl (same_upd rfl (same_upd rfl (same_upd rfl (same_upd rfl (same_upd rfl (same_upd rfl (same_upd rfl (same_upd rfl (same_upd rfl (same_upd rfl (same_upd rfl (same_upd rfl (same_upd rfl (same_upd rfl (same_refl)))))))))))))))))))))))))))))))))))))))))))
        · have g114 := of_decide_eq_false b76
          refine wp_know 76 (.bool false) (congrArg Value.bool b76) ?_
          have g115 := of_decide_eq_false b76
          refine wp_iff rfl ?_
          refine w_lit ?_
          refine wl_pure (wants0 rfl) (d := 78) (v := (.bool (decide ((withinV ((acts.getD i ac0).d) 9) = 3)))) rfl (by kernel_rfl) ?_
          refine wl_pure (wants0 rfl) (d := 76) (v := (.bool (decide ((withinV ((acts.getD i ac0).d) 9) = 3)))) rfl (by kernel_rfl) ?_
          refine w_nil ?_
          refine then_normal ?_
          refine (bsplit (decide ((withinV ((acts.getD i ac0).d) 9) = 3))).elim (fun b116 => ?_) (fun b116 => ?_)
          · have g117 := of_decide_eq_true b116
            refine wp_know 76 (.bool true) (congrArg Value.bool b116) ?_
            have g118 := of_decide_eq_true b116
            refine wp_ift rfl ?_
            refine w_seq ?_
            refine w_lit ?_
            refine wl_pure (wants0 rfl) (d := 79) (v := (.pointer (some ⟨r29, 0, none⟩))) rfl (by kernel_rfl) ?_
            refine wl_pure (wants0 rfl) (d := 80) (v := (.int .i64 (K))) rfl (by kernel_rfl) ?_
            refine wl_pure (wants0 rfl) (d := 81) (v := (.int .i64 (K))) rfl (by kernel_rfl) ?_
            refine wl_pure (wants0 rfl) (d := 82) (v := (.int .u8 (K))) rfl (e_int (z := K) (by kernel_rfl) (wrap_u8 (by omega))) ?_
            refine wl_do (wants0 rfl) (fun K119 hK119 => ?_)
            refine d_buildSlice (e := 5) (size := 1) (bytes := 1) (z := (.int .u8 (0))) (pvs := [(0, (.int .u8 (K)))]) (vs := ([(.int .u8 (K))] : List Value)) rfl H74 (by kernel_rfl) (by kernel_rfl) (by kernel_rfl) (by kernel_rfl) (by kernel_rfl) rfl rfl ?_
            intro b120 w121 (H122 : Sat w [restC w (fun _ => False), cellC b2 31 ([(.int .i64 (1)), (.int .i64 (3))] : List Value), cellC b11 103 ([(.map (some m12))] : List Value), mapC m12 signedV (Value.int .i64) (marks B), cellC r13 96 ([(.slice none 0 0)] : List Value), cellC b20 52 ([(.pointer (some ⟨b11, 0, none⟩)), (.pointer (some ⟨r13, 0, none⟩))] : List Value), cellC r29 86 ([(.int .i64 (1)), (.int .i64 (3)), (.int .i64 (3)), (.map (some m30))] : List Value), mapC m30 (Value.int .i64) encX L, denC L, rowTr b37 55 6 A, rowTr b42 55 6 D, rowTr b47 55 6 T, rowC 5 1 (.slice (some ⟨b120, 0, none⟩) 1 1) 1 ([(.int .u8 (K))] : List Value)] w121)
            have H123 : Sat w [restC w (fun _ => False), cellC b2 31 ([(.int .i64 (1)), (.int .i64 (3))] : List Value), cellC b11 103 ([(.map (some m12))] : List Value), mapC m12 signedV (Value.int .i64) (marks B), cellC r13 96 ([(.slice none 0 0)] : List Value), cellC b20 52 ([(.pointer (some ⟨b11, 0, none⟩)), (.pointer (some ⟨r13, 0, none⟩))] : List Value), cellC r29 86 ([(.int .i64 (1)), (.int .i64 (3)), (.int .i64 (3)), (.map (some m30))] : List Value), mapC m30 (Value.int .i64) encX L, denC L, rowTr b37 55 6 A, rowTr b42 55 6 D, rowTr b47 55 6 T, rowC 5 1 (.slice (some ⟨b120, 0, none⟩) 1 1) 1 ([UInt8.ofNat (K).toNat].flatMap encB)] w121 := H122.cast (by rw [byte_enc (by omega)])
            refine hK119 _ _ ?_
            clear hK119 K119
            refine wl_pure (wants0 rfl) (d := 84) (v := (.agg ⟨(hc (hash1 (7)))⟩)) rfl (by kernel_rfl) ?_
            refine wl_pure (wants0 rfl) (d := 85) (v := (.agg ⟨(([(.int .i64 (K)), (.slice (some ⟨b120, 0, none⟩) 1 1)] : List Value) ++ hc (hash1 (7)))⟩)) rfl (by kernel_rfl) ?_
            refine wl_do (wants0 rfl) (fun K124 hK124 => ?_)
            refine d_call (d := 86) rfl (by kernel_rfl) (rvOpenG_any w121 r29 m30 1 3 3 L K (some ⟨b120, 0, none⟩) 1 ([UInt8.ofNat (K).toNat]) (H123.fin [6, 7, 8, 12] (by decide) rfl) (hash1 (7)) (by simp) (hP.mat (by rw [hKK]))) ?_
            rintro _ w125 ⟨c126, M127, rfl, R128, T129⟩
            have H130 : Sat w [restC w (fun _ => False), cellC b2 31 ([(.int .i64 (1)), (.int .i64 (3))] : List Value), cellC b11 103 ([(.map (some m12))] : List Value), mapC m12 signedV (Value.int .i64) (marks B), cellC r13 96 ([(.slice none 0 0)] : List Value), cellC b20 52 ([(.pointer (some ⟨b11, 0, none⟩)), (.pointer (some ⟨r13, 0, none⟩))] : List Value), cellC r29 86 ([(.int .i64 (1)), (.int .i64 (3)), (.int .i64 (3)), (.map (some m30))] : List Value), mapC m30 (Value.int .i64) encX M127, denC M127, rowTr b37 55 6 A, rowTr b42 55 6 D, rowTr b47 55 6 T, rowC 5 1 (.slice (some ⟨b120, 0, none⟩) 1 1) 1 ([UInt8.ofNat (K).toNat].flatMap encB)] w125 := (Sat.turnL (L' := [cellC r29 86 ([(.int .i64 (1)), (.int .i64 (3)), (.int .i64 (3)), (.map (some m30))] : List Value), mapC m30 (Value.int .i64) encX M127, denC M127, rowC 5 1 (.slice (some ⟨b120, 0, none⟩) 1 1) 1 ([UInt8.ofNat (K).toNat].flatMap encB)]) (R := [restC w (fun _ => False), cellC b2 31 ([(.int .i64 (1)), (.int .i64 (3))] : List Value), cellC b11 103 ([(.map (some m12))] : List Value), mapC m12 signedV (Value.int .i64) (marks B), cellC r13 96 ([(.slice none 0 0)] : List Value), cellC b20 52 ([(.pointer (some ⟨b11, 0, none⟩)), (.pointer (some ⟨r13, 0, none⟩))] : List Value), rowTr b37 55 6 A, rowTr b42 55 6 D, rowTr b47 55 6 T]) H123 [6, 7, 8, 12] [0, 1, 2, 3, 4, 5, 9, 10, 11] (by decide) (by kernel_rfl) rfl T129).pick [4, 5, 6, 7, 8, 9, 0, 1, 2, 10, 11, 12, 3] (by decide)
            refine ⟨_, rfl, ?_⟩
            have hcode := hE.code R128 hK6.1 hK6n
            have hP2 := hP.open R128 (by simp)
            refine hK124 _ _ ?_
            clear hK124 K124
            refine wl_pure (wants0 rfl) (d := 13) (v := (.int .i64 (c126))) rfl (by kernel_rfl) ?_
            refine w_nil ?_
            refine then_normal ?_
            refine w_seq ?_
            refine w_seq ?_
            refine w_lit ?_
            refine wl_pure (wants0 rfl) (d := 87) (v := (.int .i64 (c126))) rfl (by kernel_rfl) ?_
            refine wl_pure (wants0 rfl) (d := 88) (v := (.bool (decide (c126 = 0)))) rfl (by kernel_rfl) ?_
            refine wl_pure (wants0 rfl) (d := 89) (v := (.int .i64 (K))) rfl (by kernel_rfl) ?_
            refine wl_pure (wants0 rfl) (d := 90) (v := (.pointer (some ⟨b47, 0 + (K).toNat * 1, none⟩))) rfl (e_indexAddrA (E := 4) (N := 6) (by kernel_rfl) (by kernel_rfl) (Nat.le_of_ble_eq_true rfl) rfl rfl (by omega) (by omega)) ?_
            refine wl_pure (wants0 rfl) (d := 91) (v := (.bool (T.getD (K).toNat false))) rfl (e_load1 rfl (by kernel_rfl) (rowTr_cell (H130.at 11 rfl) (show (K).toNat < 6 by omega) (show 0 + (K).toNat * 1 = (K).toNat by omega))) ?_
            refine wl_pure (wants0 rfl) (d := 92) (v := (.bool (T.getD (K).toNat false))) rfl (by kernel_rfl) ?_
            refine (bsplit (T.getD (K).toNat false)).elim (fun b131 => ?_) (fun b131 => ?_)
            · refine wl_know 92 (.bool true) (congrArg Value.bool b131) ?_
              refine wl_pure (wantsY 5 92 true rfl (by kernel_rfl) rfl (by kernel_rfl)) (d := 93) (v := (.int .i64 (K))) rfl (by kernel_rfl) ?_
              refine wl_pure (wantsY 5 92 true rfl (by kernel_rfl) rfl (by kernel_rfl)) (d := 94) (v := (.pointer (some ⟨b42, 0 + (K).toNat * 1, none⟩))) rfl (e_indexAddrA (E := 4) (N := 6) (by kernel_rfl) (by kernel_rfl) (Nat.le_of_ble_eq_true rfl) rfl rfl (by omega) (by omega)) ?_
              refine wl_pure (wantsY 5 92 true rfl (by kernel_rfl) rfl (by kernel_rfl)) (d := 95) (v := (.bool (D.getD (K).toNat false))) rfl (e_load1 rfl (by kernel_rfl) (rowTr_cell (H130.at 10 rfl) (show (K).toNat < 6 by omega) (show 0 + (K).toNat * 1 = (K).toNat by omega))) ?_
              refine wl_pure (wantsY 5 92 true rfl (by kernel_rfl) rfl (by kernel_rfl)) (d := 96) (v := (.bool (!(D.getD (K).toNat false)))) rfl (by kernel_rfl) ?_
              refine wl_pure (wants0 rfl) (d := 97) (v := (.bool (!(D.getD (K).toNat false)))) rfl (by kernel_rfl) ?_
              refine wl_pure (wants0 rfl) (d := 98) (v := (.bool (!((decide (c126 = 0)) == (!(D.getD (K).toNat false)))))) rfl (by kernel_rfl) ?_
              refine w_nil ?_
              refine then_normal ?_
              have b132 : (!((decide (c126 = 0)) == (!(D.getD (K).toNat false)))) = false := by rw [hcode, b131]; cases (D.getD K.toNat false) <;> rfl
              refine wp_know 98 (.bool false) (congrArg Value.bool b132) ?_
              have g133 := bnot_false b132
              refine wp_iff rfl ?_
              refine w_skip ?_
              refine then_normal ?_
              refine w_lit ?_
              refine wl_pure (wants0 rfl) (d := 99) (v := (.int .i64 (K))) rfl (by kernel_rfl) ?_
              refine wl_pure (wants0 rfl) (d := 100) (v := (.int .i64 (K))) rfl (by kernel_rfl) ?_
              refine wl_pure (wants0 rfl) (d := 101) (v := (.pointer (some ⟨b37, 0 + (K).toNat * 1, none⟩))) rfl (e_indexAddrA (E := 4) (N := 6) (by kernel_rfl) (by kernel_rfl) (Nat.le_of_ble_eq_true rfl) rfl rfl (by omega) (by omega)) ?_
              refine wl_pure (wants0 rfl) (d := 102) (v := (.bool (A.getD (K).toNat false))) rfl (e_load1 rfl (by kernel_rfl) (rowTr_cell (H130.at 9 rfl) (show (K).toNat < 6 by omega) (show 0 + (K).toNat * 1 = (K).toNat by omega))) ?_
              refine wl_pure (wants0 rfl) (d := 103) (v := (.bool (A.getD (K).toNat false))) rfl (by kernel_rfl) ?_
              refine (bsplit (A.getD (K).toNat false)).elim (fun b134 => ?_) (fun b134 => ?_)
              · refine wl_know 103 (.bool true) (congrArg Value.bool b134) ?_
                refine wl_pass (wantsN 4 103 false rfl (by kernel_rfl) rfl (by kernel_rfl)) rfl ?_
                refine wl_pass (wantsN 4 103 false rfl (by kernel_rfl) rfl (by kernel_rfl)) rfl ?_
                refine wl_pure (wants0 rfl) (d := 106) (v := (.bool true)) rfl (by kernel_rfl) ?_
                refine wl_pure (wants0 rfl) (d := 107) (v := (.pointer (some ⟨b37, 0 + (K).toNat * 1, none⟩))) rfl (e_indexAddrA (E := 4) (N := 6) (by kernel_rfl) (by kernel_rfl) (Nat.le_of_ble_eq_true rfl) rfl rfl (by omega) (by omega)) ?_
                refine wl_do (wants0 rfl) (fun K135 hK135 => ?_)
                refine d_storeTr rfl H130 9 rfl rfl rfl (by kernel_rfl) (show 0 + (K).toNat * 1 = (K).toNat by omega) (show (K).toNat < 6 by omega) ?_
                intro w136 (H137 : Sat w [restC w (fun _ => False), cellC b2 31 ([(.int .i64 (1)), (.int .i64 (3))] : List Value), cellC b11 103 ([(.map (some m12))] : List Value), mapC m12 signedV (Value.int .i64) (marks B), cellC r13 96 ([(.slice none 0 0)] : List Value), cellC b20 52 ([(.pointer (some ⟨b11, 0, none⟩)), (.pointer (some ⟨r13, 0, none⟩))] : List Value), cellC r29 86 ([(.int .i64 (1)), (.int .i64 (3)), (.int .i64 (3)), (.map (some m30))] : List Value), mapC m30 (Value.int .i64) encX M127, denC M127, rowTr b37 55 6 (A.set (K).toNat true), rowTr b42 55 6 D, rowTr b47 55 6 T, rowC 5 1 (.slice (some ⟨b120, 0, none⟩) 1 1) 1 ([UInt8.ofNat (K).toNat].flatMap encB)] w136)
                refine hK135 _ _ ?_
                clear hK135 K135
                refine w_nil ?_
                refine blk_normal ?_
                have H138 : Sat w [restC w (fun _ => False), cellC b2 31 ([(.int .i64 (1)), (.int .i64 (3))] : List Value), cellC b11 103 ([(.map (some m12))] : List Value), mapC m12 signedV (Value.int .i64) (marks B), cellC r13 96 ([(.slice none 0 0)] : List Value), cellC b20 52 ([(.pointer (some ⟨b11, 0, none⟩)), (.pointer (some ⟨r13, 0, none⟩))] : List Value), cellC r29 86 ([(.int .i64 (1)), (.int .i64 (3)), (.int .i64 (3)), (.map (some m30))] : List Value), mapC m30 (Value.int .i64) encX M127, denC M127, rowTr b37 55 6 (A.set (K).toNat true), rowTr b42 55 6 D, rowTr b47 55 6 T] w136 := H137.pick [0, 1, 2, 3, 4, 5, 6, 7, 8, 9, 10, 11] (by decide)
                refine meetR_at ?_ ⟨M127, B, (A.set (K).toNat true), D, T, hP2.1, (hE.open R128 hK6.1 hK6n (by rw [b134]; rfl)), (by omega), (by omega), H138⟩
                exact (same_upd rfl (same_upd rfl (same_upd rfl (same_upd rfl (same_upd rfl (same_upd rfl (same_upd rfl (same_upd rfl (same_upd rfl (same_upd rfl (same_upd rfl (same_upd rfl (same_upd rfl (same_upd rfl (same_upd rfl (same_upd rfl (same_upd rfl (same_upd rfl (same_upd rfl (same_upd rfl (same_upd rfl (same_upd rfl (same_upd rfl (same_upd rfl (same_upd rfl (same_upd rfl (same_upd rfl (same_upd rfl (same_upd rfl (same_upd rfl (same_upd rfl (same_upd rfl (same_upd rfl (same_upd rfl (same_upd rfl (same_upd rfl (same_upd rfl (same_upd rfl (same_upd rfl (same_upd rfl (same_upd rfl (same_upd rfl (same_upd rfl (same_upd rfl (same_upd rfl (same_refl))))))))))))))))))))))))))))))))))))))))))))))
              · refine wl_know 103 (.bool false) (congrArg Value.bool b134) ?_
                refine wl_pure (wantsY 4 103 false rfl (by kernel_rfl) rfl (by kernel_rfl)) (d := 104) (v := (.int .i64 (c126))) rfl (by kernel_rfl) ?_
                refine wl_pure (wantsY 4 103 false rfl (by kernel_rfl) rfl (by kernel_rfl)) (d := 105) (v := (.bool (decide (c126 = 0)))) rfl (by kernel_rfl) ?_
                refine wl_pure (wants0 rfl) (d := 106) (v := (.bool (decide (c126 = 0)))) rfl (by kernel_rfl) ?_
                refine wl_pure (wants0 rfl) (d := 107) (v := (.pointer (some ⟨b37, 0 + (K).toNat * 1, none⟩))) rfl (e_indexAddrA (E := 4) (N := 6) (by kernel_rfl) (by kernel_rfl) (Nat.le_of_ble_eq_true rfl) rfl rfl (by omega) (by omega)) ?_
                refine wl_do (wants0 rfl) (fun K139 hK139 => ?_)
                refine d_storeTr rfl H130 9 rfl rfl rfl (by kernel_rfl) (show 0 + (K).toNat * 1 = (K).toNat by omega) (show (K).toNat < 6 by omega) ?_
                intro w140 (H141 : Sat w [restC w (fun _ => False), cellC b2 31 ([(.int .i64 (1)), (.int .i64 (3))] : List Value), cellC b11 103 ([(.map (some m12))] : List Value), mapC m12 signedV (Value.int .i64) (marks B), cellC r13 96 ([(.slice none 0 0)] : List Value), cellC b20 52 ([(.pointer (some ⟨b11, 0, none⟩)), (.pointer (some ⟨r13, 0, none⟩))] : List Value), cellC r29 86 ([(.int .i64 (1)), (.int .i64 (3)), (.int .i64 (3)), (.map (some m30))] : List Value), mapC m30 (Value.int .i64) encX M127, denC M127, rowTr b37 55 6 (A.set (K).toNat (decide (c126 = 0))), rowTr b42 55 6 D, rowTr b47 55 6 T, rowC 5 1 (.slice (some ⟨b120, 0, none⟩) 1 1) 1 ([UInt8.ofNat (K).toNat].flatMap encB)] w140)
                refine hK139 _ _ ?_
                clear hK139 K139
                refine w_nil ?_
                refine blk_normal ?_
                have H142 : Sat w [restC w (fun _ => False), cellC b2 31 ([(.int .i64 (1)), (.int .i64 (3))] : List Value), cellC b11 103 ([(.map (some m12))] : List Value), mapC m12 signedV (Value.int .i64) (marks B), cellC r13 96 ([(.slice none 0 0)] : List Value), cellC b20 52 ([(.pointer (some ⟨b11, 0, none⟩)), (.pointer (some ⟨r13, 0, none⟩))] : List Value), cellC r29 86 ([(.int .i64 (1)), (.int .i64 (3)), (.int .i64 (3)), (.map (some m30))] : List Value), mapC m30 (Value.int .i64) encX M127, denC M127, rowTr b37 55 6 (A.set (K).toNat (decide (c126 = 0))), rowTr b42 55 6 D, rowTr b47 55 6 T] w140 := H141.pick [0, 1, 2, 3, 4, 5, 6, 7, 8, 9, 10, 11] (by decide)
                refine meetR_at ?_ ⟨M127, B, (A.set (K).toNat (decide (c126 = 0))), D, T, hP2.1, (hE.open R128 hK6.1 hK6n (by rw [b134]; rfl)), (by omega), (by omega), H142⟩
                exact (same_upd rfl (same_upd rfl (same_upd rfl (same_upd rfl (same_upd rfl (same_upd rfl (same_upd rfl (same_upd rfl (same_upd rfl (same_upd rfl (same_upd rfl (same_upd rfl (same_upd rfl (same_upd rfl (same_upd rfl (same_upd rfl (same_upd rfl (same_upd rfl (same_upd rfl (same_upd rfl (same_upd rfl (same_upd rfl (same_upd rfl (same_upd rfl (same_upd rfl (same_upd rfl (same_upd rfl (same_upd rfl (same_upd rfl (same_upd rfl (same_upd rfl (same_upd rfl (same_upd rfl (same_upd rfl (same_upd rfl (same_upd rfl (same_upd rfl (same_upd rfl (same_upd rfl (same_upd rfl (same_upd rfl (same_upd rfl (same_upd rfl (same_upd rfl (same_upd rfl (same_refl))))))))))))))))))))))))))))))))))))))))))))))
            · refine wl_know 92 (.bool false) (congrArg Value.bool b131) ?_
              refine wl_pass (wantsN 5 92 true rfl (by kernel_rfl) rfl (by kernel_rfl)) rfl ?_
              refine wl_pass (wantsN 5 92 true rfl (by kernel_rfl) rfl (by kernel_rfl)) rfl ?_
              refine wl_pass (wantsN 5 92 true rfl (by kernel_rfl) rfl (by kernel_rfl)) rfl ?_
              refine wl_pass (wantsN 5 92 true rfl (by kernel_rfl) rfl (by kernel_rfl)) rfl ?_
              refine wl_pure (wants0 rfl) (d := 97) (v := (.bool false)) rfl (by kernel_rfl) ?_
              refine wl_pure (wants0 rfl) (d := 98) (v := (.bool (!((decide (c126 = 0)) == false)))) rfl (by kernel_rfl) ?_
              refine w_nil ?_
              refine then_normal ?_
              have b143 : (!((decide (c126 = 0)) == false)) = false := by rw [hcode, b131]; cases (D.getD K.toNat false) <;> rfl
              refine wp_know 98 (.bool false) (congrArg Value.bool b143) ?_
              have g144 := bnot_false b143
              refine wp_iff rfl ?_
              refine w_skip ?_
              refine then_normal ?_
              refine w_lit ?_
              refine wl_pure (wants0 rfl) (d := 99) (v := (.int .i64 (K))) rfl (by kernel_rfl) ?_
              refine wl_pure (wants0 rfl) (d := 100) (v := (.int .i64 (K))) rfl (by kernel_rfl) ?_
              refine wl_pure (wants0 rfl) (d := 101) (v := (.pointer (some ⟨b37, 0 + (K).toNat * 1, none⟩))) rfl (e_indexAddrA (E := 4) (N := 6) (by kernel_rfl) (by kernel_rfl) (Nat.le_of_ble_eq_true rfl) rfl rfl (by omega) (by omega)) ?_
              refine wl_pure (wants0 rfl) (d := 102) (v := (.bool (A.getD (K).toNat false))) rfl (e_load1 rfl (by kernel_rfl) (rowTr_cell (H130.at 9 rfl) (show (K).toNat < 6 by omega) (show 0 + (K).toNat * 1 = (K).toNat by omega))) ?_
              refine wl_pure (wants0 rfl) (d := 103) (v := (.bool (A.getD (K).toNat false))) rfl (by kernel_rfl) ?_
              refine (bsplit (A.getD (K).toNat false)).elim (fun b145 => ?_) (fun b145 => ?_)
              · refine wl_know 103 (.bool true) (congrArg Value.bool b145) ?_
                refine wl_pass (wantsN 4 103 false rfl (by kernel_rfl) rfl (by kernel_rfl)) rfl ?_
                refine wl_pass (wantsN 4 103 false rfl (by kernel_rfl) rfl (by kernel_rfl)) rfl ?_
                refine wl_pure (wants0 rfl) (d := 106) (v := (.bool true)) rfl (by kernel_rfl) ?_
                refine wl_pure (wants0 rfl) (d := 107) (v := (.pointer (some ⟨b37, 0 + (K).toNat * 1, none⟩))) rfl (e_indexAddrA (E := 4) (N := 6) (by kernel_rfl) (by kernel_rfl) (Nat.le_of_ble_eq_true rfl) rfl rfl (by omega) (by omega)) ?_
                refine wl_do (wants0 rfl) (fun K146 hK146 => ?_)
                refine d_storeTr rfl H130 9 rfl rfl rfl (by kernel_rfl) (show 0 + (K).toNat * 1 = (K).toNat by omega) (show (K).toNat < 6 by omega) ?_
                intro w147 (H148 : Sat w [restC w (fun _ => False), cellC b2 31 ([(.int .i64 (1)), (.int .i64 (3))] : List Value), cellC b11 103 ([(.map (some m12))] : List Value), mapC m12 signedV (Value.int .i64) (marks B), cellC r13 96 ([(.slice none 0 0)] : List Value), cellC b20 52 ([(.pointer (some ⟨b11, 0, none⟩)), (.pointer (some ⟨r13, 0, none⟩))] : List Value), cellC r29 86 ([(.int .i64 (1)), (.int .i64 (3)), (.int .i64 (3)), (.map (some m30))] : List Value), mapC m30 (Value.int .i64) encX M127, denC M127, rowTr b37 55 6 (A.set (K).toNat true), rowTr b42 55 6 D, rowTr b47 55 6 T, rowC 5 1 (.slice (some ⟨b120, 0, none⟩) 1 1) 1 ([UInt8.ofNat (K).toNat].flatMap encB)] w147)
                refine hK146 _ _ ?_
                clear hK146 K146
                refine w_nil ?_
                refine blk_normal ?_
                have H149 : Sat w [restC w (fun _ => False), cellC b2 31 ([(.int .i64 (1)), (.int .i64 (3))] : List Value), cellC b11 103 ([(.map (some m12))] : List Value), mapC m12 signedV (Value.int .i64) (marks B), cellC r13 96 ([(.slice none 0 0)] : List Value), cellC b20 52 ([(.pointer (some ⟨b11, 0, none⟩)), (.pointer (some ⟨r13, 0, none⟩))] : List Value), cellC r29 86 ([(.int .i64 (1)), (.int .i64 (3)), (.int .i64 (3)), (.map (some m30))] : List Value), mapC m30 (Value.int .i64) encX M127, denC M127, rowTr b37 55 6 (A.set (K).toNat true), rowTr b42 55 6 D, rowTr b47 55 6 T] w147 := H148.pick [0, 1, 2, 3, 4, 5, 6, 7, 8, 9, 10, 11] (by decide)
                refine meetR_at ?_ ⟨M127, B, (A.set (K).toNat true), D, T, hP2.1, (hE.open R128 hK6.1 hK6n (by rw [b145]; rfl)), (by omega), (by omega), H149⟩
                exact (same_upd rfl (same_upd rfl (same_upd rfl (same_upd rfl (same_upd rfl (same_upd rfl (same_upd rfl (same_upd rfl (same_upd rfl (same_upd rfl (same_upd rfl (same_upd rfl (same_upd rfl (same_upd rfl (same_upd rfl (same_upd rfl (same_upd rfl (same_upd rfl (same_upd rfl (same_upd rfl (same_upd rfl (same_upd rfl (same_upd rfl (same_upd rfl (same_upd rfl (same_upd rfl (same_upd rfl (same_upd rfl (same_upd rfl (same_upd rfl (same_upd rfl (same_upd rfl (same_upd rfl (same_upd rfl (same_upd rfl (same_upd rfl (same_upd rfl (same_upd rfl (same_upd rfl (same_upd rfl (same_upd rfl (same_upd rfl (same_upd rfl (same_upd rfl (same_upd rfl (same_refl))))))))))))))))))))))))))))))))))))))))))))))
              · refine wl_know 103 (.bool false) (congrArg Value.bool b145) ?_
                refine wl_pure (wantsY 4 103 false rfl (by kernel_rfl) rfl (by kernel_rfl)) (d := 104) (v := (.int .i64 (c126))) rfl (by kernel_rfl) ?_
                refine wl_pure (wantsY 4 103 false rfl (by kernel_rfl) rfl (by kernel_rfl)) (d := 105) (v := (.bool (decide (c126 = 0)))) rfl (by kernel_rfl) ?_
                refine wl_pure (wants0 rfl) (d := 106) (v := (.bool (decide (c126 = 0)))) rfl (by kernel_rfl) ?_
                refine wl_pure (wants0 rfl) (d := 107) (v := (.pointer (some ⟨b37, 0 + (K).toNat * 1, none⟩))) rfl (e_indexAddrA (E := 4) (N := 6) (by kernel_rfl) (by kernel_rfl) (Nat.le_of_ble_eq_true rfl) rfl rfl (by omega) (by omega)) ?_
                refine wl_do (wants0 rfl) (fun K150 hK150 => ?_)
                refine d_storeTr rfl H130 9 rfl rfl rfl (by kernel_rfl) (show 0 + (K).toNat * 1 = (K).toNat by omega) (show (K).toNat < 6 by omega) ?_
                intro w151 (H152 : Sat w [restC w (fun _ => False), cellC b2 31 ([(.int .i64 (1)), (.int .i64 (3))] : List Value), cellC b11 103 ([(.map (some m12))] : List Value), mapC m12 signedV (Value.int .i64) (marks B), cellC r13 96 ([(.slice none 0 0)] : List Value), cellC b20 52 ([(.pointer (some ⟨b11, 0, none⟩)), (.pointer (some ⟨r13, 0, none⟩))] : List Value), cellC r29 86 ([(.int .i64 (1)), (.int .i64 (3)), (.int .i64 (3)), (.map (some m30))] : List Value), mapC m30 (Value.int .i64) encX M127, denC M127, rowTr b37 55 6 (A.set (K).toNat (decide (c126 = 0))), rowTr b42 55 6 D, rowTr b47 55 6 T, rowC 5 1 (.slice (some ⟨b120, 0, none⟩) 1 1) 1 ([UInt8.ofNat (K).toNat].flatMap encB)] w151)
                refine hK150 _ _ ?_
                clear hK150 K150
                refine w_nil ?_
                refine blk_normal ?_
                have H153 : Sat w [restC w (fun _ => False), cellC b2 31 ([(.int .i64 (1)), (.int .i64 (3))] : List Value), cellC b11 103 ([(.map (some m12))] : List Value), mapC m12 signedV (Value.int .i64) (marks B), cellC r13 96 ([(.slice none 0 0)] : List Value), cellC b20 52 ([(.pointer (some ⟨b11, 0, none⟩)), (.pointer (some ⟨r13, 0, none⟩))] : List Value), cellC r29 86 ([(.int .i64 (1)), (.int .i64 (3)), (.int .i64 (3)), (.map (some m30))] : List Value), mapC m30 (Value.int .i64) encX M127, denC M127, rowTr b37 55 6 (A.set (K).toNat (decide (c126 = 0))), rowTr b42 55 6 D, rowTr b47 55 6 T] w151 := H152.pick [0, 1, 2, 3, 4, 5, 6, 7, 8, 9, 10, 11] (by decide)
                refine meetR_at ?_ ⟨M127, B, (A.set (K).toNat (decide (c126 = 0))), D, T, hP2.1, (hE.open R128 hK6.1 hK6n (by rw [b145]; rfl)), (by omega), (by omega), H153⟩
                exact (same_upd rfl (same_upd rfl (same_upd rfl (same_upd rfl (same_upd rfl (same_upd rfl (same_upd rfl (same_upd rfl (same_upd rfl (same_upd rfl (same_upd rfl (same_upd rfl (same_upd rfl (same_upd rfl (same_upd rfl (same_upd rfl (same_upd rfl (same_upd rfl (same_upd rfl (same_upd rfl (same_upd rfl (same_upd rfl (same_upd rfl (same_upd rfl (same_upd rfl (same_upd rfl (same_upd rfl (same_upd rfl (same_upd rfl (same_upd rfl (same_upd rfl (same_upd rfl (same_upd rfl (same_upd rfl (same_upd rfl (same_upd rfl (same_upd rfl (same_upd rfl (same_upd rfl (same_upd rfl (same_upd rfl (same_upd rfl (same_upd rfl (same_upd rfl (same_upd rfl (same_refl))))))))))))))))))))))))))))))))))))))))))))))
          · have g154 := of_decide_eq_false b116
            refine wp_know 76 (.bool false) (congrArg Value.bool b116) ?_
            have g155 := of_decide_eq_false b116
            refine wp_iff rfl ?_
            refine w_seq ?_
            refine w_seq ?_
            refine w_lit ?_
            refine wl_pure (wants0 rfl) (d := 109) (v := (.bool (decide ((withinV ((acts.getD i ac0).d) 9) = 4)))) rfl (by kernel_rfl) ?_
            refine wl_pure (wants0 rfl) (d := 108) (v := (.bool (decide ((withinV ((acts.getD i ac0).d) 9) = 4)))) rfl (by kernel_rfl) ?_
            refine w_nil ?_
            refine then_normal ?_
            refine (bsplit (decide ((withinV ((acts.getD i ac0).d) 9) = 4))).elim (fun b156 => ?_) (fun b156 => ?_)
            · have g157 := of_decide_eq_true b156
              refine wp_know 108 (.bool true) (congrArg Value.bool b156) ?_
              have g158 := of_decide_eq_true b156
              refine wp_ift rfl ?_
              refine w_skip ?_
              refine then_normal ?_
              refine wp_ift rfl ?_
              refine w_seq ?_
              refine h_start H74 [restC w (fun _ => False), cellC b2 31 ([(.int .i64 (1)), (.int .i64 (3))] : List Value), cellC b11 103 ([(.map (some m12))] : List Value), cellC r13 96 ([(.slice none 0 0)] : List Value), cellC b20 52 ([(.pointer (some ⟨b11, 0, none⟩)), (.pointer (some ⟨r13, 0, none⟩))] : List Value), cellC r29 86 ([(.int .i64 (1)), (.int .i64 (3)), (.int .i64 (3)), (.map (some m30))] : List Value), rowTr b37 55 6 A, rowTr b42 55 6 D, rowTr b47 55 6 T] 12 rfl (by kernel_rfl) (fun Hx => (Hx.pick [0, 1, 2, 4, 5, 6, 9, 10, 11] (by decide))) ?_
              intro w159 H160 S161
              refine h_val 0 rfl (by kernel_rfl) (by kernel_rfl) (by kernel_rfl) (fun _ _ _ h => h) S161 (wants0 rfl) (d := 111) (v := (.pointer (some ⟨r29, 0, none⟩))) rfl (fun _ H' => (by kernel_rfl)) ?_
              refine h_val 1 rfl (by kernel_rfl) (by kernel_rfl) (by kernel_rfl) (fun _ _ _ h => h) S161 (wants0 rfl) (d := 112) (v := (.pointer (some ⟨b20, 0, none⟩))) rfl (fun _ H' => (by kernel_rfl)) ?_
              refine h_val 2 rfl (by kernel_rfl) (by kernel_rfl) (by kernel_rfl) (fun _ _ _ h => h) S161 (wants0 rfl) (d := 113) (v := (.pointer (some ⟨b11, 0, none⟩))) rfl (fun _ H' => (e_load1 rfl (by kernel_rfl) (H'.cell 4 rfl rfl))) ?_
              refine h_val 3 rfl (by kernel_rfl) (by kernel_rfl) (by kernel_rfl) (fun _ _ _ h => h) S161 (wants0 rfl) (d := 114) (v := (.slice va acts.length vc)) rfl (fun _ H' => (by kernel_rfl)) ?_
              refine h_val 4 rfl (by kernel_rfl) (by kernel_rfl) (by kernel_rfl) (fun _ _ _ h => h) S161 (wants0 rfl) (d := 115) (v := (.int .i64 ((i : Int)))) rfl (fun _ H' => (by kernel_rfl)) ?_
              refine h_val 5 rfl (by kernel_rfl) (by kernel_rfl) (by kernel_rfl) (fun _ _ _ h => h) S161 (wants0 rfl) (d := 116) (v := (.pointer (some ⟨g62, o63 + ((i : Int)).toNat * 5, none⟩))) rfl (fun _ H' => (e_indexAddrW (E := 57) (by kernel_rfl) (by kernel_rfl) (Nat.le_of_ble_eq_true rfl) rfl e65 rfl (by omega) (by omega))) ?_
              refine h_val 6 rfl (by kernel_rfl) (by kernel_rfl) (by kernel_rfl) (fun _ _ _ h => h) S161 (wants0 rfl) (d := 117) (v := (.pointer (some ⟨g62, o63 + ((i : Int)).toNat * 5 + 4, none⟩))) rfl (fun _ H' => (by kernel_rfl)) ?_
              refine h_val 7 rfl (by kernel_rfl) (by kernel_rfl) (by kernel_rfl) (fun _ _ _ h => h) S161 (wants0 rfl) (d := 118) (v := (.int .u64 ((acts.getD i ac0).t))) rfl (fun _ H' => (e_load1 rfl (by kernel_rfl) (H'.cellR 0 rfl (cells_at R66 4 (by kernel_rfl) (show o63 + ((i : Int)).toNat * 5 + 4 = o63 + i * 5 + 4 by omega)) (fun h => h)))) ?_
              refine h_val 8 rfl (by kernel_rfl) (by kernel_rfl) (by kernel_rfl) (fun _ _ _ h => h) S161 (wants0 rfl) (d := 119) (v := (.int .u64 (((acts.getD i ac0).t) % 100))) rfl (fun _ H' => (e_rem (by kernel_rfl) (by omega) (by omega))) ?_
              refine h_val 11 rfl (by kernel_rfl) (by kernel_rfl) (by kernel_rfl) (fun _ _ _ h => h) S161 (wants0 rfl) (d := 122) (v := (.int .i64 (0))) rfl (fun _ H' => (by kernel_rfl)) ?_
              refine h_do 9 rfl (by kernel_rfl) (wants0 rfl) (fun K162 hK162 => ?_)
              refine d_call (d := 120) rfl (by kernel_rfl) (rvDue_any w159 r29 m30 1 3 3 L b11 m12 B (H160.fin [6, 7, 8, 2, 3] (by decide) rfl) (by omega) (hP.i64 (by decide)) hP.nd hP.since (by decide) (((acts.getD i ac0).t) % 100) (by omega) (by omega)) ?_
              rintro _ w163 ⟨M164, N165, a166, c167, O168, rfl, R169, n170, T171⟩
              have H172 : Sat w [restC w (fun _ => False), cellC b2 31 ([(.int .i64 (1)), (.int .i64 (3))] : List Value), cellC b11 103 ([(.map (some m12))] : List Value), mapC m12 signedV (Value.int .i64) (marks N165), cellC r13 96 ([(.slice none 0 0)] : List Value), cellC b20 52 ([(.pointer (some ⟨b11, 0, none⟩)), (.pointer (some ⟨r13, 0, none⟩))] : List Value), cellC r29 86 ([(.int .i64 (1)), (.int .i64 (3)), (.int .i64 (3)), (.map (some m30))] : List Value), mapC m30 (Value.int .i64) encX M164, denC M164, rowTr b37 55 6 A, rowTr b42 55 6 D, rowTr b47 55 6 T, rowC 63 4 (.slice a166 O168.length c167) O168.length (O168.flatMap encDn)] w163 := (Sat.turnL (L' := [cellC r29 86 ([(.int .i64 (1)), (.int .i64 (3)), (.int .i64 (3)), (.map (some m30))] : List Value), mapC m30 (Value.int .i64) encX M164, denC M164, cellC b11 103 ([(.map (some m12))] : List Value), mapC m12 signedV (Value.int .i64) (marks N165), rowC 63 4 (.slice a166 O168.length c167) O168.length (O168.flatMap encDn)]) (R := [restC w (fun _ => False), cellC b2 31 ([(.int .i64 (1)), (.int .i64 (3))] : List Value), cellC r13 96 ([(.slice none 0 0)] : List Value), cellC b20 52 ([(.pointer (some ⟨b11, 0, none⟩)), (.pointer (some ⟨r13, 0, none⟩))] : List Value), rowTr b37 55 6 A, rowTr b42 55 6 D, rowTr b47 55 6 T]) H160 [6, 7, 8, 2, 3] [0, 1, 4, 5, 9, 10, 11] (by decide) (by kernel_rfl) rfl T171).pick [6, 7, 3, 4, 8, 9, 0, 1, 2, 10, 11, 12, 5] (by decide)
              refine ⟨_, rfl, ?_⟩
              have hP2 := hP.due R169
              have hl2 := R169.len
              have ho2 := R169.olen
              have S173 := H172.pick [0, 1, 2, 4, 5, 6, 9, 10, 11] (by decide)
              refine hK162 _ _ S173 ?_
              clear hK162 K162
              refine h_val 10 rfl (by kernel_rfl) (by kernel_rfl) (by kernel_rfl) (fun _ _ _ h => h) S173 (wants0 rfl) (d := 121) (v := (.int .i64 ((O168.length : Int)))) rfl (fun _ H' => (by kernel_rfl)) ?_
              refine h_fin (by kernel_rfl) ?_
              refine then_normal ?_
              refine w_block ?_
              refine wp_round [2, 15, 122, 123, 124, 125, 126, 127, 128, 129, 130, 131, 132, 133, 134, 135, 136, 137, 138, 139, 140, 141, 142, 143, 144, 145, 146, 147, 148, 149, 150, 151, 152, 153, 154, 155, 156, 157, 158, 159, 160, 161] (fun F_ W_ m_ => ∃ (m : Nat) (E : List Bool), F_ 122 = (.int .i64 ((m : Int))) ∧ (m ≤ O168.length) ∧ (DuI 6 L M164 O168 A E T m) ∧ Sat w [restC w (fun _ => False), cellC b2 31 ([(.int .i64 (1)), (.int .i64 (3))] : List Value), cellC b11 103 ([(.map (some m12))] : List Value), mapC m12 signedV (Value.int .i64) (marks N165), cellC r13 96 ([(.slice none 0 0)] : List Value), cellC b20 52 ([(.pointer (some ⟨b11, 0, none⟩)), (.pointer (some ⟨r13, 0, none⟩))] : List Value), cellC r29 86 ([(.int .i64 (1)), (.int .i64 (3)), (.int .i64 (3)), (.map (some m30))] : List Value), mapC m30 (Value.int .i64) encX M164, denC M164, rowTr b37 55 6 A, rowTr b42 55 6 E, rowTr b47 55 6 T, rowC 63 4 (.slice a166 O168.length c167) O168.length (O168.flatMap encDn)] W_ ∧ m_ = O168.length - m) _ ⟨0, D, (show ((.int .i64 (0)) : Value) = _ by first | rfl | go_num), (Nat.zero_le _), (DuI.start hE), H172, rfl⟩ ?_
              rintro g174 w175 _ ⟨m, E, v177, hm, hU, H176, rfl⟩
              refine wp_know 122 _ v177 ?_
              refine w_seq ?_
              refine w_lit ?_
              refine wl_pure (wants0 rfl) (d := 123) (v := (.bool (decide ((m : Int) < (O168.length : Int))))) rfl (by kernel_rfl) ?_
              refine w_nil ?_
              refine then_normal ?_
              refine w_seq ?_
              refine (bsplit (decide ((m : Int) < (O168.length : Int)))).elim (fun b179 => ?_) (fun b179 => ?_)
              · have g180 := of_decide_eq_true b179
                refine wp_know 123 (.bool true) (congrArg Value.bool b179) ?_
                have g181 := of_decide_eq_true b179
                refine wp_ift rfl ?_
                refine w_skip ?_
                refine then_normal ?_
                refine w_seq ?_
                refine w_block ?_
                refine w_seq ?_
                refine w_lit ?_
                obtain ⟨g182, c183, e184⟩ := row_shape (H176.at 12 rfl) (by omega)
                obtain ⟨x185, h186⟩ := get_at (show m < O168.length by omega)
                refine wl_pure (wants0 rfl) (d := 124) (v := (.pointer (some ⟨g182, 0 + ((m : Int)).toNat * 4, none⟩))) rfl (e_indexAddrV (E := 63) (by kernel_rfl) (by kernel_rfl) (Nat.le_of_ble_eq_true rfl) rfl e184 rfl (by omega) (by omega)) ?_
                refine wl_pure (wants0 rfl) (d := 125) (v := (.agg ⟨([(.int .i64 (x185.r)), (.int .i64 (x185.i)), (.int .i64 (x185.sb)), (.int .i64 (x185.sm))] : List Value)⟩)) rfl (e_loadRun (vs := ([(.int .i64 (x185.r)), (.int .i64 (x185.i)), (.int .i64 (x185.sb)), (.int .i64 (x185.sm))] : List Value)) rfl (by kernel_rfl) (by kernel_rfl) (Nat.le_of_ble_eq_true (by kernel_rfl)) (rows_run (H176.at 12 rfl) e184 encDn_len h186 0 (show 0 + ((m : Int)).toNat * 4 = m * 4 + 0 by omega) (by kernel_rfl) (by kernel_rfl))) ?_
                refine wl_do (wants0 rfl) (fun K187 hK187 => ?_)
                refine d_alloc (zs := ([(.int .i64 (0)), (.int .i64 (0)), (.int .i64 (0)), (.int .i64 (0))] : List Value)) (z := (.agg ⟨([(.int .i64 (0)), (.int .i64 (0)), (.int .i64 (0)), (.int .i64 (0))] : List Value)⟩)) rfl H176 (by kernel_rfl) (by kernel_rfl) ?_
                intro b188 w189 (H190 : Sat w [restC w (fun _ => False), cellC b2 31 ([(.int .i64 (1)), (.int .i64 (3))] : List Value), cellC b11 103 ([(.map (some m12))] : List Value), mapC m12 signedV (Value.int .i64) (marks N165), cellC r13 96 ([(.slice none 0 0)] : List Value), cellC b20 52 ([(.pointer (some ⟨b11, 0, none⟩)), (.pointer (some ⟨r13, 0, none⟩))] : List Value), cellC r29 86 ([(.int .i64 (1)), (.int .i64 (3)), (.int .i64 (3)), (.map (some m30))] : List Value), mapC m30 (Value.int .i64) encX M164, denC M164, rowTr b37 55 6 A, rowTr b42 55 6 E, rowTr b47 55 6 T, rowC 63 4 (.slice a166 O168.length c167) O168.length (O168.flatMap encDn), cellC b188 63 ([(.int .i64 (0)), (.int .i64 (0)), (.int .i64 (0)), (.int .i64 (0))] : List Value)] w189)
                refine hK187 _ _ ?_
                clear hK187 K187
                refine wl_do (wants0 rfl) (fun K191 hK191 => ?_)
                refine d_storeX (vs := ([(.int .i64 (x185.r)), (.int .i64 (x185.i)), (.int .i64 (x185.sb)), (.int .i64 (x185.sm))] : List Value)) (cs' := ([(.int .i64 (x185.r)), (.int .i64 (x185.i)), (.int .i64 (x185.sb)), (.int .i64 (x185.sm))] : List Value)) rfl H190 13 rfl rfl rfl rfl (by kernel_rfl) (Nat.le_of_ble_eq_true (by kernel_rfl)) (Nat.le_of_ble_eq_true (by kernel_rfl)) (by kernel_rfl) (by kernel_rfl) ?_
                intro w192 (H193 : Sat w [restC w (fun _ => False), cellC b2 31 ([(.int .i64 (1)), (.int .i64 (3))] : List Value), cellC b11 103 ([(.map (some m12))] : List Value), mapC m12 signedV (Value.int .i64) (marks N165), cellC r13 96 ([(.slice none 0 0)] : List Value), cellC b20 52 ([(.pointer (some ⟨b11, 0, none⟩)), (.pointer (some ⟨r13, 0, none⟩))] : List Value), cellC r29 86 ([(.int .i64 (1)), (.int .i64 (3)), (.int .i64 (3)), (.map (some m30))] : List Value), mapC m30 (Value.int .i64) encX M164, denC M164, rowTr b37 55 6 A, rowTr b42 55 6 E, rowTr b47 55 6 T, rowC 63 4 (.slice a166 O168.length c167) O168.length (O168.flatMap encDn), cellC b188 63 ([(.int .i64 (x185.r)), (.int .i64 (x185.i)), (.int .i64 (x185.sb)), (.int .i64 (x185.sm))] : List Value)] w192)
                refine hK191 _ _ ?_
                clear hK191 K191
                refine w_nil ?_
                refine then_normal ?_
                refine w_seq ?_
                refine w_seq ?_
                obtain ⟨⟨hx0, hx6⟩, hxr, hxa, hxd, hxt, hxn⟩ := R169.at hP h186
                refine w_lit ?_
                refine wl_pure (wants0 rfl) (d := 126) (v := (.pointer (some ⟨b188, 1, none⟩))) rfl (by kernel_rfl) ?_
                refine wl_pure (wants0 rfl) (d := 127) (v := (.int .i64 (x185.i))) rfl (e_load1 rfl (by kernel_rfl) (H193.cell 13 rfl rfl)) ?_
                refine wl_pure (wants0 rfl) (d := 128) (v := (.bool (decide (x185.i < 0)))) rfl (by kernel_rfl) ?_
                refine wl_pure (wants0 rfl) (d := 129) (v := (.bool (decide (x185.i < 0)))) rfl (by kernel_rfl) ?_
                have b195 : (decide (x185.i < 0)) = false := by exact decide_eq_false (by omega)
                refine wl_know 129 (.bool false) (congrArg Value.bool b195) ?_
                have g196 := of_decide_eq_false b195
                refine wl_pure (wantsY 3 129 false rfl (by kernel_rfl) rfl (by kernel_rfl)) (d := 130) (v := (.pointer (some ⟨b188, 1, none⟩))) rfl (by kernel_rfl) ?_
                refine wl_pure (wantsY 3 129 false rfl (by kernel_rfl) rfl (by kernel_rfl)) (d := 131) (v := (.int .i64 (x185.i))) rfl (e_load1 rfl (by kernel_rfl) (H193.cell 13 rfl rfl)) ?_
                refine wl_pure (wantsY 3 129 false rfl (by kernel_rfl) rfl (by kernel_rfl)) (d := 132) (v := (.bool (decide (x185.i > 5)))) rfl (by kernel_rfl) ?_
                refine wl_pure (wants0 rfl) (d := 133) (v := (.bool (decide (x185.i > 5)))) rfl (by kernel_rfl) ?_
                refine wl_pure (wants0 rfl) (d := 134) (v := (.bool (decide (x185.i > 5)))) rfl (by kernel_rfl) ?_
                have b197 : (decide (x185.i > 5)) = false := by exact decide_eq_false (by omega)
                refine wl_know 134 (.bool false) (congrArg Value.bool b197) ?_
                have g198 := of_decide_eq_false b197
                refine wl_pure (wantsY 8 134 false rfl (by kernel_rfl) rfl (by kernel_rfl)) (d := 135) (v := (.pointer (some ⟨b188, 1, none⟩))) rfl (by kernel_rfl) ?_
                refine wl_pure (wantsY 8 134 false rfl (by kernel_rfl) rfl (by kernel_rfl)) (d := 136) (v := (.int .i64 (x185.i))) rfl (e_load1 rfl (by kernel_rfl) (H193.cell 13 rfl rfl)) ?_
                refine wl_pure (wantsY 8 134 false rfl (by kernel_rfl) rfl (by kernel_rfl)) (d := 137) (v := (.pointer (some ⟨b37, 0 + (x185.i).toNat * 1, none⟩))) rfl (e_indexAddrA (E := 4) (N := 6) (by kernel_rfl) (by kernel_rfl) (Nat.le_of_ble_eq_true rfl) rfl rfl (by omega) (by omega)) ?_
                refine wl_pure (wantsY 8 134 false rfl (by kernel_rfl) rfl (by kernel_rfl)) (d := 138) (v := (.bool (A.getD (x185.i).toNat false))) rfl (e_load1 rfl (by kernel_rfl) (rowTr_cell (H193.at 9 rfl) (show (x185.i).toNat < 6 by omega) (show 0 + (x185.i).toNat * 1 = (x185.i).toNat by omega))) ?_
                refine wl_pure (wants0 rfl) (d := 139) (v := (.bool (A.getD (x185.i).toNat false))) rfl (by kernel_rfl) ?_
                refine wl_pure (wants0 rfl) (d := 140) (v := (.bool (A.getD (x185.i).toNat false))) rfl (by kernel_rfl) ?_
                have b199 : (A.getD (x185.i).toNat false) = false := by (rw [hU.a.at hx0 hx6]; exact hxa)
                refine wl_know 140 (.bool false) (congrArg Value.bool b199) ?_
                refine wl_pure (wantsY 14 140 false rfl (by kernel_rfl) rfl (by kernel_rfl)) (d := 141) (v := (.pointer (some ⟨b188, 1, none⟩))) rfl (by kernel_rfl) ?_
                refine wl_pure (wantsY 14 140 false rfl (by kernel_rfl) rfl (by kernel_rfl)) (d := 142) (v := (.int .i64 (x185.i))) rfl (e_load1 rfl (by kernel_rfl) (H193.cell 13 rfl rfl)) ?_
                refine wl_pure (wantsY 14 140 false rfl (by kernel_rfl) rfl (by kernel_rfl)) (d := 143) (v := (.pointer (some ⟨b42, 0 + (x185.i).toNat * 1, none⟩))) rfl (e_indexAddrA (E := 4) (N := 6) (by kernel_rfl) (by kernel_rfl) (Nat.le_of_ble_eq_true rfl) rfl rfl (by omega) (by omega)) ?_
                refine wl_pure (wantsY 14 140 false rfl (by kernel_rfl) rfl (by kernel_rfl)) (d := 144) (v := (.bool (E.getD (x185.i).toNat false))) rfl (e_load1 rfl (by kernel_rfl) (rowTr_cell (H193.at 10 rfl) (show (x185.i).toNat < 6 by omega) (show 0 + (x185.i).toNat * 1 = (x185.i).toNat by omega))) ?_
                refine wl_pure (wants0 rfl) (d := 145) (v := (.bool (E.getD (x185.i).toNat false))) rfl (by kernel_rfl) ?_
                refine wl_pure (wants0 rfl) (d := 146) (v := (.bool (E.getD (x185.i).toNat false))) rfl (by kernel_rfl) ?_
                have b200 : (E.getD (x185.i).toNat false) = false := by (rw [hU.d.at hx0 hx6]; simp only [hxd, decide_eq_false hxn]; rfl)
                refine wl_know 146 (.bool false) (congrArg Value.bool b200) ?_
                refine wl_pure (wantsY 20 146 false rfl (by kernel_rfl) rfl (by kernel_rfl)) (d := 147) (v := (.pointer (some ⟨b188, 1, none⟩))) rfl (by kernel_rfl) ?_
                refine wl_pure (wantsY 20 146 false rfl (by kernel_rfl) rfl (by kernel_rfl)) (d := 148) (v := (.int .i64 (x185.i))) rfl (e_load1 rfl (by kernel_rfl) (H193.cell 13 rfl rfl)) ?_
                refine wl_pure (wantsY 20 146 false rfl (by kernel_rfl) rfl (by kernel_rfl)) (d := 149) (v := (.pointer (some ⟨b47, 0 + (x185.i).toNat * 1, none⟩))) rfl (e_indexAddrA (E := 4) (N := 6) (by kernel_rfl) (by kernel_rfl) (Nat.le_of_ble_eq_true rfl) rfl rfl (by omega) (by omega)) ?_
                refine wl_pure (wantsY 20 146 false rfl (by kernel_rfl) rfl (by kernel_rfl)) (d := 150) (v := (.bool (T.getD (x185.i).toNat false))) rfl (e_load1 rfl (by kernel_rfl) (rowTr_cell (H193.at 11 rfl) (show (x185.i).toNat < 6 by omega) (show 0 + (x185.i).toNat * 1 = (x185.i).toNat by omega))) ?_
                refine wl_pure (wantsY 20 146 false rfl (by kernel_rfl) rfl (by kernel_rfl)) (d := 151) (v := (.bool (!(T.getD (x185.i).toNat false)))) rfl (by kernel_rfl) ?_
                refine wl_pure (wants0 rfl) (d := 152) (v := (.bool (!(T.getD (x185.i).toNat false)))) rfl (by kernel_rfl) ?_
                refine wl_pure (wants0 rfl) (d := 153) (v := (.bool (!(T.getD (x185.i).toNat false)))) rfl (by kernel_rfl) ?_
                have b201 : (!(T.getD (x185.i).toNat false)) = false := by (rw [hU.t.at hx0 hx6, hxt]; rfl)
                refine wl_know 153 (.bool false) (congrArg Value.bool b201) ?_
                have g202 := bnot_false b201
                refine wl_pure (wantsY 27 153 false rfl (by kernel_rfl) rfl (by kernel_rfl)) (d := 154) (v := (.pointer (some ⟨b188, 0, none⟩))) rfl (by kernel_rfl) ?_
                refine wl_pure (wantsY 27 153 false rfl (by kernel_rfl) rfl (by kernel_rfl)) (d := 155) (v := (.int .i64 (x185.r))) rfl (e_load1 rfl (by kernel_rfl) (H193.cell 13 rfl rfl)) ?_
                refine wl_pure (wantsY 27 153 false rfl (by kernel_rfl) rfl (by kernel_rfl)) (d := 156) (v := (.bool (!(decide (x185.r = 3))))) rfl (by kernel_rfl) ?_
                refine wl_pure (wants0 rfl) (d := 157) (v := (.bool (!(decide (x185.r = 3))))) rfl (by kernel_rfl) ?_
                refine w_nil ?_
                refine then_normal ?_
                have b203 : (!(decide (x185.r = 3))) = false := by (rw [decide_eq_true hxr]; rfl)
                refine wp_know 157 (.bool false) (congrArg Value.bool b203) ?_
                have g204 := bnot_false b203
                have g205 := of_decide_eq_true g204
                refine wp_iff rfl ?_
                refine w_skip ?_
                refine then_normal ?_
                refine w_lit ?_
                refine wl_pure (wants0 rfl) (d := 158) (v := (.pointer (some ⟨b188, 1, none⟩))) rfl (by kernel_rfl) ?_
                refine wl_pure (wants0 rfl) (d := 159) (v := (.int .i64 (x185.i))) rfl (e_load1 rfl (by kernel_rfl) (H193.cell 13 rfl rfl)) ?_
                refine wl_pure (wants0 rfl) (d := 160) (v := (.pointer (some ⟨b42, 0 + (x185.i).toNat * 1, none⟩))) rfl (e_indexAddrA (E := 4) (N := 6) (by kernel_rfl) (by kernel_rfl) (Nat.le_of_ble_eq_true rfl) rfl rfl (by omega) (by omega)) ?_
                refine wl_do (wants0 rfl) (fun K206 hK206 => ?_)
                refine d_storeTr rfl H193 10 rfl rfl rfl (by kernel_rfl) (show 0 + (x185.i).toNat * 1 = (x185.i).toNat by omega) (show (x185.i).toNat < 6 by omega) ?_
                intro w207 (H208 : Sat w [restC w (fun _ => False), cellC b2 31 ([(.int .i64 (1)), (.int .i64 (3))] : List Value), cellC b11 103 ([(.map (some m12))] : List Value), mapC m12 signedV (Value.int .i64) (marks N165), cellC r13 96 ([(.slice none 0 0)] : List Value), cellC b20 52 ([(.pointer (some ⟨b11, 0, none⟩)), (.pointer (some ⟨r13, 0, none⟩))] : List Value), cellC r29 86 ([(.int .i64 (1)), (.int .i64 (3)), (.int .i64 (3)), (.map (some m30))] : List Value), mapC m30 (Value.int .i64) encX M164, denC M164, rowTr b37 55 6 A, rowTr b42 55 6 (E.set (x185.i).toNat true), rowTr b47 55 6 T, rowC 63 4 (.slice a166 O168.length c167) O168.length (O168.flatMap encDn), cellC b188 63 ([(.int .i64 (x185.r)), (.int .i64 (x185.i)), (.int .i64 (x185.sb)), (.int .i64 (x185.sm))] : List Value)] w207)
                refine hK206 _ _ ?_
                clear hK206 K206
                refine w_nil ?_
                refine blk_normal ?_
                refine then_normal ?_
                refine w_lit ?_
                refine wl_pure (wants0 rfl) (d := 161) (v := (.int .i64 ((m : Int) + 1))) rfl (e_int (z := (m : Int) + 1) (by kernel_rfl) (IntWalk.i64_in _ (by omega))) ?_
                refine wl_pure (wants0 rfl) (d := 122) (v := (.int .i64 ((m : Int) + 1))) rfl (by kernel_rfl) ?_
                refine w_nil ?_
                have H209 : Sat w [restC w (fun _ => False), cellC b2 31 ([(.int .i64 (1)), (.int .i64 (3))] : List Value), cellC b11 103 ([(.map (some m12))] : List Value), mapC m12 signedV (Value.int .i64) (marks N165), cellC r13 96 ([(.slice none 0 0)] : List Value), cellC b20 52 ([(.pointer (some ⟨b11, 0, none⟩)), (.pointer (some ⟨r13, 0, none⟩))] : List Value), cellC r29 86 ([(.int .i64 (1)), (.int .i64 (3)), (.int .i64 (3)), (.map (some m30))] : List Value), mapC m30 (Value.int .i64) encX M164, denC M164, rowTr b37 55 6 A, rowTr b42 55 6 (E.set (x185.i).toNat true), rowTr b47 55 6 T, rowC 63 4 (.slice a166 O168.length c167) O168.length (O168.flatMap encDn)] w207 := H208.pick [0, 1, 2, 3, 4, 5, 6, 7, 8, 9, 10, 11, 12] (by decide)
                refine round_back ?_ _ ⟨(m + 1), (E.set (x185.i).toNat true), (show ((.int .i64 ((m : Int) + 1)) : Value) = _ by first | rfl | go_num), (by omega), (hU.step h186 hx0 hx6), H209, rfl⟩ (by omega)
                exact (same_upd rfl (same_upd rfl (same_upd rfl (same_upd rfl (same_upd rfl (same_upd rfl (same_upd rfl (same_upd rfl (same_upd rfl (same_upd rfl (same_upd rfl (same_upd rfl (same_upd rfl (same_upd rfl (same_upd rfl (same_upd rfl (same_upd rfl (same_upd rfl (same_upd rfl (same_upd rfl (same_upd rfl (same_upd rfl (same_upd rfl (same_upd rfl (same_upd rfl (same_upd rfl (same_upd rfl (same_upd rfl (same_upd rfl (same_upd rfl (same_upd rfl (same_upd rfl (same_upd rfl (same_upd rfl (same_upd rfl (same_upd rfl (same_upd rfl (same_upd rfl (same_upd rfl (same_upd rfl (same_upd rfl (same_upd rfl (same_upd rfl (same_upd rfl (same_upd rfl (same_upd rfl (same_upd rfl (same_upd rfl (same_upd rfl (same_ovr))))))))))))))))))))))))))))))))))))))))))))))))))
              · have g210 := of_decide_eq_false b179
                refine wp_know 123 (.bool false) (congrArg Value.bool b179) ?_
                have g211 := of_decide_eq_false b179
                refine wp_iff rfl ?_
                refine w_exit ?_
                refine then_exit ?_
                refine back_exit ?_
                refine blk_hit ?_
                refine blk_normal ?_
                have H212 : Sat w [restC w (fun _ => False), cellC b2 31 ([(.int .i64 (1)), (.int .i64 (3))] : List Value), cellC b11 103 ([(.map (some m12))] : List Value), mapC m12 signedV (Value.int .i64) (marks N165), cellC r13 96 ([(.slice none 0 0)] : List Value), cellC b20 52 ([(.pointer (some ⟨b11, 0, none⟩)), (.pointer (some ⟨r13, 0, none⟩))] : List Value), cellC r29 86 ([(.int .i64 (1)), (.int .i64 (3)), (.int .i64 (3)), (.map (some m30))] : List Value), mapC m30 (Value.int .i64) encX M164, denC M164, rowTr b37 55 6 A, rowTr b42 55 6 E, rowTr b47 55 6 T] w175 := H176.pick [0, 1, 2, 3, 4, 5, 6, 7, 8, 9, 10, 11] (by decide)
                refine meetR_at ?_ ⟨M164, N165, A, E, T, hP2, (DuI.fin (by have q : m = O168.length := (by omega); rw [q] at hU; exact hU) R169), (by omega), (by omega), H212⟩
                exact (same_upd rfl (same_upd rfl (same_upd rfl (same_ovr2 rfl (same_upd rfl (same_upd rfl (same_upd rfl (same_upd rfl (same_upd rfl (same_upd rfl (same_upd rfl (same_upd rfl (same_upd rfl (same_upd rfl (same_upd rfl (same_upd rfl (same_upd rfl (same_upd rfl (same_upd rfl (same_upd rfl (same_upd rfl (same_upd rfl (same_upd rfl (same_upd rfl (same_upd rfl (same_upd rfl (same_upd rfl (same_upd rfl (same_upd rfl (same_upd rfl (same_upd rfl (same_refl))))))))))))))))))))))))))))))))
            · have g213 := of_decide_eq_false b156
              refine wp_know 108 (.bool false) (congrArg Value.bool b156) ?_
              have g214 := of_decide_eq_false b156
              refine wp_iff rfl ?_
              refine w_lit ?_
              refine wl_pure (wants0 rfl) (d := 110) (v := (.bool (decide ((withinV ((acts.getD i ac0).d) 9) = 5)))) rfl (by kernel_rfl) ?_
              refine wl_pure (wants0 rfl) (d := 108) (v := (.bool (decide ((withinV ((acts.getD i ac0).d) 9) = 5)))) rfl (by kernel_rfl) ?_
              refine w_nil ?_
              refine then_normal ?_
              refine (bsplit (decide ((withinV ((acts.getD i ac0).d) 9) = 5))).elim (fun b215 => ?_) (fun b215 => ?_)
              · have g216 := of_decide_eq_true b215
                refine wp_know 108 (.bool true) (congrArg Value.bool b215) ?_
                have g217 := of_decide_eq_true b215
                refine wp_ift rfl ?_
                refine w_seq ?_
                refine h_start H74 [restC w (fun _ => False), cellC b2 31 ([(.int .i64 (1)), (.int .i64 (3))] : List Value), cellC b11 103 ([(.map (some m12))] : List Value), cellC r13 96 ([(.slice none 0 0)] : List Value), cellC b20 52 ([(.pointer (some ⟨b11, 0, none⟩)), (.pointer (some ⟨r13, 0, none⟩))] : List Value), cellC r29 86 ([(.int .i64 (1)), (.int .i64 (3)), (.int .i64 (3)), (.map (some m30))] : List Value), rowTr b37 55 6 A, rowTr b42 55 6 D, rowTr b47 55 6 T] 12 rfl (by kernel_rfl) (fun Hx => (Hx.pick [0, 1, 2, 4, 5, 6, 9, 10, 11] (by decide))) ?_
                intro w218 H219 S220
                refine h_val 0 rfl (by kernel_rfl) (by kernel_rfl) (by kernel_rfl) (fun _ _ _ h => h) S220 (wants0 rfl) (d := 111) (v := (.pointer (some ⟨r29, 0, none⟩))) rfl (fun _ H' => (by kernel_rfl)) ?_
                refine h_val 1 rfl (by kernel_rfl) (by kernel_rfl) (by kernel_rfl) (fun _ _ _ h => h) S220 (wants0 rfl) (d := 112) (v := (.pointer (some ⟨b20, 0, none⟩))) rfl (fun _ H' => (by kernel_rfl)) ?_
                refine h_val 2 rfl (by kernel_rfl) (by kernel_rfl) (by kernel_rfl) (fun _ _ _ h => h) S220 (wants0 rfl) (d := 113) (v := (.pointer (some ⟨b11, 0, none⟩))) rfl (fun _ H' => (e_load1 rfl (by kernel_rfl) (H'.cell 4 rfl rfl))) ?_
                refine h_val 3 rfl (by kernel_rfl) (by kernel_rfl) (by kernel_rfl) (fun _ _ _ h => h) S220 (wants0 rfl) (d := 114) (v := (.slice va acts.length vc)) rfl (fun _ H' => (by kernel_rfl)) ?_
                refine h_val 4 rfl (by kernel_rfl) (by kernel_rfl) (by kernel_rfl) (fun _ _ _ h => h) S220 (wants0 rfl) (d := 115) (v := (.int .i64 ((i : Int)))) rfl (fun _ H' => (by kernel_rfl)) ?_
                refine h_val 5 rfl (by kernel_rfl) (by kernel_rfl) (by kernel_rfl) (fun _ _ _ h => h) S220 (wants0 rfl) (d := 116) (v := (.pointer (some ⟨g62, o63 + ((i : Int)).toNat * 5, none⟩))) rfl (fun _ H' => (e_indexAddrW (E := 57) (by kernel_rfl) (by kernel_rfl) (Nat.le_of_ble_eq_true rfl) rfl e65 rfl (by omega) (by omega))) ?_
                refine h_val 6 rfl (by kernel_rfl) (by kernel_rfl) (by kernel_rfl) (fun _ _ _ h => h) S220 (wants0 rfl) (d := 117) (v := (.pointer (some ⟨g62, o63 + ((i : Int)).toNat * 5 + 4, none⟩))) rfl (fun _ H' => (by kernel_rfl)) ?_
                refine h_val 7 rfl (by kernel_rfl) (by kernel_rfl) (by kernel_rfl) (fun _ _ _ h => h) S220 (wants0 rfl) (d := 118) (v := (.int .u64 ((acts.getD i ac0).t))) rfl (fun _ H' => (e_load1 rfl (by kernel_rfl) (H'.cellR 0 rfl (cells_at R66 4 (by kernel_rfl) (show o63 + ((i : Int)).toNat * 5 + 4 = o63 + i * 5 + 4 by omega)) (fun h => h)))) ?_
                refine h_val 8 rfl (by kernel_rfl) (by kernel_rfl) (by kernel_rfl) (fun _ _ _ h => h) S220 (wants0 rfl) (d := 119) (v := (.int .u64 (((acts.getD i ac0).t) % 100))) rfl (fun _ H' => (e_rem (by kernel_rfl) (by omega) (by omega))) ?_
                refine h_val 11 rfl (by kernel_rfl) (by kernel_rfl) (by kernel_rfl) (fun _ _ _ h => h) S220 (wants0 rfl) (d := 122) (v := (.int .i64 (0))) rfl (fun _ H' => (by kernel_rfl)) ?_
                refine h_do 9 rfl (by kernel_rfl) (wants0 rfl) (fun K221 hK221 => ?_)
                refine d_call (d := 120) rfl (by kernel_rfl) (rvDue_any w218 r29 m30 1 3 3 L b11 m12 B (H219.fin [6, 7, 8, 2, 3] (by decide) rfl) (by omega) (hP.i64 (by decide)) hP.nd hP.since (by decide) (((acts.getD i ac0).t) % 100) (by omega) (by omega)) ?_
                rintro _ w222 ⟨M223, N224, a225, c226, O227, rfl, R228, n229, T230⟩
                have H231 : Sat w [restC w (fun _ => False), cellC b2 31 ([(.int .i64 (1)), (.int .i64 (3))] : List Value), cellC b11 103 ([(.map (some m12))] : List Value), mapC m12 signedV (Value.int .i64) (marks N224), cellC r13 96 ([(.slice none 0 0)] : List Value), cellC b20 52 ([(.pointer (some ⟨b11, 0, none⟩)), (.pointer (some ⟨r13, 0, none⟩))] : List Value), cellC r29 86 ([(.int .i64 (1)), (.int .i64 (3)), (.int .i64 (3)), (.map (some m30))] : List Value), mapC m30 (Value.int .i64) encX M223, denC M223, rowTr b37 55 6 A, rowTr b42 55 6 D, rowTr b47 55 6 T, rowC 63 4 (.slice a225 O227.length c226) O227.length (O227.flatMap encDn)] w222 := (Sat.turnL (L' := [cellC r29 86 ([(.int .i64 (1)), (.int .i64 (3)), (.int .i64 (3)), (.map (some m30))] : List Value), mapC m30 (Value.int .i64) encX M223, denC M223, cellC b11 103 ([(.map (some m12))] : List Value), mapC m12 signedV (Value.int .i64) (marks N224), rowC 63 4 (.slice a225 O227.length c226) O227.length (O227.flatMap encDn)]) (R := [restC w (fun _ => False), cellC b2 31 ([(.int .i64 (1)), (.int .i64 (3))] : List Value), cellC r13 96 ([(.slice none 0 0)] : List Value), cellC b20 52 ([(.pointer (some ⟨b11, 0, none⟩)), (.pointer (some ⟨r13, 0, none⟩))] : List Value), rowTr b37 55 6 A, rowTr b42 55 6 D, rowTr b47 55 6 T]) H219 [6, 7, 8, 2, 3] [0, 1, 4, 5, 9, 10, 11] (by decide) (by kernel_rfl) rfl T230).pick [6, 7, 3, 4, 8, 9, 0, 1, 2, 10, 11, 12, 5] (by decide)
                refine ⟨_, rfl, ?_⟩
                have hP2 := hP.due R228
                have hl2 := R228.len
                have ho2 := R228.olen
                have S232 := H231.pick [0, 1, 2, 4, 5, 6, 9, 10, 11] (by decide)
                refine hK221 _ _ S232 ?_
                clear hK221 K221
                refine h_val 10 rfl (by kernel_rfl) (by kernel_rfl) (by kernel_rfl) (fun _ _ _ h => h) S232 (wants0 rfl) (d := 121) (v := (.int .i64 ((O227.length : Int)))) rfl (fun _ H' => (by kernel_rfl)) ?_
                refine h_fin (by kernel_rfl) ?_
                refine then_normal ?_
                refine w_block ?_
                refine wp_round [2, 15, 122, 123, 124, 125, 126, 127, 128, 129, 130, 131, 132, 133, 134, 135, 136, 137, 138, 139, 140, 141, 142, 143, 144, 145, 146, 147, 148, 149, 150, 151, 152, 153, 154, 155, 156, 157, 158, 159, 160, 161] (fun F_ W_ m_ => ∃ (m : Nat) (E : List Bool), F_ 122 = (.int .i64 ((m : Int))) ∧ (m ≤ O227.length) ∧ (DuI 6 L M223 O227 A E T m) ∧ Sat w [restC w (fun _ => False), cellC b2 31 ([(.int .i64 (1)), (.int .i64 (3))] : List Value), cellC b11 103 ([(.map (some m12))] : List Value), mapC m12 signedV (Value.int .i64) (marks N224), cellC r13 96 ([(.slice none 0 0)] : List Value), cellC b20 52 ([(.pointer (some ⟨b11, 0, none⟩)), (.pointer (some ⟨r13, 0, none⟩))] : List Value), cellC r29 86 ([(.int .i64 (1)), (.int .i64 (3)), (.int .i64 (3)), (.map (some m30))] : List Value), mapC m30 (Value.int .i64) encX M223, denC M223, rowTr b37 55 6 A, rowTr b42 55 6 E, rowTr b47 55 6 T, rowC 63 4 (.slice a225 O227.length c226) O227.length (O227.flatMap encDn)] W_ ∧ m_ = O227.length - m) _ ⟨0, D, (show ((.int .i64 (0)) : Value) = _ by first | rfl | go_num), (Nat.zero_le _), (DuI.start hE), H231, rfl⟩ ?_
                rintro g233 w234 _ ⟨m, E, v236, hm, hU, H235, rfl⟩
                refine wp_know 122 _ v236 ?_
                refine w_seq ?_
                refine w_lit ?_
                refine wl_pure (wants0 rfl) (d := 123) (v := (.bool (decide ((m : Int) < (O227.length : Int))))) rfl (by kernel_rfl) ?_
                refine w_nil ?_
                refine then_normal ?_
                refine w_seq ?_
                refine (bsplit (decide ((m : Int) < (O227.length : Int)))).elim (fun b238 => ?_) (fun b238 => ?_)
                · have g239 := of_decide_eq_true b238
                  refine wp_know 123 (.bool true) (congrArg Value.bool b238) ?_
                  have g240 := of_decide_eq_true b238
                  refine wp_ift rfl ?_
                  refine w_skip ?_
                  refine then_normal ?_
                  refine w_seq ?_
                  refine w_block ?_
                  refine w_seq ?_
                  refine w_lit ?_
                  obtain ⟨g241, c242, e243⟩ := row_shape (H235.at 12 rfl) (by omega)
                  obtain ⟨x244, h245⟩ := get_at (show m < O227.length by omega)
                  refine wl_pure (wants0 rfl) (d := 124) (v := (.pointer (some ⟨g241, 0 + ((m : Int)).toNat * 4, none⟩))) rfl (e_indexAddrV (E := 63) (by kernel_rfl) (by kernel_rfl) (Nat.le_of_ble_eq_true rfl) rfl e243 rfl (by omega) (by omega)) ?_
                  refine wl_pure (wants0 rfl) (d := 125) (v := (.agg ⟨([(.int .i64 (x244.r)), (.int .i64 (x244.i)), (.int .i64 (x244.sb)), (.int .i64 (x244.sm))] : List Value)⟩)) rfl (e_loadRun (vs := ([(.int .i64 (x244.r)), (.int .i64 (x244.i)), (.int .i64 (x244.sb)), (.int .i64 (x244.sm))] : List Value)) rfl (by kernel_rfl) (by kernel_rfl) (Nat.le_of_ble_eq_true (by kernel_rfl)) (rows_run (H235.at 12 rfl) e243 encDn_len h245 0 (show 0 + ((m : Int)).toNat * 4 = m * 4 + 0 by omega) (by kernel_rfl) (by kernel_rfl))) ?_
                  refine wl_do (wants0 rfl) (fun K246 hK246 => ?_)
                  refine d_alloc (zs := ([(.int .i64 (0)), (.int .i64 (0)), (.int .i64 (0)), (.int .i64 (0))] : List Value)) (z := (.agg ⟨([(.int .i64 (0)), (.int .i64 (0)), (.int .i64 (0)), (.int .i64 (0))] : List Value)⟩)) rfl H235 (by kernel_rfl) (by kernel_rfl) ?_
                  intro b247 w248 (H249 : Sat w [restC w (fun _ => False), cellC b2 31 ([(.int .i64 (1)), (.int .i64 (3))] : List Value), cellC b11 103 ([(.map (some m12))] : List Value), mapC m12 signedV (Value.int .i64) (marks N224), cellC r13 96 ([(.slice none 0 0)] : List Value), cellC b20 52 ([(.pointer (some ⟨b11, 0, none⟩)), (.pointer (some ⟨r13, 0, none⟩))] : List Value), cellC r29 86 ([(.int .i64 (1)), (.int .i64 (3)), (.int .i64 (3)), (.map (some m30))] : List Value), mapC m30 (Value.int .i64) encX M223, denC M223, rowTr b37 55 6 A, rowTr b42 55 6 E, rowTr b47 55 6 T, rowC 63 4 (.slice a225 O227.length c226) O227.length (O227.flatMap encDn), cellC b247 63 ([(.int .i64 (0)), (.int .i64 (0)), (.int .i64 (0)), (.int .i64 (0))] : List Value)] w248)
                  refine hK246 _ _ ?_
                  clear hK246 K246
                  refine wl_do (wants0 rfl) (fun K250 hK250 => ?_)
                  refine d_storeX (vs := ([(.int .i64 (x244.r)), (.int .i64 (x244.i)), (.int .i64 (x244.sb)), (.int .i64 (x244.sm))] : List Value)) (cs' := ([(.int .i64 (x244.r)), (.int .i64 (x244.i)), (.int .i64 (x244.sb)), (.int .i64 (x244.sm))] : List Value)) rfl H249 13 rfl rfl rfl rfl (by kernel_rfl) (Nat.le_of_ble_eq_true (by kernel_rfl)) (Nat.le_of_ble_eq_true (by kernel_rfl)) (by kernel_rfl) (by kernel_rfl) ?_
                  intro w251 (H252 : Sat w [restC w (fun _ => False), cellC b2 31 ([(.int .i64 (1)), (.int .i64 (3))] : List Value), cellC b11 103 ([(.map (some m12))] : List Value), mapC m12 signedV (Value.int .i64) (marks N224), cellC r13 96 ([(.slice none 0 0)] : List Value), cellC b20 52 ([(.pointer (some ⟨b11, 0, none⟩)), (.pointer (some ⟨r13, 0, none⟩))] : List Value), cellC r29 86 ([(.int .i64 (1)), (.int .i64 (3)), (.int .i64 (3)), (.map (some m30))] : List Value), mapC m30 (Value.int .i64) encX M223, denC M223, rowTr b37 55 6 A, rowTr b42 55 6 E, rowTr b47 55 6 T, rowC 63 4 (.slice a225 O227.length c226) O227.length (O227.flatMap encDn), cellC b247 63 ([(.int .i64 (x244.r)), (.int .i64 (x244.i)), (.int .i64 (x244.sb)), (.int .i64 (x244.sm))] : List Value)] w251)
                  refine hK250 _ _ ?_
                  clear hK250 K250
                  refine w_nil ?_
                  refine then_normal ?_
                  refine w_seq ?_
                  refine w_seq ?_
                  obtain ⟨⟨hx0, hx6⟩, hxr, hxa, hxd, hxt, hxn⟩ := R228.at hP h245
                  refine w_lit ?_
                  refine wl_pure (wants0 rfl) (d := 126) (v := (.pointer (some ⟨b247, 1, none⟩))) rfl (by kernel_rfl) ?_
                  refine wl_pure (wants0 rfl) (d := 127) (v := (.int .i64 (x244.i))) rfl (e_load1 rfl (by kernel_rfl) (H252.cell 13 rfl rfl)) ?_
                  refine wl_pure (wants0 rfl) (d := 128) (v := (.bool (decide (x244.i < 0)))) rfl (by kernel_rfl) ?_
                  refine wl_pure (wants0 rfl) (d := 129) (v := (.bool (decide (x244.i < 0)))) rfl (by kernel_rfl) ?_
                  have b254 : (decide (x244.i < 0)) = false := by exact decide_eq_false (by omega)
                  refine wl_know 129 (.bool false) (congrArg Value.bool b254) ?_
                  have g255 := of_decide_eq_false b254
                  refine wl_pure (wantsY 3 129 false rfl (by kernel_rfl) rfl (by kernel_rfl)) (d := 130) (v := (.pointer (some ⟨b247, 1, none⟩))) rfl (by kernel_rfl) ?_
                  refine wl_pure (wantsY 3 129 false rfl (by kernel_rfl) rfl (by kernel_rfl)) (d := 131) (v := (.int .i64 (x244.i))) rfl (e_load1 rfl (by kernel_rfl) (H252.cell 13 rfl rfl)) ?_
                  refine wl_pure (wantsY 3 129 false rfl (by kernel_rfl) rfl (by kernel_rfl)) (d := 132) (v := (.bool (decide (x244.i > 5)))) rfl (by kernel_rfl) ?_
                  refine wl_pure (wants0 rfl) (d := 133) (v := (.bool (decide (x244.i > 5)))) rfl (by kernel_rfl) ?_
                  refine wl_pure (wants0 rfl) (d := 134) (v := (.bool (decide (x244.i > 5)))) rfl (by kernel_rfl) ?_
                  have b256 : (decide (x244.i > 5)) = false := by exact decide_eq_false (by omega)
                  refine wl_know 134 (.bool false) (congrArg Value.bool b256) ?_
                  have g257 := of_decide_eq_false b256
                  refine wl_pure (wantsY 8 134 false rfl (by kernel_rfl) rfl (by kernel_rfl)) (d := 135) (v := (.pointer (some ⟨b247, 1, none⟩))) rfl (by kernel_rfl) ?_
                  refine wl_pure (wantsY 8 134 false rfl (by kernel_rfl) rfl (by kernel_rfl)) (d := 136) (v := (.int .i64 (x244.i))) rfl (e_load1 rfl (by kernel_rfl) (H252.cell 13 rfl rfl)) ?_
                  refine wl_pure (wantsY 8 134 false rfl (by kernel_rfl) rfl (by kernel_rfl)) (d := 137) (v := (.pointer (some ⟨b37, 0 + (x244.i).toNat * 1, none⟩))) rfl (e_indexAddrA (E := 4) (N := 6) (by kernel_rfl) (by kernel_rfl) (Nat.le_of_ble_eq_true rfl) rfl rfl (by omega) (by omega)) ?_
                  refine wl_pure (wantsY 8 134 false rfl (by kernel_rfl) rfl (by kernel_rfl)) (d := 138) (v := (.bool (A.getD (x244.i).toNat false))) rfl (e_load1 rfl (by kernel_rfl) (rowTr_cell (H252.at 9 rfl) (show (x244.i).toNat < 6 by omega) (show 0 + (x244.i).toNat * 1 = (x244.i).toNat by omega))) ?_
                  refine wl_pure (wants0 rfl) (d := 139) (v := (.bool (A.getD (x244.i).toNat false))) rfl (by kernel_rfl) ?_
                  refine wl_pure (wants0 rfl) (d := 140) (v := (.bool (A.getD (x244.i).toNat false))) rfl (by kernel_rfl) ?_
                  have b258 : (A.getD (x244.i).toNat false) = false := by (rw [hU.a.at hx0 hx6]; exact hxa)
                  refine wl_know 140 (.bool false) (congrArg Value.bool b258) ?_
                  refine wl_pure (wantsY 14 140 false rfl (by kernel_rfl) rfl (by kernel_rfl)) (d := 141) (v := (.pointer (some ⟨b247, 1, none⟩))) rfl (by kernel_rfl) ?_
                  refine wl_pure (wantsY 14 140 false rfl (by kernel_rfl) rfl (by kernel_rfl)) (d := 142) (v := (.int .i64 (x244.i))) rfl (e_load1 rfl (by kernel_rfl) (H252.cell 13 rfl rfl)) ?_
                  refine wl_pure (wantsY 14 140 false rfl (by kernel_rfl) rfl (by kernel_rfl)) (d := 143) (v := (.pointer (some ⟨b42, 0 + (x244.i).toNat * 1, none⟩))) rfl (e_indexAddrA (E := 4) (N := 6) (by kernel_rfl) (by kernel_rfl) (Nat.le_of_ble_eq_true rfl) rfl rfl (by omega) (by omega)) ?_
                  refine wl_pure (wantsY 14 140 false rfl (by kernel_rfl) rfl (by kernel_rfl)) (d := 144) (v := (.bool (E.getD (x244.i).toNat false))) rfl (e_load1 rfl (by kernel_rfl) (rowTr_cell (H252.at 10 rfl) (show (x244.i).toNat < 6 by omega) (show 0 + (x244.i).toNat * 1 = (x244.i).toNat by omega))) ?_
                  refine wl_pure (wants0 rfl) (d := 145) (v := (.bool (E.getD (x244.i).toNat false))) rfl (by kernel_rfl) ?_
                  refine wl_pure (wants0 rfl) (d := 146) (v := (.bool (E.getD (x244.i).toNat false))) rfl (by kernel_rfl) ?_
                  have b259 : (E.getD (x244.i).toNat false) = false := by (rw [hU.d.at hx0 hx6]; simp only [hxd, decide_eq_false hxn]; rfl)
                  refine wl_know 146 (.bool false) (congrArg Value.bool b259) ?_
                  refine wl_pure (wantsY 20 146 false rfl (by kernel_rfl) rfl (by kernel_rfl)) (d := 147) (v := (.pointer (some ⟨b247, 1, none⟩))) rfl (by kernel_rfl) ?_
                  refine wl_pure (wantsY 20 146 false rfl (by kernel_rfl) rfl (by kernel_rfl)) (d := 148) (v := (.int .i64 (x244.i))) rfl (e_load1 rfl (by kernel_rfl) (H252.cell 13 rfl rfl)) ?_
                  refine wl_pure (wantsY 20 146 false rfl (by kernel_rfl) rfl (by kernel_rfl)) (d := 149) (v := (.pointer (some ⟨b47, 0 + (x244.i).toNat * 1, none⟩))) rfl (e_indexAddrA (E := 4) (N := 6) (by kernel_rfl) (by kernel_rfl) (Nat.le_of_ble_eq_true rfl) rfl rfl (by omega) (by omega)) ?_
                  refine wl_pure (wantsY 20 146 false rfl (by kernel_rfl) rfl (by kernel_rfl)) (d := 150) (v := (.bool (T.getD (x244.i).toNat false))) rfl (e_load1 rfl (by kernel_rfl) (rowTr_cell (H252.at 11 rfl) (show (x244.i).toNat < 6 by omega) (show 0 + (x244.i).toNat * 1 = (x244.i).toNat by omega))) ?_
                  refine wl_pure (wantsY 20 146 false rfl (by kernel_rfl) rfl (by kernel_rfl)) (d := 151) (v := (.bool (!(T.getD (x244.i).toNat false)))) rfl (by kernel_rfl) ?_
                  refine wl_pure (wants0 rfl) (d := 152) (v := (.bool (!(T.getD (x244.i).toNat false)))) rfl (by kernel_rfl) ?_
                  refine wl_pure (wants0 rfl) (d := 153) (v := (.bool (!(T.getD (x244.i).toNat false)))) rfl (by kernel_rfl) ?_
                  have b260 : (!(T.getD (x244.i).toNat false)) = false := by (rw [hU.t.at hx0 hx6, hxt]; rfl)
                  refine wl_know 153 (.bool false) (congrArg Value.bool b260) ?_
                  have g261 := bnot_false b260
                  refine wl_pure (wantsY 27 153 false rfl (by kernel_rfl) rfl (by kernel_rfl)) (d := 154) (v := (.pointer (some ⟨b247, 0, none⟩))) rfl (by kernel_rfl) ?_
                  refine wl_pure (wantsY 27 153 false rfl (by kernel_rfl) rfl (by kernel_rfl)) (d := 155) (v := (.int .i64 (x244.r))) rfl (e_load1 rfl (by kernel_rfl) (H252.cell 13 rfl rfl)) ?_
                  refine wl_pure (wantsY 27 153 false rfl (by kernel_rfl) rfl (by kernel_rfl)) (d := 156) (v := (.bool (!(decide (x244.r = 3))))) rfl (by kernel_rfl) ?_
                  refine wl_pure (wants0 rfl) (d := 157) (v := (.bool (!(decide (x244.r = 3))))) rfl (by kernel_rfl) ?_
                  refine w_nil ?_
                  refine then_normal ?_
                  have b262 : (!(decide (x244.r = 3))) = false := by (rw [decide_eq_true hxr]; rfl)
                  refine wp_know 157 (.bool false) (congrArg Value.bool b262) ?_
                  have g263 := bnot_false b262
                  have g264 := of_decide_eq_true g263
                  refine wp_iff rfl ?_
                  refine w_skip ?_
                  refine then_normal ?_
                  refine w_lit ?_
                  refine wl_pure (wants0 rfl) (d := 158) (v := (.pointer (some ⟨b247, 1, none⟩))) rfl (by kernel_rfl) ?_
                  refine wl_pure (wants0 rfl) (d := 159) (v := (.int .i64 (x244.i))) rfl (e_load1 rfl (by kernel_rfl) (H252.cell 13 rfl rfl)) ?_
                  refine wl_pure (wants0 rfl) (d := 160) (v := (.pointer (some ⟨b42, 0 + (x244.i).toNat * 1, none⟩))) rfl (e_indexAddrA (E := 4) (N := 6) (by kernel_rfl) (by kernel_rfl) (Nat.le_of_ble_eq_true rfl) rfl rfl (by omega) (by omega)) ?_
                  refine wl_do (wants0 rfl) (fun K265 hK265 => ?_)
                  refine d_storeTr rfl H252 10 rfl rfl rfl (by kernel_rfl) (show 0 + (x244.i).toNat * 1 = (x244.i).toNat by omega) (show (x244.i).toNat < 6 by omega) ?_
                  intro w266 (H267 : Sat w [restC w (fun _ => False), cellC b2 31 ([(.int .i64 (1)), (.int .i64 (3))] : List Value), cellC b11 103 ([(.map (some m12))] : List Value), mapC m12 signedV (Value.int .i64) (marks N224), cellC r13 96 ([(.slice none 0 0)] : List Value), cellC b20 52 ([(.pointer (some ⟨b11, 0, none⟩)), (.pointer (some ⟨r13, 0, none⟩))] : List Value), cellC r29 86 ([(.int .i64 (1)), (.int .i64 (3)), (.int .i64 (3)), (.map (some m30))] : List Value), mapC m30 (Value.int .i64) encX M223, denC M223, rowTr b37 55 6 A, rowTr b42 55 6 (E.set (x244.i).toNat true), rowTr b47 55 6 T, rowC 63 4 (.slice a225 O227.length c226) O227.length (O227.flatMap encDn), cellC b247 63 ([(.int .i64 (x244.r)), (.int .i64 (x244.i)), (.int .i64 (x244.sb)), (.int .i64 (x244.sm))] : List Value)] w266)
                  refine hK265 _ _ ?_
                  clear hK265 K265
                  refine w_nil ?_
                  refine blk_normal ?_
                  refine then_normal ?_
                  refine w_lit ?_
                  refine wl_pure (wants0 rfl) (d := 161) (v := (.int .i64 ((m : Int) + 1))) rfl (e_int (z := (m : Int) + 1) (by kernel_rfl) (IntWalk.i64_in _ (by omega))) ?_
                  refine wl_pure (wants0 rfl) (d := 122) (v := (.int .i64 ((m : Int) + 1))) rfl (by kernel_rfl) ?_
                  refine w_nil ?_
                  have H268 : Sat w [restC w (fun _ => False), cellC b2 31 ([(.int .i64 (1)), (.int .i64 (3))] : List Value), cellC b11 103 ([(.map (some m12))] : List Value), mapC m12 signedV (Value.int .i64) (marks N224), cellC r13 96 ([(.slice none 0 0)] : List Value), cellC b20 52 ([(.pointer (some ⟨b11, 0, none⟩)), (.pointer (some ⟨r13, 0, none⟩))] : List Value), cellC r29 86 ([(.int .i64 (1)), (.int .i64 (3)), (.int .i64 (3)), (.map (some m30))] : List Value), mapC m30 (Value.int .i64) encX M223, denC M223, rowTr b37 55 6 A, rowTr b42 55 6 (E.set (x244.i).toNat true), rowTr b47 55 6 T, rowC 63 4 (.slice a225 O227.length c226) O227.length (O227.flatMap encDn)] w266 := H267.pick [0, 1, 2, 3, 4, 5, 6, 7, 8, 9, 10, 11, 12] (by decide)
                  refine round_back ?_ _ ⟨(m + 1), (E.set (x244.i).toNat true), (show ((.int .i64 ((m : Int) + 1)) : Value) = _ by first | rfl | go_num), (by omega), (hU.step h245 hx0 hx6), H268, rfl⟩ (by omega)
                  exact (same_upd rfl (same_upd rfl (same_upd rfl (same_upd rfl (same_upd rfl (same_upd rfl (same_upd rfl (same_upd rfl (same_upd rfl (same_upd rfl (same_upd rfl (same_upd rfl (same_upd rfl (same_upd rfl (same_upd rfl (same_upd rfl (same_upd rfl (same_upd rfl (same_upd rfl (same_upd rfl (same_upd rfl (same_upd rfl (same_upd rfl (same_upd rfl (same_upd rfl (same_upd rfl (same_upd rfl (same_upd rfl (same_upd rfl (same_upd rfl (same_upd rfl (same_upd rfl (same_upd rfl (same_upd rfl (same_upd rfl (same_upd rfl (same_upd rfl (same_upd rfl (same_upd rfl (same_upd rfl (same_upd rfl (same_upd rfl (same_upd rfl (same_upd rfl (same_upd rfl (same_upd rfl (same_upd rfl (same_upd rfl (same_upd rfl (same_ovr))))))))))))))))))))))))))))))))))))))))))))))))))
                · have g269 := of_decide_eq_false b238
                  refine wp_know 123 (.bool false) (congrArg Value.bool b238) ?_
                  have g270 := of_decide_eq_false b238
                  refine wp_iff rfl ?_
                  refine w_exit ?_
                  refine then_exit ?_
                  refine back_exit ?_
                  refine blk_hit ?_
                  refine blk_normal ?_
                  have H271 : Sat w [restC w (fun _ => False), cellC b2 31 ([(.int .i64 (1)), (.int .i64 (3))] : List Value), cellC b11 103 ([(.map (some m12))] : List Value), mapC m12 signedV (Value.int .i64) (marks N224), cellC r13 96 ([(.slice none 0 0)] : List Value), cellC b20 52 ([(.pointer (some ⟨b11, 0, none⟩)), (.pointer (some ⟨r13, 0, none⟩))] : List Value), cellC r29 86 ([(.int .i64 (1)), (.int .i64 (3)), (.int .i64 (3)), (.map (some m30))] : List Value), mapC m30 (Value.int .i64) encX M223, denC M223, rowTr b37 55 6 A, rowTr b42 55 6 E, rowTr b47 55 6 T] w234 := H235.pick [0, 1, 2, 3, 4, 5, 6, 7, 8, 9, 10, 11] (by decide)
                  refine meetR_at ?_ ⟨M223, N224, A, E, T, hP2, (DuI.fin (by have q : m = O227.length := (by omega); rw [q] at hU; exact hU) R228), (by omega), (by omega), H271⟩
                  exact (same_upd rfl (same_upd rfl (same_upd rfl (same_ovr2 rfl (same_upd rfl (same_upd rfl (same_upd rfl (same_upd rfl (same_upd rfl (same_upd rfl (same_upd rfl (same_upd rfl (same_upd rfl (same_upd rfl (same_upd rfl (same_upd rfl (same_upd rfl (same_upd rfl (same_upd rfl (same_upd rfl (same_upd rfl (same_upd rfl (same_upd rfl (same_upd rfl (same_upd rfl (same_upd rfl (same_upd rfl (same_upd rfl (same_upd rfl (same_upd rfl (same_upd rfl (same_upd rfl (same_upd rfl (same_upd rfl (same_refl)))))))))))))))))))))))))))))))))))
              · have g272 := of_decide_eq_false b215
                refine wp_know 108 (.bool false) (congrArg Value.bool b215) ?_
                have g273 := of_decide_eq_false b215
                refine wp_iff rfl ?_
                refine w_seq ?_
                refine w_seq ?_
                refine h_start H74 [restC w (fun _ => False), cellC b2 31 ([(.int .i64 (1)), (.int .i64 (3))] : List Value), cellC b11 103 ([(.map (some m12))] : List Value), mapC m12 signedV (Value.int .i64) (marks B), cellC r13 96 ([(.slice none 0 0)] : List Value), cellC b20 52 ([(.pointer (some ⟨b11, 0, none⟩)), (.pointer (some ⟨r13, 0, none⟩))] : List Value), cellC r29 86 ([(.int .i64 (1)), (.int .i64 (3)), (.int .i64 (3)), (.map (some m30))] : List Value), rowTr b37 55 6 A, rowTr b42 55 6 D, rowTr b47 55 6 T] 15 rfl (by kernel_rfl) (fun Hx => (Hx.pick [0, 1, 2, 3, 4, 5, 6, 9, 10, 11] (by decide))) ?_
                intro w274 H275 S276
                refine h_val 0 rfl (by kernel_rfl) (by kernel_rfl) (by kernel_rfl) (fun _ _ _ h => h) S276 (wants0 rfl) (d := 59) (v := (.pointer (some ⟨r29, 0, none⟩))) rfl (fun _ H' => (by kernel_rfl)) ?_
                refine h_val 1 rfl (by kernel_rfl) (by kernel_rfl) (by kernel_rfl) (fun _ _ _ h => h) S276 (wants0 rfl) (d := 60) (v := (.int .i64 (K))) rfl (fun _ H' => (by kernel_rfl)) ?_
                refine h_val 2 rfl (by kernel_rfl) (by kernel_rfl) (by kernel_rfl) (fun _ _ _ h => h) S276 (wants0 rfl) (d := 61) (v := (.int .i64 (K))) rfl (fun _ H' => (by kernel_rfl)) ?_
                refine h_val 4 rfl (by kernel_rfl) (by kernel_rfl) (by kernel_rfl) (fun _ _ _ h => h) S276 (wants0 rfl) (d := 63) (v := (.slice va acts.length vc)) rfl (fun _ H' => (by kernel_rfl)) ?_
                refine h_val 5 rfl (by kernel_rfl) (by kernel_rfl) (by kernel_rfl) (fun _ _ _ h => h) S276 (wants0 rfl) (d := 64) (v := (.int .i64 ((i : Int)))) rfl (fun _ H' => (by kernel_rfl)) ?_
                refine h_val 6 rfl (by kernel_rfl) (by kernel_rfl) (by kernel_rfl) (fun _ _ _ h => h) S276 (wants0 rfl) (d := 65) (v := (.pointer (some ⟨g62, o63 + ((i : Int)).toNat * 5, none⟩))) rfl (fun _ H' => (e_indexAddrW (E := 57) (by kernel_rfl) (by kernel_rfl) (Nat.le_of_ble_eq_true rfl) rfl e65 rfl (by omega) (by omega))) ?_
                refine h_val 7 rfl (by kernel_rfl) (by kernel_rfl) (by kernel_rfl) (fun _ _ _ h => h) S276 (wants0 rfl) (d := 66) (v := (.pointer (some ⟨g62, o63 + ((i : Int)).toNat * 5 + 4, none⟩))) rfl (fun _ H' => (by kernel_rfl)) ?_
                refine h_val 8 rfl (by kernel_rfl) (by kernel_rfl) (by kernel_rfl) (fun _ _ _ h => h) S276 (wants0 rfl) (d := 67) (v := (.int .u64 ((acts.getD i ac0).t))) rfl (fun _ H' => (e_load1 rfl (by kernel_rfl) (H'.cellR 0 rfl (cells_at R66 4 (by kernel_rfl) (show o63 + ((i : Int)).toNat * 5 + 4 = o63 + i * 5 + 4 by omega)) (fun h => h)))) ?_
                refine h_val 9 rfl (by kernel_rfl) (by kernel_rfl) (by kernel_rfl) (fun _ _ _ h => h) S276 (wants0 rfl) (d := 68) (v := (.int .u64 (((acts.getD i ac0).t) % 50))) rfl (fun _ H' => (e_rem (by kernel_rfl) (by omega) (by omega))) ?_
                refine h_val 11 rfl (by kernel_rfl) (by kernel_rfl) (by kernel_rfl) (fun _ _ _ h => h) S276 (wants0 rfl) (d := 70) (v := (.int .i64 (K))) rfl (fun _ H' => (by kernel_rfl)) ?_
                refine h_val 12 rfl (by kernel_rfl) (by kernel_rfl) (by kernel_rfl) (fun _ _ _ h => h) S276 (wants0 rfl) (d := 71) (v := (.pointer (some ⟨b47, 0 + (K).toNat * 1, none⟩))) rfl (fun _ H' => (e_indexAddrA (E := 4) (N := 6) (by kernel_rfl) (by kernel_rfl) (Nat.le_of_ble_eq_true rfl) rfl rfl (by omega) (by omega))) ?_
                refine h_val 13 rfl (by kernel_rfl) (by kernel_rfl) (by kernel_rfl) (fun _ _ _ h => h) S276 (wants0 rfl) (d := 72) (v := (.bool (T.getD (K).toNat false))) rfl (fun _ H' => (e_load1 rfl (by kernel_rfl) (rowTr_cell (H'.at 9 rfl) (show (K).toNat < 6 by omega) (show 0 + (K).toNat * 1 = (K).toNat by omega)))) ?_
                refine h_do 3 rfl (by kernel_rfl) (wants0 rfl) (fun K277 hK277 => ?_)
                refine d_call (d := 62) rfl (by kernel_rfl) (entry_any w274 K) ?_
                rintro _ w278 ⟨rfl, u280⟩
                have H279 := H275.keepU u280
                refine ⟨_, rfl, ?_⟩
                have S281 := H279.pick [0, 1, 2, 3, 4, 5, 6, 9, 10, 11] (by decide)
                refine hK277 _ _ S281 ?_
                clear hK277 K277
                refine h_do 10 rfl (by kernel_rfl) (wants0 rfl) (fun K282 hK282 => ?_)
                refine d_call (d := 69) rfl (by kernel_rfl) (rvPlaceG_any w278 r29 m30 1 3 3 L (H279.fin [6, 7, 8] (by decide) rfl) K (1 : Int) (1 + withinV K 9) (entH K) (3 : Int) (((acts.getD i ac0).t) % 50) (by omega)) ?_
                rintro _ w283 ⟨M284, rfl, R285, T286⟩
                have H287 : Sat w [restC w (fun _ => False), cellC b2 31 ([(.int .i64 (1)), (.int .i64 (3))] : List Value), cellC b11 103 ([(.map (some m12))] : List Value), mapC m12 signedV (Value.int .i64) (marks B), cellC r13 96 ([(.slice none 0 0)] : List Value), cellC b20 52 ([(.pointer (some ⟨b11, 0, none⟩)), (.pointer (some ⟨r13, 0, none⟩))] : List Value), cellC r29 86 ([(.int .i64 (1)), (.int .i64 (3)), (.int .i64 (3)), (.map (some m30))] : List Value), mapC m30 (Value.int .i64) encX M284, denC M284, rowTr b37 55 6 A, rowTr b42 55 6 D, rowTr b47 55 6 T] w283 := (Sat.turnL (L' := [cellC r29 86 ([(.int .i64 (1)), (.int .i64 (3)), (.int .i64 (3)), (.map (some m30))] : List Value), mapC m30 (Value.int .i64) encX M284, denC M284]) (R := [restC w (fun _ => False), cellC b2 31 ([(.int .i64 (1)), (.int .i64 (3))] : List Value), cellC b11 103 ([(.map (some m12))] : List Value), mapC m12 signedV (Value.int .i64) (marks B), cellC r13 96 ([(.slice none 0 0)] : List Value), cellC b20 52 ([(.pointer (some ⟨b11, 0, none⟩)), (.pointer (some ⟨r13, 0, none⟩))] : List Value), rowTr b37 55 6 A, rowTr b42 55 6 D, rowTr b47 55 6 T]) H279 [6, 7, 8] [0, 1, 2, 3, 4, 5, 9, 10, 11] (by decide) (by kernel_rfl) rfl T286).pick [3, 4, 5, 6, 7, 8, 0, 1, 2, 9, 10, 11] (by decide)
                refine ⟨_, rfl, ?_⟩
                have hP2 := hP.place R285 (by omega) rfl rfl rfl (by omega)
                have hl2 := R285.len
                have ht2 := hE.t.at hK6.1 hK6n
                have S288 := H287.pick [0, 1, 2, 3, 4, 5, 6, 9, 10, 11] (by decide)
                refine hK282 _ _ S288 ?_
                clear hK282 K282
                refine h_val 14 rfl (by kernel_rfl) (by kernel_rfl) (by kernel_rfl) (fun _ _ _ h => h) S288 (wants0 rfl) (d := 73) (v := (.bool ((!(lookM L K).isSome) == (T.getD (K).toNat false)))) rfl (fun _ H' => (by kernel_rfl)) ?_
                refine h_fin (by kernel_rfl) ?_
                refine then_normal ?_
                have b289 : ((!(lookM L K).isSome) == (T.getD (K).toNat false)) = false := by (rw [ht2]; cases (lookM L K).isSome <;> rfl)
                refine wp_know 73 (.bool false) (congrArg Value.bool b289) ?_
                refine wp_iff rfl ?_
                refine w_skip ?_
                refine then_normal ?_
                refine w_lit ?_
                refine wl_pure (wants0 rfl) (d := 74) (v := (.int .i64 (K))) rfl (by kernel_rfl) ?_
                refine wl_pure (wants0 rfl) (d := 75) (v := (.pointer (some ⟨b47, 0 + (K).toNat * 1, none⟩))) rfl (e_indexAddrA (E := 4) (N := 6) (by kernel_rfl) (by kernel_rfl) (Nat.le_of_ble_eq_true rfl) rfl rfl (by omega) (by omega)) ?_
                refine wl_do (wants0 rfl) (fun K290 hK290 => ?_)
                refine d_storeTr rfl H287 11 rfl rfl rfl (by kernel_rfl) (show 0 + (K).toNat * 1 = (K).toNat by omega) (show (K).toNat < 6 by omega) ?_
                intro w291 (H292 : Sat w [restC w (fun _ => False), cellC b2 31 ([(.int .i64 (1)), (.int .i64 (3))] : List Value), cellC b11 103 ([(.map (some m12))] : List Value), mapC m12 signedV (Value.int .i64) (marks B), cellC r13 96 ([(.slice none 0 0)] : List Value), cellC b20 52 ([(.pointer (some ⟨b11, 0, none⟩)), (.pointer (some ⟨r13, 0, none⟩))] : List Value), cellC r29 86 ([(.int .i64 (1)), (.int .i64 (3)), (.int .i64 (3)), (.map (some m30))] : List Value), mapC m30 (Value.int .i64) encX M284, denC M284, rowTr b37 55 6 A, rowTr b42 55 6 D, rowTr b47 55 6 (T.set (K).toNat true)] w291)
                refine hK290 _ _ ?_
                clear hK290 K290
                refine w_nil ?_
                refine blk_normal ?_
                refine meetR_at ?_ ⟨M284, B, A, D, (T.set (K).toNat true), hP2, (hE.place R285 hK6.1 hK6n), (by omega), (by omega), H292⟩
                exact (same_upd rfl (same_upd rfl (same_upd rfl (same_upd rfl (same_upd rfl (same_upd rfl (same_upd rfl (same_upd rfl (same_upd rfl (same_upd rfl (same_upd rfl (same_upd rfl (same_upd rfl (same_upd rfl (same_upd rfl (same_upd rfl (same_upd rfl (same_upd rfl (same_upd rfl (same_upd rfl (same_upd rfl (same_upd rfl (same_upd rfl (same_upd rfl (same_upd rfl (same_upd rfl (same_upd rfl (same_upd rfl (same_upd rfl (same_upd rfl (same_upd rfl (same_upd rfl (same_upd rfl (same_upd rfl (same_upd rfl (same_upd rfl (same_refl)))))))))))))))))))))))))))))))))))))
      · rintro f293 w294 ⟨L1, B1, A1, D1, T1, hP1, hE1, hLl1, hBl1, H295⟩
        refine w_seq ?_
        refine w_lit ?_
        refine wl_pure (wants0 rfl) (d := 162) (v := (.int .i64 (0))) rfl (by kernel_rfl) ?_
        refine w_nil ?_
        refine then_normal ?_
        refine w_block ?_
        refine wp_round [2, 16, 162, 163, 164, 165, 166, 167, 168, 169, 170, 171, 172, 173, 174, 175, 176, 177, 178, 179, 180, 181, 182, 183, 184, 185, 186, 187, 188, 189, 190, 191] (fun F_ W_ m_ => ∃ (j : Nat), F_ 162 = (.int .i64 ((j : Int))) ∧ (j ≤ 6) ∧ Sat w [restC w (fun _ => False), cellC b2 31 ([(.int .i64 (1)), (.int .i64 (3))] : List Value), cellC b11 103 ([(.map (some m12))] : List Value), mapC m12 signedV (Value.int .i64) (marks B1), cellC r13 96 ([(.slice none 0 0)] : List Value), cellC b20 52 ([(.pointer (some ⟨b11, 0, none⟩)), (.pointer (some ⟨r13, 0, none⟩))] : List Value), cellC r29 86 ([(.int .i64 (1)), (.int .i64 (3)), (.int .i64 (3)), (.map (some m30))] : List Value), mapC m30 (Value.int .i64) encX L1, denC L1, rowTr b37 55 6 A1, rowTr b42 55 6 D1, rowTr b47 55 6 T1] W_ ∧ m_ = 6 - j) _ ⟨0, (show ((.int .i64 (0)) : Value) = _ by first | rfl | go_num), (by omega), H295, rfl⟩ ?_
        rintro g296 w297 _ ⟨j, v299, hj, H298, rfl⟩
        refine wp_know 162 _ v299 ?_
        refine w_seq ?_
        refine w_lit ?_
        refine wl_pure (wants0 rfl) (d := 163) (v := (.bool (decide ((j : Int) < 6)))) rfl (by kernel_rfl) ?_
        refine w_nil ?_
        refine then_normal ?_
        refine w_seq ?_
        refine (bsplit (decide ((j : Int) < 6))).elim (fun b301 => ?_) (fun b301 => ?_)
        · have g302 := of_decide_eq_true b301
          refine wp_know 163 (.bool true) (congrArg Value.bool b301) ?_
          have g303 := of_decide_eq_true b301
          refine wp_ift rfl ?_
          refine w_skip ?_
          refine then_normal ?_
          refine w_seq ?_
          refine w_block ?_
          refine w_seq ?_
          refine w_lit ?_
          refine wl_pure (wants0 rfl) (d := 164) (v := (.int .i64 ((j : Int)))) rfl (by kernel_rfl) ?_
          refine wl_pure (wants0 rfl) (d := 16) (v := (.int .i64 ((j : Int)))) rfl (by kernel_rfl) ?_
          refine w_nil ?_
          refine then_normal ?_
          refine w_seq ?_
          refine q_start H298 (by kernel_rfl) (by kernel_rfl) ?_
          refine q_val (wants0 rfl) (d := 165) (v := (.pointer (some ⟨r29, 0, none⟩))) rfl (fun _ H' => (by kernel_rfl)) ?_
          refine q_val (wants0 rfl) (d := 166) (v := (.int .i64 ((j : Int)))) rfl (fun _ H' => (by kernel_rfl)) ?_
          refine q_call (wants0 rfl) (d := 167) (v := (.bool (ackB L1 (j : Int)))) rfl (fun _ _ => by kernel_rfl) (fun w' H' => (rvAckedG_any w' r29 m30 1 3 3 L1 (H'.at 6 rfl) (H'.at 7 rfl) (j : Int)).mono fun _ _ h => ⟨h.1, H'.keepU h.2⟩) ?_
          refine q_val (wants0 rfl) (d := 168) (v := (.int .i64 ((j : Int)))) rfl (fun _ H' => (by kernel_rfl)) ?_
          refine q_val (wants0 rfl) (d := 169) (v := (.pointer (some ⟨b37, 0 + ((j : Int)).toNat * 1, none⟩))) rfl (fun _ H' => (e_indexAddrA (E := 4) (N := 6) (by kernel_rfl) (by kernel_rfl) (Nat.le_of_ble_eq_true rfl) rfl rfl (by omega) (by omega))) ?_
          refine q_val (wants0 rfl) (d := 170) (v := (.bool (A1.getD j false))) rfl (fun _ H' => (e_load1 rfl (by kernel_rfl) (rowTr_cell (H'.at 9 rfl) (show j < 6 by omega) (show 0 + ((j : Int)).toNat * 1 = j by omega)))) ?_
          refine q_val (wants0 rfl) (d := 171) (v := (.bool (!((ackB L1 (j : Int)) == (A1.getD j false))))) rfl (fun _ H' => (by kernel_rfl)) ?_
          refine q_val (wants0 rfl) (d := 172) (v := (.bool (!((ackB L1 (j : Int)) == (A1.getD j false))))) rfl (fun _ H' => (by kernel_rfl)) ?_
          have b304 : (!((ackB L1 (j : Int)) == (A1.getD j false))) = false := by (rw [hE1.a.2 j (by omega)]; simp)
          refine q_know 172 (.bool false) (congrArg Value.bool b304) ?_
          have g305 := bnot_false b304
          refine q_val (wantsY 7 172 false rfl (by kernel_rfl) rfl (by kernel_rfl)) (d := 173) (v := (.pointer (some ⟨r29, 0, none⟩))) rfl (fun _ H' => (by kernel_rfl)) ?_
          refine q_val (wantsY 7 172 false rfl (by kernel_rfl) rfl (by kernel_rfl)) (d := 174) (v := (.int .i64 ((j : Int)))) rfl (fun _ H' => (by kernel_rfl)) ?_
          refine q_call (wantsY 7 172 false rfl (by kernel_rfl) rfl (by kernel_rfl)) (d := 175) (v := (.bool (denB L1 (j : Int)))) rfl (fun _ _ => by kernel_rfl) (fun w' H' => (rvDeniedG_any w' r29 m30 1 3 3 L1 (H'.at 6 rfl) (H'.at 7 rfl) (j : Int)).mono fun _ _ h => ⟨h.1, H'.keepU h.2⟩) ?_
          refine q_val (wantsY 7 172 false rfl (by kernel_rfl) rfl (by kernel_rfl)) (d := 176) (v := (.int .i64 ((j : Int)))) rfl (fun _ H' => (by kernel_rfl)) ?_
          refine q_val (wantsY 7 172 false rfl (by kernel_rfl) rfl (by kernel_rfl)) (d := 177) (v := (.pointer (some ⟨b42, 0 + ((j : Int)).toNat * 1, none⟩))) rfl (fun _ H' => (e_indexAddrA (E := 4) (N := 6) (by kernel_rfl) (by kernel_rfl) (Nat.le_of_ble_eq_true rfl) rfl rfl (by omega) (by omega))) ?_
          refine q_val (wantsY 7 172 false rfl (by kernel_rfl) rfl (by kernel_rfl)) (d := 178) (v := (.bool (D1.getD j false))) rfl (fun _ H' => (e_load1 rfl (by kernel_rfl) (rowTr_cell (H'.at 10 rfl) (show j < 6 by omega) (show 0 + ((j : Int)).toNat * 1 = j by omega)))) ?_
          refine q_val (wantsY 7 172 false rfl (by kernel_rfl) rfl (by kernel_rfl)) (d := 179) (v := (.bool (!((denB L1 (j : Int)) == (D1.getD j false))))) rfl (fun _ H' => (by kernel_rfl)) ?_
          refine q_val (wants0 rfl) (d := 180) (v := (.bool (!((denB L1 (j : Int)) == (D1.getD j false))))) rfl (fun _ H' => (by kernel_rfl)) ?_
          refine q_val (wants0 rfl) (d := 181) (v := (.bool (!((denB L1 (j : Int)) == (D1.getD j false))))) rfl (fun _ H' => (by kernel_rfl)) ?_
          have b306 : (!((denB L1 (j : Int)) == (D1.getD j false))) = false := by (rw [hE1.d.2 j (by omega)]; simp)
          refine q_know 181 (.bool false) (congrArg Value.bool b306) ?_
          have g307 := bnot_false b306
          refine q_val (wantsY 16 181 false rfl (by kernel_rfl) rfl (by kernel_rfl)) (d := 182) (v := (.int .i64 ((j : Int)))) rfl (fun _ H' => (by kernel_rfl)) ?_
          refine q_val (wantsY 16 181 false rfl (by kernel_rfl) rfl (by kernel_rfl)) (d := 183) (v := (.pointer (some ⟨b37, 0 + ((j : Int)).toNat * 1, none⟩))) rfl (fun _ H' => (e_indexAddrA (E := 4) (N := 6) (by kernel_rfl) (by kernel_rfl) (Nat.le_of_ble_eq_true rfl) rfl rfl (by omega) (by omega))) ?_
          refine q_val (wantsY 16 181 false rfl (by kernel_rfl) rfl (by kernel_rfl)) (d := 184) (v := (.bool (A1.getD j false))) rfl (fun _ H' => (e_load1 rfl (by kernel_rfl) (rowTr_cell (H'.at 9 rfl) (show j < 6 by omega) (show 0 + ((j : Int)).toNat * 1 = j by omega)))) ?_
          refine q_val (wantsY 16 181 false rfl (by kernel_rfl) rfl (by kernel_rfl)) (d := 185) (v := (.bool (A1.getD j false))) rfl (fun _ H' => (by kernel_rfl)) ?_
          refine (bsplit (A1.getD j false)).elim (fun b308 => ?_) (fun b308 => ?_)
          · refine q_know 185 (.bool true) (congrArg Value.bool b308) ?_
            refine q_val (wantsY 20 185 true rfl (by kernel_rfl) rfl (by kernel_rfl)) (d := 186) (v := (.int .i64 ((j : Int)))) rfl (fun _ H' => (by kernel_rfl)) ?_
            refine q_val (wantsY 20 185 true rfl (by kernel_rfl) rfl (by kernel_rfl)) (d := 187) (v := (.pointer (some ⟨b42, 0 + ((j : Int)).toNat * 1, none⟩))) rfl (fun _ H' => (e_indexAddrA (E := 4) (N := 6) (by kernel_rfl) (by kernel_rfl) (Nat.le_of_ble_eq_true rfl) rfl rfl (by omega) (by omega))) ?_
            refine q_val (wantsY 20 185 true rfl (by kernel_rfl) rfl (by kernel_rfl)) (d := 188) (v := (.bool (D1.getD j false))) rfl (fun _ H' => (e_load1 rfl (by kernel_rfl) (rowTr_cell (H'.at 10 rfl) (show j < 6 by omega) (show 0 + ((j : Int)).toNat * 1 = j by omega)))) ?_
            refine q_val (wantsY 16 181 false rfl (by kernel_rfl) rfl (by kernel_rfl)) (d := 189) (v := (.bool (D1.getD j false))) rfl (fun _ H' => (by kernel_rfl)) ?_
            refine q_val (wants0 rfl) (d := 190) (v := (.bool (D1.getD j false))) rfl (fun _ H' => (by kernel_rfl)) ?_
            refine q_end ?_
            intro w309 H310
            refine then_normal ?_
            have b311 : (D1.getD j false) = false := by (rw [hE1.d.2 j (by omega)]; exact hP1.apart (i := (j : Int)) ((hE1.a.2 j (by omega)).symm.trans b308))
            refine wp_know 190 (.bool false) (congrArg Value.bool b311) ?_
            refine wp_iff rfl ?_
            refine w_skip ?_
            refine blk_normal ?_
            refine then_normal ?_
            refine w_lit ?_
            refine wl_pure (wants0 rfl) (d := 191) (v := (.int .i64 ((j : Int) + 1))) rfl (e_int (z := (j : Int) + 1) (by kernel_rfl) (IntWalk.i64_in _ (by omega))) ?_
            refine wl_pure (wants0 rfl) (d := 162) (v := (.int .i64 ((j : Int) + 1))) rfl (by kernel_rfl) ?_
            refine w_nil ?_
            refine round_back ?_ _ ⟨(j + 1), (show ((.int .i64 ((j : Int) + 1)) : Value) = _ by first | rfl | go_num), (by omega), H310, rfl⟩ (by omega)
            exact (same_upd rfl (same_upd rfl (same_upd rfl (same_upd rfl (same_upd rfl (same_upd rfl (same_upd rfl (same_upd rfl (same_upd rfl (same_upd rfl (same_upd rfl (same_upd rfl (same_upd rfl (same_upd rfl (same_upd rfl (same_upd rfl (same_upd rfl (same_upd rfl (same_upd rfl (same_upd rfl (same_upd rfl (same_upd rfl (same_upd rfl (same_upd rfl (same_upd rfl (same_upd rfl (same_upd rfl (same_upd rfl (same_upd rfl (same_upd rfl (same_upd rfl (same_upd rfl (same_upd rfl (same_upd rfl (same_upd rfl (same_upd rfl (same_upd rfl (same_ovr))))))))))))))))))))))))))))))))))))))
          · refine q_know 185 (.bool false) (congrArg Value.bool b308) ?_
            refine q_pass (wantsN 20 185 true rfl (by kernel_rfl) rfl (by kernel_rfl)) rfl ?_
            refine q_pass (wantsN 20 185 true rfl (by kernel_rfl) rfl (by kernel_rfl)) rfl ?_
            refine q_pass (wantsN 20 185 true rfl (by kernel_rfl) rfl (by kernel_rfl)) rfl ?_
            refine q_val (wantsY 16 181 false rfl (by kernel_rfl) rfl (by kernel_rfl)) (d := 189) (v := (.bool false)) rfl (fun _ H' => (by kernel_rfl)) ?_
            refine q_val (wants0 rfl) (d := 190) (v := (.bool false)) rfl (fun _ H' => (by kernel_rfl)) ?_
            refine q_end ?_
            intro w312 H313
            refine then_normal ?_
            refine wp_iff rfl ?_
            refine w_skip ?_
            refine blk_normal ?_
            refine then_normal ?_
            refine w_lit ?_
            refine wl_pure (wants0 rfl) (d := 191) (v := (.int .i64 ((j : Int) + 1))) rfl (e_int (z := (j : Int) + 1) (by kernel_rfl) (IntWalk.i64_in _ (by omega))) ?_
            refine wl_pure (wants0 rfl) (d := 162) (v := (.int .i64 ((j : Int) + 1))) rfl (by kernel_rfl) ?_
            refine w_nil ?_
            refine round_back ?_ _ ⟨(j + 1), (show ((.int .i64 ((j : Int) + 1)) : Value) = _ by first | rfl | go_num), (by omega), H313, rfl⟩ (by omega)
            exact (same_upd rfl (same_upd rfl (same_upd rfl (same_upd rfl (same_upd rfl (same_upd rfl (same_upd rfl (same_upd rfl (same_upd rfl (same_upd rfl (same_upd rfl (same_upd rfl (same_upd rfl (same_upd rfl (same_upd rfl (same_upd rfl (same_upd rfl (same_upd rfl (same_upd rfl (same_upd rfl (same_upd rfl (same_upd rfl (same_upd rfl (same_upd rfl (same_upd rfl (same_upd rfl (same_upd rfl (same_upd rfl (same_upd rfl (same_upd rfl (same_upd rfl (same_upd rfl (same_upd rfl (same_upd rfl (same_upd rfl (same_upd rfl (same_ovr)))))))))))))))))))))))))))))))))))))
        · have g314 := of_decide_eq_false b301
          refine wp_know 163 (.bool false) (congrArg Value.bool b301) ?_
          have g315 := of_decide_eq_false b301
          refine wp_iff rfl ?_
          refine w_exit ?_
          refine then_exit ?_
          refine back_exit ?_
          refine blk_hit ?_
          refine blk_normal ?_
          refine then_normal ?_
          refine w_lit ?_
          refine wl_pure (wants0 rfl) (d := 45) (v := (.int .i64 ((i : Int)))) rfl (by kernel_rfl) ?_
          refine wl_pure (wants0 rfl) (d := 46) (v := (.int .i64 ((i : Int) + 1))) rfl (e_int (z := (i : Int) + 1) (by kernel_rfl) (IntWalk.i64_in _ (by omega))) ?_
          refine wl_pure (wants0 rfl) (d := 11) (v := (.int .i64 ((i : Int) + 1))) rfl (by kernel_rfl) ?_
          refine w_nil ?_
          refine round_back ?_ _ ⟨(i + 1), L1, B1, A1, D1, T1, (show ((.int .i64 ((i : Int) + 1)) : Value) = _ by first | rfl | go_num), (by omega), hP1, hE1, (by omega), (by omega), H298, rfl⟩ (by omega)
          exact (same_upd rfl (same_upd rfl (same_upd rfl (same_upd rfl (same_upd rfl (same_upd rfl (same_ovr2 rfl (same_upd rfl (same_ovr2 rfl (same_upd rfl (same_upd rfl (same_upd rfl (same_upd rfl (same_upd rfl (same_upd rfl (same_upd rfl (same_upd rfl (same_upd rfl (same_upd rfl (same_upd rfl (same_upd rfl (same_upd rfl (same_upd rfl (same_upd rfl (same_upd rfl (same_upd rfl (same_upd rfl (same_upd rfl (same_ovr)))))))))))))))))))))))))))))
    · have g316 := of_decide_eq_false b59
      refine wp_know 44 (.bool false) (congrArg Value.bool b59) ?_
      have g317 := of_decide_eq_false b59
      refine wp_iff rfl ?_
      refine w_exit ?_
      refine then_exit ?_
      refine back_exit ?_
      refine blk_hit ?_
      refine then_normal ?_
      refine w_seq ?_
      refine w_lit ?_
      refine wl_do (wants0 rfl) (fun K318 hK318 => ?_)
      refine d_call (d := 192) rfl (by kernel_rfl) (wakes_any w52) ?_
      rintro _ w319 ⟨rfl, u321⟩
      have H320 := H53.keepU u321
      refine ⟨_, rfl, ?_⟩
      refine hK318 _ _ ?_
      clear hK318 K318
      refine wl_pure (wants0 rfl) (d := 2) (v := (.bool true)) rfl (by kernel_rfl) ?_
      refine w_nil ?_
      refine then_normal ?_
      refine w_ret ?_
      refine end1 rfl (res_tmp (v := (.bool true)) rfl) ?_
      exact ⟨rfl, H320.upd 0 rfl [] (fun _ h => h.elim)⟩
  · have g322 := of_decide_eq_false b56
    refine wl_know 41 (.bool false) (congrArg Value.bool b56) ?_
    have g323 := of_decide_eq_false b56
    refine wl_pass (wantsN 4 41 true rfl (by kernel_rfl) rfl (by kernel_rfl)) rfl ?_
    refine wl_pass (wantsN 4 41 true rfl (by kernel_rfl) rfl (by kernel_rfl)) rfl ?_
    refine wl_pure (wants0 rfl) (d := 44) (v := (.bool false)) rfl (by kernel_rfl) ?_
    refine w_nil ?_
    refine then_normal ?_
    refine wp_iff rfl ?_
    refine w_exit ?_
    refine then_exit ?_
    refine back_exit ?_
    refine blk_hit ?_
    refine then_normal ?_
    refine w_seq ?_
    refine w_lit ?_
    refine wl_do (wants0 rfl) (fun K324 hK324 => ?_)
    refine d_call (d := 192) rfl (by kernel_rfl) (wakes_any w52) ?_
    rintro _ w325 ⟨rfl, u327⟩
    have H326 := H53.keepU u327
    refine ⟨_, rfl, ?_⟩
    refine hK324 _ _ ?_
    clear hK324 K324
    refine wl_pure (wants0 rfl) (d := 2) (v := (.bool true)) rfl (by kernel_rfl) ?_
    refine w_nil ?_
    refine then_normal ?_
    refine w_ret ?_
    refine end1 rfl (res_tmp (v := (.bool true)) rfl) ?_
    exact ⟨rfl, H326.upd 0 rfl [] (fun _ h => h.elim)⟩

end Go.Proofs.Ytoiplcicbjimlaa
