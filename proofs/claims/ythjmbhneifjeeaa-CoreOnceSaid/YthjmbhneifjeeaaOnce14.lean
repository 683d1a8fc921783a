/- WHAT IS PROVED: the walk of CoreOnce. Conditions: stated with each. -/
import Derived.Test.YthjmbhneifjeeaaWakes14
import Derived.Test.YthjmbhneifjeeaaOnce14M
import Derived.Test.YthjmbhneifjeeaaCut14
namespace Go.Proofs.Ythjmbhneifjeeaa
open Go.RowKit

set_option maxRecDepth 100000 in
set_option maxHeartbeats 1000000 in
theorem once14_walk (w : World) (f replica F : Int) (va : Option Addr) (vc : Nat) (ls : List InputD) (hls : InputsAt w (.slice va ls.length vc) ls) (hF : F = 1 + withinV f 2) (hf : 1 ≤ F ∧ F ≤ 2) (D0 : CoreD) (hok : newOk F 1 0 (withinV replica (3 * F + 1)) = true) (hD0 : newD F 1 0 (withinV replica (3 * F + 1)) = D0) (C0 : CI D0) (hOn : ∀ k : Nat, k < ls.length → k < 40 → OnOk F 0 (withinV replica (3 * F + 1)) (onR (3 * F + 1) ls (startD D0).1 k) (onE (3 * F + 1) ls (startD D0).1 (startD D0).2 k) ((onP (startD D0).2 k) ++ onA (3 * F + 1) ls (startD D0).1 k) (onD (3 * F + 1) ls (startD D0).1 k) (onD (3 * F + 1) ls (startD D0).1 (k + 1))) :
    Calls Try.prog 10 #[(.int .i64 (f)), (.int .i64 (replica)), (.slice va ls.length vc)] w fun e w' => e = .returned (.bool true) ∧ Upd [] w w' := by
  have H := Sat.start0 w
  refine calls_fr Try.func10 rfl 207 rfl (Nat.le_of_ble_eq_true rfl) ?_
  refine w_seq ?_
  refine w_lit ?_
  refine wl_pure (wants0 rfl) (d := 6) (v := (.bool false)) rfl (by kernel_rfl) ?_
  refine w_nil ?_
  refine then_normal ?_
  refine w_seq ?_
  refine w_lit ?_
  refine wl_pure (wants0 rfl) (d := 20) (v := (.int .i64 (f))) rfl (by kernel_rfl) ?_
  refine wl_do (wants0 rfl) (fun K1 hK1 => ?_)
  refine d_call (d := 21) rfl (by kernel_rfl) (within_any w f 2 (by omega)) ?_
  rintro _ w2 ⟨rfl, u4⟩
  have H3 := H.keepU u4
  refine ⟨_, rfl, ?_⟩
  refine hK1 _ _ ?_
  clear hK1 K1
  refine wl_pure (wants0 rfl) (d := 22) (v := (.int .i64 (F))) rfl (e_int (z := 1 + (withinV f 2)) (by kernel_rfl) ((by rw [IntWalk.i64_in _ (by omega)]; exact hF.symm))) ?_
  refine wl_pure (wants0 rfl) (d := 23) (v := (.agg ⟨([(.int .i64 (F)), (.int .i64 (1))] : List Value)⟩)) rfl (by kernel_rfl) ?_
  refine wl_do (wants0 rfl) (fun K5 hK5 => ?_)
  refine d_alloc (zs := ([(.int .i64 (0)), (.int .i64 (0))] : List Value)) (z := (.agg ⟨([(.int .i64 (0)), (.int .i64 (0))] : List Value)⟩)) rfl H3 (by kernel_rfl) (by kernel_rfl) ?_
  intro b6 w7 (H8 : Sat w [restC w (fun _ => False), cellC b6 25 ([(.int .i64 (0)), (.int .i64 (0))] : List Value)] w7)
  refine hK5 _ _ ?_
  clear hK5 K5
  refine wl_do (wants0 rfl) (fun K9 hK9 => ?_)
  refine d_storeX (vs := ([(.int .i64 (F)), (.int .i64 (1))] : List Value)) (cs' := ([(.int .i64 (F)), (.int .i64 (1))] : List Value)) rfl H8 1 rfl rfl rfl rfl (by kernel_rfl) (Nat.le_of_ble_eq_true (by kernel_rfl)) (Nat.le_of_ble_eq_true (by kernel_rfl)) (by kernel_rfl) (by kernel_rfl) ?_
  intro w10 (H11 : Sat w [restC w (fun _ => False), cellC b6 25 ([(.int .i64 (F)), (.int .i64 (1))] : List Value)] w10)
  refine hK9 _ _ ?_
  clear hK9 K9
  refine w_nil ?_
  refine then_normal ?_
  refine w_seq ?_
  refine w_lit ?_
  refine wl_pure (wants0 rfl) (d := 24) (v := (.agg ⟨([(.int .i64 (F)), (.int .i64 (1))] : List Value)⟩)) rfl (e_loadN (vs := ([(.int .i64 (F)), (.int .i64 (1))] : List Value)) rfl (by kernel_rfl) (by kernel_rfl) (by exact Nat.le_of_ble_eq_true (by kernel_rfl)) (H11.at 1 rfl) (by kernel_rfl)) ?_
  refine wl_do (wants0 rfl) (fun K13 hK13 => ?_)
  refine d_call (d := 25) rfl (by kernel_rfl) (refN_any w10 F 1 (by omega)) ?_
  rintro _ w14 ⟨rfl, u16⟩
  have H15 := H11.keepU u16
  refine ⟨_, rfl, ?_⟩
  refine hK13 _ _ ?_
  clear hK13 K13
  refine wl_pure (wants0 rfl) (d := 8) (v := (.int .i64 (3 * F + 1))) rfl (by kernel_rfl) ?_
  refine w_nil ?_
  refine then_normal ?_
  refine w_seq ?_
  refine h_start H15 [restC w (fun _ => False), cellC b6 25 ([(.int .i64 (F)), (.int .i64 (1))] : List Value)] 10 rfl (by kernel_rfl) (fun Hx => (Hx.pick [0, 1] (by decide))) ?_
  intro w17 H18 S19
  refine h_val 0 rfl (by kernel_rfl) (by kernel_rfl) (by kernel_rfl) (fun _ _ _ h => h) S19 (wants0 rfl) (d := 27) (v := (.agg ⟨([(.int .i64 (F)), (.int .i64 (1))] : List Value)⟩)) rfl (fun _ H' => (e_loadN (vs := ([(.int .i64 (F)), (.int .i64 (1))] : List Value)) rfl (by kernel_rfl) (by kernel_rfl) (by exact Nat.le_of_ble_eq_true (by kernel_rfl)) (H'.at 1 rfl) (by kernel_rfl))) ?_
  refine h_val 1 rfl (by kernel_rfl) (by kernel_rfl) (by kernel_rfl) (fun _ _ _ h => h) S19 (wants0 rfl) (d := 28) (v := (.int .i64 (replica))) rfl (fun _ H' => (by kernel_rfl)) ?_
  refine h_val 2 rfl (by kernel_rfl) (by kernel_rfl) (by kernel_rfl) (fun _ _ _ h => h) S19 (wants0 rfl) (d := 29) (v := (.int .i64 (3 * F + 1))) rfl (fun _ H' => (by kernel_rfl)) ?_
  refine h_do 3 rfl (by kernel_rfl) (wants0 rfl) (fun K20 hK20 => ?_)
  refine d_call (d := 30) rfl (by kernel_rfl) (within_any w17 replica (3 * F + 1) (by omega)) ?_
  rintro _ w21 ⟨rfl, u23⟩
  have H22 := H18.keepU u23
  refine ⟨_, rfl, ?_⟩
  have S24 := H22.pick [0, 1] (by decide)
  refine hK20 _ _ S24 ?_
  clear hK20 K20
  refine h_do 4 rfl (by kernel_rfl) (wants0 rfl) (fun K25 hK25 => ?_)
  refine d_call (d := 31) rfl (by kernel_rfl) (coreNew_any w21 F 1 0 (withinV replica (3 * F + 1)) (by omega)) ?_
  rintro _ w26 (⟨_, k31, t32, hb33, cb34, ab35, lb36, pb37, rfl, k29, u28, q30⟩ | ⟨hno, _⟩)
  rotate_left
  · exact absurd hno (by rw [hok]; simp)
  rw [hD0] at k29 q30
  have H38 : Sat w [restC w (fun _ => False), cellC b6 25 ([(.int .i64 (F)), (.int .i64 (1))] : List Value), coreC k31 t32 hb33 cb34 ab35 lb36 pb37 D0] w26 := H22.addU u28 k29 q30
  have H27 : Sat w [restC w (fun _ => False), cellC b6 25 ([(.int .i64 (F)), (.int .i64 (1))] : List Value), cellC k31 92 (([(.int .i64 (D0.f)), (.int .i64 (D0.c)), (.int .i64 (D0.epoch)), (.int .i64 (D0.replica)), (.int .i64 (D0.s.round)), (.int .i64 (D0.s.step)), (.int .i64 (D0.s.lr)), (.int .i64 (D0.s.vr))] : List Value) ++ hc D0.s.locked ++ hc D0.s.valid ++ ([(.bool (D0.s.decided))] : List Value) ++ hc D0.s.decision ++ ([(.pointer (some ⟨t32, 0, none⟩)), (.map (some pb37)), (.bool (D0.wv)), (.bool (D0.sp)), (.bool (D0.sc))] : List Value)), talC t32 hb33 cb34 ab35 lb36 D0.f D0.c D0.L, mapC pb37 (Value.int .i64) propV D0.P] w26 := H38.open 2 rfl
  refine ⟨_, rfl, ?_⟩
  have S39 := H27.pick [0, 1] (by decide)
  refine hK25 _ _ S39 ?_
  clear hK25 K25
  refine h_val 5 rfl (by kernel_rfl) (by kernel_rfl) (by kernel_rfl) (fun _ _ _ h => h) S39 (wants0 rfl) (d := 26) (v := (.tuple #[(.pointer (some ⟨k31, 0, none⟩)), (.int .i64 (0))])) rfl (fun _ H' => (by kernel_rfl)) ?_
  refine h_val 6 rfl (by kernel_rfl) (by kernel_rfl) (by kernel_rfl) (fun _ _ _ h => h) S39 (wants0 rfl) (d := 32) (v := (.pointer (some ⟨k31, 0, none⟩))) rfl (fun _ H' => (by kernel_rfl)) ?_
  refine h_val 7 rfl (by kernel_rfl) (by kernel_rfl) (by kernel_rfl) (fun _ _ _ h => h) S39 (wants0 rfl) (d := 33) (v := (.int .i64 (0))) rfl (fun _ H' => (by kernel_rfl)) ?_
  refine h_val 8 rfl (by kernel_rfl) (by kernel_rfl) (by kernel_rfl) (fun _ _ _ h => h) S39 (wants0 rfl) (d := 9) (v := (.pointer (some ⟨k31, 0, none⟩))) rfl (fun _ H' => (by kernel_rfl)) ?_
  refine h_val 9 rfl (by kernel_rfl) (by kernel_rfl) (by kernel_rfl) (fun _ _ _ h => h) S39 (wants0 rfl) (d := 10) (v := (.int .i64 (0))) rfl (fun _ H' => (by kernel_rfl)) ?_
  refine h_fin (by kernel_rfl) ?_
  refine then_normal ?_
  refine w_seq ?_
  refine w_seq ?_
  refine w_lit ?_
  refine wl_pure (wants0 rfl) (d := 34) (v := (.int .i64 (0))) rfl (by kernel_rfl) ?_
  refine wl_pure (wants0 rfl) (d := 35) (v := (.bool false)) rfl (by kernel_rfl) ?_
  refine wl_pure (wants0 rfl) (d := 36) (v := (.bool false)) rfl (by kernel_rfl) ?_
  refine wl_pure (wantsY 2 36 false rfl (by kernel_rfl) rfl (by kernel_rfl)) (d := 37) (v := (.pointer (some ⟨k31, 0, none⟩))) rfl (by kernel_rfl) ?_
  refine wl_pure (wantsY 2 36 false rfl (by kernel_rfl) rfl (by kernel_rfl)) (d := 38) (v := (.bool false)) rfl (by kernel_rfl) ?_
  refine wl_pure (wants0 rfl) (d := 39) (v := (.bool false)) rfl (by kernel_rfl) ?_
  refine w_nil ?_
  refine then_normal ?_
  refine wp_iff rfl ?_
  refine w_skip ?_
  refine then_normal ?_
  refine w_seq ?_
  refine w_lit ?_
  refine wl_do (wants0 rfl) (fun K40 hK40 => ?_)
  refine d_makeMap turnV (Value.int .i64) rfl H27 ?_
  intro b41 w42 (H43 : Sat w [restC w (fun _ => False), cellC b6 25 ([(.int .i64 (F)), (.int .i64 (1))] : List Value), cellC k31 92 (([(.int .i64 (D0.f)), (.int .i64 (D0.c)), (.int .i64 (D0.epoch)), (.int .i64 (D0.replica)), (.int .i64 (D0.s.round)), (.int .i64 (D0.s.step)), (.int .i64 (D0.s.lr)), (.int .i64 (D0.s.vr))] : List Value) ++ hc D0.s.locked ++ hc D0.s.valid ++ ([(.bool (D0.s.decided))] : List Value) ++ hc D0.s.decision ++ ([(.pointer (some ⟨t32, 0, none⟩)), (.map (some pb37)), (.bool (D0.wv)), (.bool (D0.sp)), (.bool (D0.sc))] : List Value)), talC t32 hb33 cb34 ab35 lb36 D0.f D0.c D0.L, mapC pb37 (Value.int .i64) propV D0.P, mapC b41 turnV (Value.int .i64) []] w42)
  refine hK40 _ _ ?_
  clear hK40 K40
  refine wl_pure (wants0 rfl) (d := 11) (v := (.map (some b41))) rfl (by kernel_rfl) ?_
  refine w_nil ?_
  refine then_normal ?_
  refine w_seq ?_
  refine w_lit ?_
  refine wl_pure (wants0 rfl) (d := 12) (v := (.int .i64 (0))) rfl (by kernel_rfl) ?_
  refine w_nil ?_
  refine then_normal ?_
  refine w_seq ?_
  refine w_lit ?_
  refine wl_pure (wants0 rfl) (d := 41) (v := (.pointer (some ⟨k31, 0, none⟩))) rfl (by kernel_rfl) ?_
  refine wl_do (wants0 rfl) (fun K44 hK44 => ?_)
  refine d_call (d := 42) rfl (by kernel_rfl) (coreStart_any w42 k31 t32 hb33 cb34 ab35 lb36 pb37 D0 (ok_of (by kernel_rfl) (H43.fin [2, 3, 4] (by decide) rfl)) C0 ) ?_
  rintro _ w46 ⟨v45, rfl, S47⟩
  replace S47 := Sat.cast (G' := [cellC k31 92 (([(.int .i64 (((startD D0).1).f)), (.int .i64 (((startD D0).1).c)), (.int .i64 (((startD D0).1).epoch)), (.int .i64 (((startD D0).1).replica)), (.int .i64 (((startD D0).1).s.round)), (.int .i64 (((startD D0).1).s.step)), (.int .i64 (((startD D0).1).s.lr)), (.int .i64 (((startD D0).1).s.vr))] : List Value) ++ hc ((startD D0).1).s.locked ++ hc ((startD D0).1).s.valid ++ ([(.bool (((startD D0).1).s.decided))] : List Value) ++ hc ((startD D0).1).s.decision ++ ([(.pointer (some ⟨t32, 0, none⟩)), (.map (some pb37)), (.bool (((startD D0).1).wv)), (.bool (((startD D0).1).sp)), (.bool (((startD D0).1).sc))] : List Value)), talC t32 hb33 cb34 ab35 lb36 ((startD D0).1).f ((startD D0).1).c ((startD D0).1).L, mapC pb37 (Value.int .i64) propV ((startD D0).1).P, rowC 45 35 v45 (((startD D0).2).length) (((startD D0).2).flatMap encA), restC w42 (coreC k31 t32 hb33 cb34 ab35 lb36 pb37 D0).fp]) S47 (by kernel_rfl)
  have H49 : Sat w [restC w (fun _ => False), cellC b6 25 ([(.int .i64 (F)), (.int .i64 (1))] : List Value), cellC k31 92 (([(.int .i64 (((startD D0).1).f)), (.int .i64 (((startD D0).1).c)), (.int .i64 (((startD D0).1).epoch)), (.int .i64 (((startD D0).1).replica)), (.int .i64 (((startD D0).1).s.round)), (.int .i64 (((startD D0).1).s.step)), (.int .i64 (((startD D0).1).s.lr)), (.int .i64 (((startD D0).1).s.vr))] : List Value) ++ hc ((startD D0).1).s.locked ++ hc ((startD D0).1).s.valid ++ ([(.bool (((startD D0).1).s.decided))] : List Value) ++ hc ((startD D0).1).s.decision ++ ([(.pointer (some ⟨t32, 0, none⟩)), (.map (some pb37)), (.bool (((startD D0).1).wv)), (.bool (((startD D0).1).sp)), (.bool (((startD D0).1).sc))] : List Value)), talC t32 hb33 cb34 ab35 lb36 ((startD D0).1).f ((startD D0).1).c ((startD D0).1).L, mapC pb37 (Value.int .i64) propV ((startD D0).1).P, mapC b41 turnV (Value.int .i64) [], rowC 45 35 v45 (((startD D0).2).length) (((startD D0).2).flatMap encA)] w46 := (Sat.turnL (L' := [cellC k31 92 (([(.int .i64 (((startD D0).1).f)), (.int .i64 (((startD D0).1).c)), (.int .i64 (((startD D0).1).epoch)), (.int .i64 (((startD D0).1).replica)), (.int .i64 (((startD D0).1).s.round)), (.int .i64 (((startD D0).1).s.step)), (.int .i64 (((startD D0).1).s.lr)), (.int .i64 (((startD D0).1).s.vr))] : List Value) ++ hc ((startD D0).1).s.locked ++ hc ((startD D0).1).s.valid ++ ([(.bool (((startD D0).1).s.decided))] : List Value) ++ hc ((startD D0).1).s.decision ++ ([(.pointer (some ⟨t32, 0, none⟩)), (.map (some pb37)), (.bool (((startD D0).1).wv)), (.bool (((startD D0).1).sp)), (.bool (((startD D0).1).sc))] : List Value)), talC t32 hb33 cb34 ab35 lb36 ((startD D0).1).f ((startD D0).1).c ((startD D0).1).L, mapC pb37 (Value.int .i64) propV ((startD D0).1).P, rowC 45 35 v45 (((startD D0).2).length) (((startD D0).2).flatMap encA)]) (R := [restC w (fun _ => False), cellC b6 25 ([(.int .i64 (F)), (.int .i64 (1))] : List Value), mapC b41 turnV (Value.int .i64) []]) H43 [2, 3, 4] [0, 1, 5] (by decide) (by kernel_rfl) rfl S47).pick [4, 5, 0, 1, 2, 6, 3] (by decide)
  obtain ⟨a50, c51, rfl⟩ := ownsRow_shape (H49.at 6 rfl)
  refine ⟨_, rfl, ?_⟩
  refine hK44 _ _ ?_
  clear hK44 K44
  refine wl_pure (wants0 rfl) (d := 13) (v := (.slice a50 (((startD D0).2).length) c51)) rfl (by kernel_rfl) ?_
  refine w_nil ?_
  refine then_normal ?_
  refine w_seq ?_
  refine w_seq ?_
  refine w_lit ?_
  refine wl_pure (wants0 rfl) (d := 14) (v := (.int .i64 (0))) rfl (by kernel_rfl) ?_
  refine w_nil ?_
  refine then_normal ?_
  refine w_block ?_
  have H52 : Sat w [restC w (fun _ => False), cellC b6 25 ([(.int .i64 (F)), (.int .i64 (1))] : List Value), cellC k31 92 (([(.int .i64 ((onD (3 * F + 1) ls (startD D0).1 0).f)), (.int .i64 ((onD (3 * F + 1) ls (startD D0).1 0).c)), (.int .i64 ((onD (3 * F + 1) ls (startD D0).1 0).epoch)), (.int .i64 ((onD (3 * F + 1) ls (startD D0).1 0).replica)), (.int .i64 ((onD (3 * F + 1) ls (startD D0).1 0).s.round)), (.int .i64 ((onD (3 * F + 1) ls (startD D0).1 0).s.step)), (.int .i64 ((onD (3 * F + 1) ls (startD D0).1 0).s.lr)), (.int .i64 ((onD (3 * F + 1) ls (startD D0).1 0).s.vr))] : List Value) ++ hc (onD (3 * F + 1) ls (startD D0).1 0).s.locked ++ hc (onD (3 * F + 1) ls (startD D0).1 0).s.valid ++ ([(.bool ((onD (3 * F + 1) ls (startD D0).1 0).s.decided))] : List Value) ++ hc (onD (3 * F + 1) ls (startD D0).1 0).s.decision ++ ([(.pointer (some ⟨t32, 0, none⟩)), (.map (some pb37)), (.bool ((onD (3 * F + 1) ls (startD D0).1 0).wv)), (.bool ((onD (3 * F + 1) ls (startD D0).1 0).sp)), (.bool ((onD (3 * F + 1) ls (startD D0).1 0).sc))] : List Value)), talC t32 hb33 cb34 ab35 lb36 (onD (3 * F + 1) ls (startD D0).1 0).f (onD (3 * F + 1) ls (startD D0).1 0).c (onD (3 * F + 1) ls (startD D0).1 0).L, mapC pb37 (Value.int .i64) propV (onD (3 * F + 1) ls (startD D0).1 0).P, mapC b41 turnV (Value.int .i64) (bumps (onE (3 * F + 1) ls (startD D0).1 (startD D0).2 0)), rowC 45 35 (.slice a50 (onP (startD D0).2 0).length c51) ((onP (startD D0).2 0).length) ((onP (startD D0).2 0).flatMap encA)] w46 := H49.cast (by kernel_rfl)
  refine wp_round [6, 12, 13, 14, 15, 16, 18, 19, 43, 44, 45, 46, 47, 48, 49, 50, 51, 52, 53, 54, 55, 56, 57, 58, 59, 60, 61, 62, 63, 64, 65, 66, 67, 68, 69, 70, 71, 72, 73, 74, 75, 76, 77, 78, 79, 80, 81, 82, 83, 84, 85, 86, 87, 88, 89, 90, 91, 92, 93, 94, 95, 96, 97, 98, 99, 100, 101, 102, 103, 104, 105, 106, 107, 108, 109, 110, 111, 112, 113, 114, 115, 116, 117, 118, 119, 120, 121, 122, 123, 124, 125, 126, 127, 128, 129, 130, 131, 132, 133, 134, 135, 136, 137, 138, 139, 140, 141, 142, 143, 144, 145, 146, 147, 148, 149, 150, 151, 152, 153, 154, 155, 156, 157, 158, 159, 160, 161, 162, 163, 164, 165, 166, 167, 168, 169, 170, 171, 172, 173, 174, 175, 176, 177, 178, 179, 180, 181, 182, 183, 184, 185, 186, 187, 188, 189, 190, 191, 192, 193, 194, 195, 196, 197, 198, 199, 200, 201, 202, 203, 204, 205] (fun F_ W_ m_ => ∃ (k : Nat) (a : Option Addr) (q : Nat), F_ 14 = (.int .i64 ((k : Int))) ∧ F_ 12 = (.int .i64 (onR (3 * F + 1) ls (startD D0).1 k)) ∧ F_ 13 = (.slice a (onP (startD D0).2 k).length q) ∧ (k ≤ ls.length ∧ k ≤ 40) ∧ Sat w [restC w (fun _ => False), cellC b6 25 ([(.int .i64 (F)), (.int .i64 (1))] : List Value), cellC k31 92 (([(.int .i64 ((onD (3 * F + 1) ls (startD D0).1 k).f)), (.int .i64 ((onD (3 * F + 1) ls (startD D0).1 k).c)), (.int .i64 ((onD (3 * F + 1) ls (startD D0).1 k).epoch)), (.int .i64 ((onD (3 * F + 1) ls (startD D0).1 k).replica)), (.int .i64 ((onD (3 * F + 1) ls (startD D0).1 k).s.round)), (.int .i64 ((onD (3 * F + 1) ls (startD D0).1 k).s.step)), (.int .i64 ((onD (3 * F + 1) ls (startD D0).1 k).s.lr)), (.int .i64 ((onD (3 * F + 1) ls (startD D0).1 k).s.vr))] : List Value) ++ hc (onD (3 * F + 1) ls (startD D0).1 k).s.locked ++ hc (onD (3 * F + 1) ls (startD D0).1 k).s.valid ++ ([(.bool ((onD (3 * F + 1) ls (startD D0).1 k).s.decided))] : List Value) ++ hc (onD (3 * F + 1) ls (startD D0).1 k).s.decision ++ ([(.pointer (some ⟨t32, 0, none⟩)), (.map (some pb37)), (.bool ((onD (3 * F + 1) ls (startD D0).1 k).wv)), (.bool ((onD (3 * F + 1) ls (startD D0).1 k).sp)), (.bool ((onD (3 * F + 1) ls (startD D0).1 k).sc))] : List Value)), talC t32 hb33 cb34 ab35 lb36 (onD (3 * F + 1) ls (startD D0).1 k).f (onD (3 * F + 1) ls (startD D0).1 k).c (onD (3 * F + 1) ls (startD D0).1 k).L, mapC pb37 (Value.int .i64) propV (onD (3 * F + 1) ls (startD D0).1 k).P, mapC b41 turnV (Value.int .i64) (bumps (onE (3 * F + 1) ls (startD D0).1 (startD D0).2 k)), rowC 45 35 (.slice a (onP (startD D0).2 k).length q) ((onP (startD D0).2 k).length) ((onP (startD D0).2 k).flatMap encA)] W_ ∧ m_ = 40 - k) _ ⟨0, a50, c51, (by first | rfl | go_num), (by first | rfl | go_num), (by first | rfl | go_num), ⟨Nat.zero_le _, Nat.zero_le _⟩, H52, rfl⟩ ?_
  rintro g53 w54 _ ⟨k, a, q, v56, v57, v58, hk, H55, rfl⟩
  refine wp_know 14 _ v56 ?_
  refine wp_know 12 _ v57 ?_
  refine wp_know 13 _ v58 ?_
  refine w_seq ?_
  refine wp_meetR [43, 44, 45, 46, 47, 48, 49, 50] (fun G_ W_ => G_ 50 = (.bool (decide ((k : Int) < ls.length) && decide ((k : Int) < 40))) ∧ Sat w [restC w (fun _ => False), cellC b6 25 ([(.int .i64 (F)), (.int .i64 (1))] : List Value), cellC k31 92 (([(.int .i64 ((onD (3 * F + 1) ls (startD D0).1 k).f)), (.int .i64 ((onD (3 * F + 1) ls (startD D0).1 k).c)), (.int .i64 ((onD (3 * F + 1) ls (startD D0).1 k).epoch)), (.int .i64 ((onD (3 * F + 1) ls (startD D0).1 k).replica)), (.int .i64 ((onD (3 * F + 1) ls (startD D0).1 k).s.round)), (.int .i64 ((onD (3 * F + 1) ls (startD D0).1 k).s.step)), (.int .i64 ((onD (3 * F + 1) ls (startD D0).1 k).s.lr)), (.int .i64 ((onD (3 * F + 1) ls (startD D0).1 k).s.vr))] : List Value) ++ hc (onD (3 * F + 1) ls (startD D0).1 k).s.locked ++ hc (onD (3 * F + 1) ls (startD D0).1 k).s.valid ++ ([(.bool ((onD (3 * F + 1) ls (startD D0).1 k).s.decided))] : List Value) ++ hc (onD (3 * F + 1) ls (startD D0).1 k).s.decision ++ ([(.pointer (some ⟨t32, 0, none⟩)), (.map (some pb37)), (.bool ((onD (3 * F + 1) ls (startD D0).1 k).wv)), (.bool ((onD (3 * F + 1) ls (startD D0).1 k).sp)), (.bool ((onD (3 * F + 1) ls (startD D0).1 k).sc))] : List Value)), talC t32 hb33 cb34 ab35 lb36 (onD (3 * F + 1) ls (startD D0).1 k).f (onD (3 * F + 1) ls (startD D0).1 k).c (onD (3 * F + 1) ls (startD D0).1 k).L, mapC pb37 (Value.int .i64) propV (onD (3 * F + 1) ls (startD D0).1 k).P, mapC b41 turnV (Value.int .i64) (bumps (onE (3 * F + 1) ls (startD D0).1 (startD D0).2 k)), rowC 45 35 (.slice a (onP (startD D0).2 k).length q) ((onP (startD D0).2 k).length) ((onP (startD D0).2 k).flatMap encA)] W_) ?_ ?_
  · refine w_lit ?_
    refine wl_pure (wants0 rfl) (d := 43) (v := (.int .i64 ((k : Int)))) rfl (by kernel_rfl) ?_
    refine wl_pure (wants0 rfl) (d := 44) (v := (.slice va ls.length vc)) rfl (by kernel_rfl) ?_
    refine wl_pure (wants0 rfl) (d := 45) (v := (.int .i64 ((ls.length : Int)))) rfl (by kernel_rfl) ?_
    refine wl_pure (wants0 rfl) (d := 46) (v := (.bool (decide ((k : Int) < (ls.length : Int))))) rfl (by kernel_rfl) ?_
    refine wl_pure (wants0 rfl) (d := 47) (v := (.bool (decide ((k : Int) < (ls.length : Int))))) rfl (by kernel_rfl) ?_
    refine (bsplit (decide ((k : Int) < (ls.length : Int)))).elim (fun b61 => ?_) (fun b61 => ?_)
    · have g62 := of_decide_eq_true b61
      refine wl_know 47 (.bool true) (congrArg Value.bool b61) ?_
      refine wl_pure (wantsY 4 47 true rfl (by kernel_rfl) rfl (by kernel_rfl)) (d := 48) (v := (.int .i64 ((k : Int)))) rfl (by kernel_rfl) ?_
      refine wl_pure (wantsY 4 47 true rfl (by kernel_rfl) rfl (by kernel_rfl)) (d := 49) (v := (.bool (decide ((k : Int) < 40)))) rfl (by kernel_rfl) ?_
      refine wl_pure (wants0 rfl) (d := 50) (v := (.bool (decide ((k : Int) < 40)))) rfl (by kernel_rfl) ?_
      refine w_nil ?_
      refine meetR_at ?_ ⟨(congrArg Value.bool (show (decide ((k : Int) < 40)) = (decide ((k : Int) < ls.length) && decide ((k : Int) < 40)) by (simp <;> omega))), H55⟩
      exact (same_upd rfl (same_upd rfl (same_upd rfl (same_upd rfl (same_upd rfl (same_upd rfl (same_upd rfl (same_upd rfl (same_upd rfl (same_refl))))))))))
    · have g63 := of_decide_eq_false b61
      refine wl_know 47 (.bool false) (congrArg Value.bool b61) ?_
      refine wl_pass (wantsN 4 47 true rfl (by kernel_rfl) rfl (by kernel_rfl)) rfl ?_
      refine wl_pass (wantsN 4 47 true rfl (by kernel_rfl) rfl (by kernel_rfl)) rfl ?_
      refine wl_pure (wants0 rfl) (d := 50) (v := (.bool false)) rfl (by kernel_rfl) ?_
      refine w_nil ?_
      refine meetR_at ?_ ⟨(congrArg Value.bool (show false = (decide ((k : Int) < ls.length) && decide ((k : Int) < 40)) by (simp <;> omega))), H55⟩
      exact (same_upd rfl (same_upd rfl (same_upd rfl (same_upd rfl (same_upd rfl (same_upd rfl (same_upd rfl (same_upd rfl (same_upd rfl (same_refl))))))))))
  · rintro f64 w65 ⟨v67, H66⟩
    refine wp_know 50 _ v67 ?_
    refine (bsplit (decide ((k : Int) < ls.length) && decide ((k : Int) < 40))).elim (fun b68 => ?_) (fun b68 => ?_)
    · refine wp_know 50 (.bool true) (congrArg Value.bool b68) ?_
      refine wp_ift rfl ?_
      refine w_skip ?_
      refine then_normal ?_
      refine w_seq ?_
      refine w_block ?_
      refine w_seq ?_
      have hkl : (k : Int) < ls.length ∧ (k : Int) < 40 := by simpa using b68
      refine w_lit ?_
      refine wl_pure (wants0 rfl) (d := 53) (v := (.slice va ls.length vc)) rfl (by kernel_rfl) ?_
      refine wl_pure (wants0 rfl) (d := 54) (v := (.int .i64 ((k : Int)))) rfl (by kernel_rfl) ?_
      obtain ⟨g69, o70, c71, e72, R73⟩ := SliceOf.atD hls inD0 (show k < ls.length by omega)
      refine wl_pure (wants0 rfl) (d := 55) (v := (.pointer (some ⟨g69, o70 + ((k : Int)).toNat * 39, none⟩))) rfl (e_indexAddrW (E := 57) (by kernel_rfl) (by kernel_rfl) (Nat.le_of_ble_eq_true rfl) rfl e72 rfl (by omega) (by omega)) ?_
      refine wl_pure (wants0 rfl) (d := 56) (v := (.agg ⟨(([(.int .i64 ((ls.getD k inD0).doo)), (.int .i64 ((ls.getD k inD0).kind)), (.int .i64 ((ls.getD k inD0).round)), (.int .i64 ((ls.getD k inD0).valid)), (.int .i64 ((ls.getD k inD0).replica))] : List Value) ++ hc (ls.getD k inD0).h ++ ([(.bool ((ls.getD k inD0).ok)), (.bool ((ls.getD k inD0).raw))] : List Value))⟩)) rfl (e_loadRun (vs := (([(.int .i64 ((ls.getD k inD0).doo)), (.int .i64 ((ls.getD k inD0).kind)), (.int .i64 ((ls.getD k inD0).round)), (.int .i64 ((ls.getD k inD0).valid)), (.int .i64 ((ls.getD k inD0).replica))] : List Value) ++ hc (ls.getD k inD0).h ++ ([(.bool ((ls.getD k inD0).ok)), (.bool ((ls.getD k inD0).raw))] : List Value))) rfl (by kernel_rfl) (by kernel_rfl) (Nat.le_of_ble_eq_true (by kernel_rfl)) (H66.runR 0 rfl (cells_run R73 0 (by kernel_rfl) (show o70 + ((k : Int)).toNat * 39 = o70 + k * 39 + 0 by omega)) (fun h => h))) ?_
      refine wl_pure (wants0 rfl) (d := 57) (v := (.int .i64 (3 * F + 1))) rfl (by kernel_rfl) ?_
      refine wl_do (wants0 rfl) (fun K74 hK74 => ?_)
      obtain ⟨x75, hx76⟩ : ∃ x, cutI (3 * F + 1) (ls.getD k inD0) = x := ⟨_, rfl⟩
      refine d_call (d := 58) rfl (by kernel_rfl) (cutI_any w65 (ls.getD k inD0) (3 * F + 1) (by omega)) ?_
      rw [hx76]
      rintro _ w77 ⟨rfl, u79⟩
      have H78 := H66.keepU u79
      refine ⟨_, rfl, ?_⟩
      refine hK74 _ _ ?_
      clear hK74 K74
      refine wl_do (wants0 rfl) (fun K80 hK80 => ?_)
      refine d_alloc (zs := (([(.int .i64 (0)), (.int .i64 (0)), (.int .i64 (0)), (.int .i64 (0)), (.int .i64 (0))] : List Value) ++ hc hash0 ++ ([(.bool false), (.bool false)] : List Value))) (z := (.agg ⟨(([(.int .i64 (0)), (.int .i64 (0)), (.int .i64 (0)), (.int .i64 (0)), (.int .i64 (0))] : List Value) ++ hc hash0 ++ ([(.bool false), (.bool false)] : List Value))⟩)) rfl H78 (by kernel_rfl) (by kernel_rfl) ?_
      intro b81 w82 (H83 : Sat w [restC w (fun _ => False), cellC b6 25 ([(.int .i64 (F)), (.int .i64 (1))] : List Value), cellC k31 92 (([(.int .i64 ((onD (3 * F + 1) ls (startD D0).1 k).f)), (.int .i64 ((onD (3 * F + 1) ls (startD D0).1 k).c)), (.int .i64 ((onD (3 * F + 1) ls (startD D0).1 k).epoch)), (.int .i64 ((onD (3 * F + 1) ls (startD D0).1 k).replica)), (.int .i64 ((onD (3 * F + 1) ls (startD D0).1 k).s.round)), (.int .i64 ((onD (3 * F + 1) ls (startD D0).1 k).s.step)), (.int .i64 ((onD (3 * F + 1) ls (startD D0).1 k).s.lr)), (.int .i64 ((onD (3 * F + 1) ls (startD D0).1 k).s.vr))] : List Value) ++ hc (onD (3 * F + 1) ls (startD D0).1 k).s.locked ++ hc (onD (3 * F + 1) ls (startD D0).1 k).s.valid ++ ([(.bool ((onD (3 * F + 1) ls (startD D0).1 k).s.decided))] : List Value) ++ hc (onD (3 * F + 1) ls (startD D0).1 k).s.decision ++ ([(.pointer (some ⟨t32, 0, none⟩)), (.map (some pb37)), (.bool ((onD (3 * F + 1) ls (startD D0).1 k).wv)), (.bool ((onD (3 * F + 1) ls (startD D0).1 k).sp)), (.bool ((onD (3 * F + 1) ls (startD D0).1 k).sc))] : List Value)), talC t32 hb33 cb34 ab35 lb36 (onD (3 * F + 1) ls (startD D0).1 k).f (onD (3 * F + 1) ls (startD D0).1 k).c (onD (3 * F + 1) ls (startD D0).1 k).L, mapC pb37 (Value.int .i64) propV (onD (3 * F + 1) ls (startD D0).1 k).P, mapC b41 turnV (Value.int .i64) (bumps (onE (3 * F + 1) ls (startD D0).1 (startD D0).2 k)), rowC 45 35 (.slice a (onP (startD D0).2 k).length q) ((onP (startD D0).2 k).length) ((onP (startD D0).2 k).flatMap encA), cellC b81 57 (([(.int .i64 (0)), (.int .i64 (0)), (.int .i64 (0)), (.int .i64 (0)), (.int .i64 (0))] : List Value) ++ hc hash0 ++ ([(.bool false), (.bool false)] : List Value))] w82)
      refine hK80 _ _ ?_
      clear hK80 K80
      refine wl_do (wants0 rfl) (fun K84 hK84 => ?_)
      refine d_storeX (vs := (([(.int .i64 (x75.doo)), (.int .i64 (x75.kind)), (.int .i64 (x75.round)), (.int .i64 (x75.valid)), (.int .i64 (x75.replica))] : List Value) ++ hc x75.h ++ ([(.bool (x75.ok)), (.bool (x75.raw))] : List Value))) (cs' := (([(.int .i64 (x75.doo)), (.int .i64 (x75.kind)), (.int .i64 (x75.round)), (.int .i64 (x75.valid)), (.int .i64 (x75.replica))] : List Value) ++ hc x75.h ++ ([(.bool (x75.ok)), (.bool (x75.raw))] : List Value))) rfl H83 7 rfl rfl rfl rfl (by kernel_rfl) (Nat.le_of_ble_eq_true (by kernel_rfl)) (Nat.le_of_ble_eq_true (by kernel_rfl)) (by kernel_rfl) (by kernel_rfl) ?_
      intro w85 (H86 : Sat w [restC w (fun _ => False), cellC b6 25 ([(.int .i64 (F)), (.int .i64 (1))] : List Value), cellC k31 92 (([(.int .i64 ((onD (3 * F + 1) ls (startD D0).1 k).f)), (.int .i64 ((onD (3 * F + 1) ls (startD D0).1 k).c)), (.int .i64 ((onD (3 * F + 1) ls (startD D0).1 k).epoch)), (.int .i64 ((onD (3 * F + 1) ls (startD D0).1 k).replica)), (.int .i64 ((onD (3 * F + 1) ls (startD D0).1 k).s.round)), (.int .i64 ((onD (3 * F + 1) ls (startD D0).1 k).s.step)), (.int .i64 ((onD (3 * F + 1) ls (startD D0).1 k).s.lr)), (.int .i64 ((onD (3 * F + 1) ls (startD D0).1 k).s.vr))] : List Value) ++ hc (onD (3 * F + 1) ls (startD D0).1 k).s.locked ++ hc (onD (3 * F + 1) ls (startD D0).1 k).s.valid ++ ([(.bool ((onD (3 * F + 1) ls (startD D0).1 k).s.decided))] : List Value) ++ hc (onD (3 * F + 1) ls (startD D0).1 k).s.decision ++ ([(.pointer (some ⟨t32, 0, none⟩)), (.map (some pb37)), (.bool ((onD (3 * F + 1) ls (startD D0).1 k).wv)), (.bool ((onD (3 * F + 1) ls (startD D0).1 k).sp)), (.bool ((onD (3 * F + 1) ls (startD D0).1 k).sc))] : List Value)), talC t32 hb33 cb34 ab35 lb36 (onD (3 * F + 1) ls (startD D0).1 k).f (onD (3 * F + 1) ls (startD D0).1 k).c (onD (3 * F + 1) ls (startD D0).1 k).L, mapC pb37 (Value.int .i64) propV (onD (3 * F + 1) ls (startD D0).1 k).P, mapC b41 turnV (Value.int .i64) (bumps (onE (3 * F + 1) ls (startD D0).1 (startD D0).2 k)), rowC 45 35 (.slice a (onP (startD D0).2 k).length q) ((onP (startD D0).2 k).length) ((onP (startD D0).2 k).flatMap encA), cellC b81 57 (([(.int .i64 (x75.doo)), (.int .i64 (x75.kind)), (.int .i64 (x75.round)), (.int .i64 (x75.valid)), (.int .i64 (x75.replica))] : List Value) ++ hc x75.h ++ ([(.bool (x75.ok)), (.bool (x75.raw))] : List Value))] w85)
      refine hK84 _ _ ?_
      clear hK84 K84
      refine w_nil ?_
      refine then_normal ?_
      refine w_seq ?_
      have hC := onCI (n := (3 * F + 1)) (ls := ls) C0.start k
      obtain ⟨D2, A2, hst⟩ : ∃ D2 A2, stepI (onD (3 * F + 1) ls (startD D0).1 k) x75 = (D2, A2) := ⟨_, _, rfl⟩
      have hC2 : CI D2 := by have q := stepCI hC x75; rwa [hst] at q
      have hl2 : A2.length ≤ 8388621 := by have q := step_le hC x75; rwa [hst] at q
      have hlp : (onP (startD D0).2 k).length ≤ 8388621 := by cases k; exact start_le C0; exact Nat.zero_le _
      have hD2 : (onD (3 * F + 1) ls (startD D0).1 (k + 1)) = D2 := by simp only [onD, hx76, hst]
      have hA2 : onA (3 * F + 1) ls (startD D0).1 k = A2 := by simp only [onA, hx76, hst]
      have hO := hOn k (by omega) (by omega)
      rw [hD2, hA2] at hO
      refine w_lit ?_
      refine wl_pure (wants0 rfl) (d := 59) (v := (.pointer (some ⟨k31, 0, none⟩))) rfl (by kernel_rfl) ?_
      refine wl_do (wants0 rfl) (fun K88 hK88 => ?_)
      refine d_call (d := 60) rfl (by kernel_rfl) (coreState_any w85 k31 t32 hb33 cb34 ab35 lb36 pb37 (onD (3 * F + 1) ls (startD D0).1 k) (ok_of (by kernel_rfl) (H86.fin [2, 3, 4] (by decide) rfl)) (onCI C0.start k)) ?_
      rintro _ w89 ⟨rfl, u91⟩
      have H90 := H86.keepU u91
      refine ⟨_, rfl, ?_⟩
      refine hK88 _ _ ?_
      clear hK88 K88
      refine wl_pure (wants0 rfl) (d := 61) (v := (.bool ((onD (3 * F + 1) ls (startD D0).1 k).s.decided))) rfl (by kernel_rfl) ?_
      refine wl_pure (wants0 rfl) (d := 16) (v := (.bool ((onD (3 * F + 1) ls (startD D0).1 k).s.decided))) rfl (by kernel_rfl) ?_
      refine w_nil ?_
      refine then_normal ?_
      refine wp_meetR [13, 62, 63, 64, 65, 66, 67, 68, 69, 70, 71, 72, 73, 74, 75, 76, 77, 78, 79, 80, 81, 82, 83, 84, 85, 86, 87, 88, 89, 90, 91, 92, 93, 94, 95, 96, 97, 98, 99, 100, 101, 102, 103, 104, 105, 106, 107, 108] (fun G_ W_ => ∃ (a2 : Option Addr) (q2 : Nat), G_ 13 = (.slice a2 ((onP (startD D0).2 k) ++ A2).length q2) ∧ Sat w [restC w (fun _ => False), cellC b6 25 ([(.int .i64 (F)), (.int .i64 (1))] : List Value), cellC k31 92 (([(.int .i64 (D2.f)), (.int .i64 (D2.c)), (.int .i64 (D2.epoch)), (.int .i64 (D2.replica)), (.int .i64 (D2.s.round)), (.int .i64 (D2.s.step)), (.int .i64 (D2.s.lr)), (.int .i64 (D2.s.vr))] : List Value) ++ hc D2.s.locked ++ hc D2.s.valid ++ ([(.bool (D2.s.decided))] : List Value) ++ hc D2.s.decision ++ ([(.pointer (some ⟨t32, 0, none⟩)), (.map (some pb37)), (.bool (D2.wv)), (.bool (D2.sp)), (.bool (D2.sc))] : List Value)), talC t32 hb33 cb34 ab35 lb36 D2.f D2.c D2.L, mapC pb37 (Value.int .i64) propV D2.P, mapC b41 turnV (Value.int .i64) (bumps (onE (3 * F + 1) ls (startD D0).1 (startD D0).2 k)), rowC 45 35 (.slice a2 ((onP (startD D0).2 k) ++ A2).length q2) (((onP (startD D0).2 k) ++ A2).length) (((onP (startD D0).2 k) ++ A2).flatMap encA), cellC b81 57 (([(.int .i64 (x75.doo)), (.int .i64 (x75.kind)), (.int .i64 (x75.round)), (.int .i64 (x75.valid)), (.int .i64 (x75.replica))] : List Value) ++ hc x75.h ++ ([(.bool (x75.ok)), (.bool (x75.raw))] : List Value))] W_) ?_ ?_
      · refine w_seq ?_
        refine w_lit ?_
        refine wl_pure (wants0 rfl) (d := 62) (v := (.pointer (some ⟨b81, 0, none⟩))) rfl (by kernel_rfl) ?_
        refine wl_pure (wants0 rfl) (d := 63) (v := (.int .i64 (x75.doo))) rfl (e_load1 rfl (by kernel_rfl) (H90.cell 7 rfl (by kernel_rfl))) ?_
        refine wl_do (wants0 rfl) (fun K93 hK93 => ?_)
        refine d_call (d := 64) rfl (by kernel_rfl) (within_any w89 x75.doo 8 (by omega)) ?_
        rintro _ w94 ⟨rfl, u96⟩
        have H95 := H90.keepU u96
        refine ⟨_, rfl, ?_⟩
        refine hK93 _ _ ?_
        clear hK93 K93
        refine w_nil ?_
        refine then_normal ?_
        refine w_block ?_
        refine w_seq ?_
        refine w_seq ?_
        refine w_lit ?_
        refine wl_pure (wants0 rfl) (d := 78) (v := (.bool (decide ((withinV x75.doo 8) = 0)))) rfl (by kernel_rfl) ?_
        refine wl_pure (wants0 rfl) (d := 77) (v := (.bool (decide ((withinV x75.doo 8) = 0)))) rfl (by kernel_rfl) ?_
        refine w_nil ?_
        refine then_normal ?_
        refine (bsplit (decide ((withinV x75.doo 8) = 0))).elim (fun b97 => ?_) (fun b97 => ?_)
        · have g98 := of_decide_eq_true b97
          refine wp_know 77 (.bool true) (congrArg Value.bool b97) ?_
          have g99 := of_decide_eq_true b97
          refine wp_ift rfl ?_
          refine w_skip ?_
          refine then_normal ?_
          refine wp_ift rfl ?_
          refine w_lit ?_
          refine wl_pure (wants0 rfl) (d := 80) (v := (.slice a (onP (startD D0).2 k).length q)) rfl (by kernel_rfl) ?_
          refine wl_pure (wants0 rfl) (d := 81) (v := (.pointer (some ⟨k31, 0, none⟩))) rfl (by kernel_rfl) ?_
          refine wl_pure (wants0 rfl) (d := 82) (v := (.pointer (some ⟨b81, 2, none⟩))) rfl (by kernel_rfl) ?_
          refine wl_pure (wants0 rfl) (d := 83) (v := (.int .i64 (x75.round))) rfl (e_load1 rfl (by kernel_rfl) (H95.cell 7 rfl (by kernel_rfl))) ?_
          refine wl_pure (wants0 rfl) (d := 84) (v := (.pointer (some ⟨b81, 3, none⟩))) rfl (by kernel_rfl) ?_
          refine wl_pure (wants0 rfl) (d := 85) (v := (.int .i64 (x75.valid))) rfl (e_load1 rfl (by kernel_rfl) (H95.cell 7 rfl (by kernel_rfl))) ?_
          refine wl_pure (wants0 rfl) (d := 86) (v := (.pointer (some ⟨b81, 5, none⟩))) rfl (by kernel_rfl) ?_
          refine wl_pure (wants0 rfl) (d := 87) (v := (.agg ⟨(hc x75.h)⟩)) rfl (e_loadN (vs := (hc x75.h)) rfl (by kernel_rfl) (by kernel_rfl) (by exact Nat.le_of_ble_eq_true (by kernel_rfl)) (H95.at 7 rfl) (by kernel_rfl)) ?_
          refine wl_pure (wants0 rfl) (d := 88) (v := (.pointer (some ⟨b81, 37, none⟩))) rfl (by kernel_rfl) ?_
          refine wl_pure (wants0 rfl) (d := 89) (v := (.bool (x75.ok))) rfl (e_load1 rfl (by kernel_rfl) (H95.cell 7 rfl (by kernel_rfl))) ?_
          refine wl_do (wants0 rfl) (fun K100 hK100 => ?_)
          refine d_call (d := 90) rfl (by kernel_rfl) (corePropose_any w94 k31 t32 hb33 cb34 ab35 lb36 pb37 (onD (3 * F + 1) ls (startD D0).1 k) (ok_of (by kernel_rfl) (H95.fin [2, 3, 4] (by decide) rfl)) (onCI C0.start k) x75.round x75.valid x75.h (x75.ok)) ?_
          rintro _ w102 ⟨v101, rfl, S103⟩
          rw [(show proposeD (onD (3 * F + 1) ls (startD D0).1 k) x75.round x75.valid x75.h (x75.ok) = (D2, A2) by rw [← hst]; unfold stepI; rw [if_pos (.inl (of_decide_eq_true b97))])] at S103
          replace S103 := Sat.cast (G' := [cellC k31 92 (([(.int .i64 (D2.f)), (.int .i64 (D2.c)), (.int .i64 (D2.epoch)), (.int .i64 (D2.replica)), (.int .i64 (D2.s.round)), (.int .i64 (D2.s.step)), (.int .i64 (D2.s.lr)), (.int .i64 (D2.s.vr))] : List Value) ++ hc D2.s.locked ++ hc D2.s.valid ++ ([(.bool (D2.s.decided))] : List Value) ++ hc D2.s.decision ++ ([(.pointer (some ⟨t32, 0, none⟩)), (.map (some pb37)), (.bool (D2.wv)), (.bool (D2.sp)), (.bool (D2.sc))] : List Value)), talC t32 hb33 cb34 ab35 lb36 D2.f D2.c D2.L, mapC pb37 (Value.int .i64) propV D2.P, rowC 45 35 v101 A2.length (A2.flatMap encA), restC w94 (coreC k31 t32 hb33 cb34 ab35 lb36 pb37 (onD (3 * F + 1) ls (startD D0).1 k)).fp]) S103 (by kernel_rfl)
          have H105 : Sat w [restC w (fun _ => False), cellC b6 25 ([(.int .i64 (F)), (.int .i64 (1))] : List Value), cellC k31 92 (([(.int .i64 (D2.f)), (.int .i64 (D2.c)), (.int .i64 (D2.epoch)), (.int .i64 (D2.replica)), (.int .i64 (D2.s.round)), (.int .i64 (D2.s.step)), (.int .i64 (D2.s.lr)), (.int .i64 (D2.s.vr))] : List Value) ++ hc D2.s.locked ++ hc D2.s.valid ++ ([(.bool (D2.s.decided))] : List Value) ++ hc D2.s.decision ++ ([(.pointer (some ⟨t32, 0, none⟩)), (.map (some pb37)), (.bool (D2.wv)), (.bool (D2.sp)), (.bool (D2.sc))] : List Value)), talC t32 hb33 cb34 ab35 lb36 D2.f D2.c D2.L, mapC pb37 (Value.int .i64) propV D2.P, mapC b41 turnV (Value.int .i64) (bumps (onE (3 * F + 1) ls (startD D0).1 (startD D0).2 k)), rowC 45 35 (.slice a (onP (startD D0).2 k).length q) ((onP (startD D0).2 k).length) ((onP (startD D0).2 k).flatMap encA), cellC b81 57 (([(.int .i64 (x75.doo)), (.int .i64 (x75.kind)), (.int .i64 (x75.round)), (.int .i64 (x75.valid)), (.int .i64 (x75.replica))] : List Value) ++ hc x75.h ++ ([(.bool (x75.ok)), (.bool (x75.raw))] : List Value)), rowC 45 35 v101 A2.length (A2.flatMap encA)] w102 := (Sat.turnL (L' := [cellC k31 92 (([(.int .i64 (D2.f)), (.int .i64 (D2.c)), (.int .i64 (D2.epoch)), (.int .i64 (D2.replica)), (.int .i64 (D2.s.round)), (.int .i64 (D2.s.step)), (.int .i64 (D2.s.lr)), (.int .i64 (D2.s.vr))] : List Value) ++ hc D2.s.locked ++ hc D2.s.valid ++ ([(.bool (D2.s.decided))] : List Value) ++ hc D2.s.decision ++ ([(.pointer (some ⟨t32, 0, none⟩)), (.map (some pb37)), (.bool (D2.wv)), (.bool (D2.sp)), (.bool (D2.sc))] : List Value)), talC t32 hb33 cb34 ab35 lb36 D2.f D2.c D2.L, mapC pb37 (Value.int .i64) propV D2.P, rowC 45 35 v101 A2.length (A2.flatMap encA)]) (R := [restC w (fun _ => False), cellC b6 25 ([(.int .i64 (F)), (.int .i64 (1))] : List Value), mapC b41 turnV (Value.int .i64) (bumps (onE (3 * F + 1) ls (startD D0).1 (startD D0).2 k)), rowC 45 35 (.slice a (onP (startD D0).2 k).length q) ((onP (startD D0).2 k).length) ((onP (startD D0).2 k).flatMap encA), cellC b81 57 (([(.int .i64 (x75.doo)), (.int .i64 (x75.kind)), (.int .i64 (x75.round)), (.int .i64 (x75.valid)), (.int .i64 (x75.replica))] : List Value) ++ hc x75.h ++ ([(.bool (x75.ok)), (.bool (x75.raw))] : List Value))]) H95 [2, 3, 4] [0, 1, 5, 6, 7] (by decide) (by kernel_rfl) rfl S103).pick [4, 5, 0, 1, 2, 6, 7, 8, 3] (by decide)
          obtain ⟨a106, c107, rfl⟩ := ownsRow_shape (H105.at 8 rfl)
          refine ⟨_, rfl, ?_⟩
          refine hK100 _ _ ?_
          clear hK100 K100
          refine wl_do (wants0 rfl) (fun K108 hK108 => ?_)
          refine d_append (T := 31) (e := 45) (size := 35) (bytes := 56) rfl H105 (by kernel_rfl) 6 8 rfl rfl rfl rfl (flat_one encA encA_one A2) (by omega) (by omega) ?_
          intro v109 w110 (H111 : Sat w [restC w (fun _ => False), cellC b6 25 ([(.int .i64 (F)), (.int .i64 (1))] : List Value), cellC k31 92 (([(.int .i64 (D2.f)), (.int .i64 (D2.c)), (.int .i64 (D2.epoch)), (.int .i64 (D2.replica)), (.int .i64 (D2.s.round)), (.int .i64 (D2.s.step)), (.int .i64 (D2.s.lr)), (.int .i64 (D2.s.vr))] : List Value) ++ hc D2.s.locked ++ hc D2.s.valid ++ ([(.bool (D2.s.decided))] : List Value) ++ hc D2.s.decision ++ ([(.pointer (some ⟨t32, 0, none⟩)), (.map (some pb37)), (.bool (D2.wv)), (.bool (D2.sp)), (.bool (D2.sc))] : List Value)), talC t32 hb33 cb34 ab35 lb36 D2.f D2.c D2.L, mapC pb37 (Value.int .i64) propV D2.P, mapC b41 turnV (Value.int .i64) (bumps (onE (3 * F + 1) ls (startD D0).1 (startD D0).2 k)), rowC 45 35 v109 ((onP (startD D0).2 k).length + A2.length) (((onP (startD D0).2 k).flatMap encA) ++ (A2.flatMap encA)), cellC b81 57 (([(.int .i64 (x75.doo)), (.int .i64 (x75.kind)), (.int .i64 (x75.round)), (.int .i64 (x75.valid)), (.int .i64 (x75.replica))] : List Value) ++ hc x75.h ++ ([(.bool (x75.ok)), (.bool (x75.raw))] : List Value)), rowC 45 35 (.slice a106 A2.length c107) A2.length (A2.flatMap encA)] w110)
          have H114 : Sat w [restC w (fun _ => False), cellC b6 25 ([(.int .i64 (F)), (.int .i64 (1))] : List Value), cellC k31 92 (([(.int .i64 (D2.f)), (.int .i64 (D2.c)), (.int .i64 (D2.epoch)), (.int .i64 (D2.replica)), (.int .i64 (D2.s.round)), (.int .i64 (D2.s.step)), (.int .i64 (D2.s.lr)), (.int .i64 (D2.s.vr))] : List Value) ++ hc D2.s.locked ++ hc D2.s.valid ++ ([(.bool (D2.s.decided))] : List Value) ++ hc D2.s.decision ++ ([(.pointer (some ⟨t32, 0, none⟩)), (.map (some pb37)), (.bool (D2.wv)), (.bool (D2.sp)), (.bool (D2.sc))] : List Value)), talC t32 hb33 cb34 ab35 lb36 D2.f D2.c D2.L, mapC pb37 (Value.int .i64) propV D2.P, mapC b41 turnV (Value.int .i64) (bumps (onE (3 * F + 1) ls (startD D0).1 (startD D0).2 k)), rowC 45 35 v109 (((onP (startD D0).2 k) ++ A2).length) (((onP (startD D0).2 k) ++ A2).flatMap encA), cellC b81 57 (([(.int .i64 (x75.doo)), (.int .i64 (x75.kind)), (.int .i64 (x75.round)), (.int .i64 (x75.valid)), (.int .i64 (x75.replica))] : List Value) ++ hc x75.h ++ ([(.bool (x75.ok)), (.bool (x75.raw))] : List Value)), rowC 45 35 (.slice a106 A2.length c107) A2.length (A2.flatMap encA)] w110 := H111.cast (by simp only [List.length_append, List.flatMap_append])
          obtain ⟨a112, c113, rfl⟩ := ownsRow_shape (H114.at 6 rfl)
          refine hK108 _ _ ?_
          clear hK108 K108
          refine wl_pure (wants0 rfl) (d := 13) (v := (.slice a112 (((onP (startD D0).2 k) ++ A2).length) c113)) rfl (by kernel_rfl) ?_
          refine w_nil ?_
          refine blk_normal ?_
          have H115 : Sat w [restC w (fun _ => False), cellC b6 25 ([(.int .i64 (F)), (.int .i64 (1))] : List Value), cellC k31 92 (([(.int .i64 (D2.f)), (.int .i64 (D2.c)), (.int .i64 (D2.epoch)), (.int .i64 (D2.replica)), (.int .i64 (D2.s.round)), (.int .i64 (D2.s.step)), (.int .i64 (D2.s.lr)), (.int .i64 (D2.s.vr))] : List Value) ++ hc D2.s.locked ++ hc D2.s.valid ++ ([(.bool (D2.s.decided))] : List Value) ++ hc D2.s.decision ++ ([(.pointer (some ⟨t32, 0, none⟩)), (.map (some pb37)), (.bool (D2.wv)), (.bool (D2.sp)), (.bool (D2.sc))] : List Value)), talC t32 hb33 cb34 ab35 lb36 D2.f D2.c D2.L, mapC pb37 (Value.int .i64) propV D2.P, mapC b41 turnV (Value.int .i64) (bumps (onE (3 * F + 1) ls (startD D0).1 (startD D0).2 k)), rowC 45 35 (.slice a112 ((onP (startD D0).2 k) ++ A2).length c113) (((onP (startD D0).2 k) ++ A2).length) (((onP (startD D0).2 k) ++ A2).flatMap encA), cellC b81 57 (([(.int .i64 (x75.doo)), (.int .i64 (x75.kind)), (.int .i64 (x75.round)), (.int .i64 (x75.valid)), (.int .i64 (x75.replica))] : List Value) ++ hc x75.h ++ ([(.bool (x75.ok)), (.bool (x75.raw))] : List Value))] w110 := H114.pick [0, 1, 2, 3, 4, 5, 6, 7] (by decide)
          refine meetR_at ?_ ⟨a112, c113, rfl, H115⟩
          exact (same_upd rfl (same_upd rfl (same_upd rfl (same_upd rfl (same_upd rfl (same_upd rfl (same_upd rfl (same_upd rfl (same_upd rfl (same_upd rfl (same_upd rfl (same_upd rfl (same_upd rfl (same_upd rfl (same_upd rfl (same_upd rfl (same_upd rfl (same_upd rfl (same_upd rfl (same_refl))))))))))))))))))))
        · have g116 := of_decide_eq_false b97
          refine wp_know 77 (.bool false) (congrArg Value.bool b97) ?_
          have g117 := of_decide_eq_false b97
          refine wp_iff rfl ?_
          refine w_lit ?_
          refine wl_pure (wants0 rfl) (d := 79) (v := (.bool (decide ((withinV x75.doo 8) = 1)))) rfl (by kernel_rfl) ?_
          refine wl_pure (wants0 rfl) (d := 77) (v := (.bool (decide ((withinV x75.doo 8) = 1)))) rfl (by kernel_rfl) ?_
          refine w_nil ?_
          refine then_normal ?_
          refine (bsplit (decide ((withinV x75.doo 8) = 1))).elim (fun b118 => ?_) (fun b118 => ?_)
          · have g119 := of_decide_eq_true b118
            refine wp_know 77 (.bool true) (congrArg Value.bool b118) ?_
            have g120 := of_decide_eq_true b118
            refine wp_ift rfl ?_
            refine w_lit ?_
            refine wl_pure (wants0 rfl) (d := 80) (v := (.slice a (onP (startD D0).2 k).length q)) rfl (by kernel_rfl) ?_
            refine wl_pure (wants0 rfl) (d := 81) (v := (.pointer (some ⟨k31, 0, none⟩))) rfl (by kernel_rfl) ?_
            refine wl_pure (wants0 rfl) (d := 82) (v := (.pointer (some ⟨b81, 2, none⟩))) rfl (by kernel_rfl) ?_
            refine wl_pure (wants0 rfl) (d := 83) (v := (.int .i64 (x75.round))) rfl (e_load1 rfl (by kernel_rfl) (H95.cell 7 rfl (by kernel_rfl))) ?_
            refine wl_pure (wants0 rfl) (d := 84) (v := (.pointer (some ⟨b81, 3, none⟩))) rfl (by kernel_rfl) ?_
            refine wl_pure (wants0 rfl) (d := 85) (v := (.int .i64 (x75.valid))) rfl (e_load1 rfl (by kernel_rfl) (H95.cell 7 rfl (by kernel_rfl))) ?_
            refine wl_pure (wants0 rfl) (d := 86) (v := (.pointer (some ⟨b81, 5, none⟩))) rfl (by kernel_rfl) ?_
            refine wl_pure (wants0 rfl) (d := 87) (v := (.agg ⟨(hc x75.h)⟩)) rfl (e_loadN (vs := (hc x75.h)) rfl (by kernel_rfl) (by kernel_rfl) (by exact Nat.le_of_ble_eq_true (by kernel_rfl)) (H95.at 7 rfl) (by kernel_rfl)) ?_
            refine wl_pure (wants0 rfl) (d := 88) (v := (.pointer (some ⟨b81, 37, none⟩))) rfl (by kernel_rfl) ?_
            refine wl_pure (wants0 rfl) (d := 89) (v := (.bool (x75.ok))) rfl (e_load1 rfl (by kernel_rfl) (H95.cell 7 rfl (by kernel_rfl))) ?_
            refine wl_do (wants0 rfl) (fun K121 hK121 => ?_)
            refine d_call (d := 90) rfl (by kernel_rfl) (corePropose_any w94 k31 t32 hb33 cb34 ab35 lb36 pb37 (onD (3 * F + 1) ls (startD D0).1 k) (ok_of (by kernel_rfl) (H95.fin [2, 3, 4] (by decide) rfl)) (onCI C0.start k) x75.round x75.valid x75.h (x75.ok)) ?_
            rintro _ w123 ⟨v122, rfl, S124⟩
            rw [(show proposeD (onD (3 * F + 1) ls (startD D0).1 k) x75.round x75.valid x75.h (x75.ok) = (D2, A2) by rw [← hst]; unfold stepI; rw [if_pos (.inr (of_decide_eq_true b118))])] at S124
            replace S124 := Sat.cast (G' := [cellC k31 92 (([(.int .i64 (D2.f)), (.int .i64 (D2.c)), (.int .i64 (D2.epoch)), (.int .i64 (D2.replica)), (.int .i64 (D2.s.round)), (.int .i64 (D2.s.step)), (.int .i64 (D2.s.lr)), (.int .i64 (D2.s.vr))] : List Value) ++ hc D2.s.locked ++ hc D2.s.valid ++ ([(.bool (D2.s.decided))] : List Value) ++ hc D2.s.decision ++ ([(.pointer (some ⟨t32, 0, none⟩)), (.map (some pb37)), (.bool (D2.wv)), (.bool (D2.sp)), (.bool (D2.sc))] : List Value)), talC t32 hb33 cb34 ab35 lb36 D2.f D2.c D2.L, mapC pb37 (Value.int .i64) propV D2.P, rowC 45 35 v122 A2.length (A2.flatMap encA), restC w94 (coreC k31 t32 hb33 cb34 ab35 lb36 pb37 (onD (3 * F + 1) ls (startD D0).1 k)).fp]) S124 (by kernel_rfl)
            have H126 : Sat w [restC w (fun _ => False), cellC b6 25 ([(.int .i64 (F)), (.int .i64 (1))] : List Value), cellC k31 92 (([(.int .i64 (D2.f)), (.int .i64 (D2.c)), (.int .i64 (D2.epoch)), (.int .i64 (D2.replica)), (.int .i64 (D2.s.round)), (.int .i64 (D2.s.step)), (.int .i64 (D2.s.lr)), (.int .i64 (D2.s.vr))] : List Value) ++ hc D2.s.locked ++ hc D2.s.valid ++ ([(.bool (D2.s.decided))] : List Value) ++ hc D2.s.decision ++ ([(.pointer (some ⟨t32, 0, none⟩)), (.map (some pb37)), (.bool (D2.wv)), (.bool (D2.sp)), (.bool (D2.sc))] : List Value)), talC t32 hb33 cb34 ab35 lb36 D2.f D2.c D2.L, mapC pb37 (Value.int .i64) propV D2.P, mapC b41 turnV (Value.int .i64) (bumps (onE (3 * F + 1) ls (startD D0).1 (startD D0).2 k)), rowC 45 35 (.slice a (onP (startD D0).2 k).length q) ((onP (startD D0).2 k).length) ((onP (startD D0).2 k).flatMap encA), cellC b81 57 (([(.int .i64 (x75.doo)), (.int .i64 (x75.kind)), (.int .i64 (x75.round)), (.int .i64 (x75.valid)), (.int .i64 (x75.replica))] : List Value) ++ hc x75.h ++ ([(.bool (x75.ok)), (.bool (x75.raw))] : List Value)), rowC 45 35 v122 A2.length (A2.flatMap encA)] w123 := (Sat.turnL (L' := [cellC k31 92 (([(.int .i64 (D2.f)), (.int .i64 (D2.c)), (.int .i64 (D2.epoch)), (.int .i64 (D2.replica)), (.int .i64 (D2.s.round)), (.int .i64 (D2.s.step)), (.int .i64 (D2.s.lr)), (.int .i64 (D2.s.vr))] : List Value) ++ hc D2.s.locked ++ hc D2.s.valid ++ ([(.bool (D2.s.decided))] : List Value) ++ hc D2.s.decision ++ ([(.pointer (some ⟨t32, 0, none⟩)), (.map (some pb37)), (.bool (D2.wv)), (.bool (D2.sp)), (.bool (D2.sc))] : List Value)), talC t32 hb33 cb34 ab35 lb36 D2.f D2.c D2.L, mapC pb37 (Value.int .i64) propV D2.P, rowC 45 35 v122 A2.length (A2.flatMap encA)]) (R := [restC w (fun _ => False), cellC b6 25 ([(.int .i64 (F)), (.int .i64 (1))] : List Value), mapC b41 turnV (Value.int .i64) (bumps (onE (3 * F + 1) ls (startD D0).1 (startD D0).2 k)), rowC 45 35 (.slice a (onP (startD D0).2 k).length q) ((onP (startD D0).2 k).length) ((onP (startD D0).2 k).flatMap encA), cellC b81 57 (([(.int .i64 (x75.doo)), (.int .i64 (x75.kind)), (.int .i64 (x75.round)), (.int .i64 (x75.valid)), (.int .i64 (x75.replica))] : List Value) ++ hc x75.h ++ ([(.bool (x75.ok)), (.bool (x75.raw))] : List Value))]) H95 [2, 3, 4] [0, 1, 5, 6, 7] (by decide) (by kernel_rfl) rfl S124).pick [4, 5, 0, 1, 2, 6, 7, 8, 3] (by decide)
            obtain ⟨a127, c128, rfl⟩ := ownsRow_shape (H126.at 8 rfl)
            refine ⟨_, rfl, ?_⟩
            refine hK121 _ _ ?_
            clear hK121 K121
            refine wl_do (wants0 rfl) (fun K129 hK129 => ?_)
            refine d_append (T := 31) (e := 45) (size := 35) (bytes := 56) rfl H126 (by kernel_rfl) 6 8 rfl rfl rfl rfl (flat_one encA encA_one A2) (by omega) (by omega) ?_
            intro v130 w131 (H132 : Sat w [restC w (fun _ => False), cellC b6 25 ([(.int .i64 (F)), (.int .i64 (1))] : List Value), cellC k31 92 (([(.int .i64 (D2.f)), (.int .i64 (D2.c)), (.int .i64 (D2.epoch)), (.int .i64 (D2.replica)), (.int .i64 (D2.s.round)), (.int .i64 (D2.s.step)), (.int .i64 (D2.s.lr)), (.int .i64 (D2.s.vr))] : List Value) ++ hc D2.s.locked ++ hc D2.s.valid ++ ([(.bool (D2.s.decided))] : List Value) ++ hc D2.s.decision ++ ([(.pointer (some ⟨t32, 0, none⟩)), (.map (some pb37)), (.bool (D2.wv)), (.bool (D2.sp)), (.bool (D2.sc))] : List Value)), talC t32 hb33 cb34 ab35 lb36 D2.f D2.c D2.L, mapC pb37 (Value.int .i64) propV D2.P, mapC b41 turnV (Value.int .i64) (bumps (onE (3 * F + 1) ls (startD D0).1 (startD D0).2 k)), rowC 45 35 v130 ((onP (startD D0).2 k).length + A2.length) (((onP (startD D0).2 k).flatMap encA) ++ (A2.flatMap encA)), cellC b81 57 (([(.int .i64 (x75.doo)), (.int .i64 (x75.kind)), (.int .i64 (x75.round)), (.int .i64 (x75.valid)), (.int .i64 (x75.replica))] : List Value) ++ hc x75.h ++ ([(.bool (x75.ok)), (.bool (x75.raw))] : List Value)), rowC 45 35 (.slice a127 A2.length c128) A2.length (A2.flatMap encA)] w131)
            have H135 : Sat w [restC w (fun _ => False), cellC b6 25 ([(.int .i64 (F)), (.int .i64 (1))] : List Value), cellC k31 92 (([(.int .i64 (D2.f)), (.int .i64 (D2.c)), (.int .i64 (D2.epoch)), (.int .i64 (D2.replica)), (.int .i64 (D2.s.round)), (.int .i64 (D2.s.step)), (.int .i64 (D2.s.lr)), (.int .i64 (D2.s.vr))] : List Value) ++ hc D2.s.locked ++ hc D2.s.valid ++ ([(.bool (D2.s.decided))] : List Value) ++ hc D2.s.decision ++ ([(.pointer (some ⟨t32, 0, none⟩)), (.map (some pb37)), (.bool (D2.wv)), (.bool (D2.sp)), (.bool (D2.sc))] : List Value)), talC t32 hb33 cb34 ab35 lb36 D2.f D2.c D2.L, mapC pb37 (Value.int .i64) propV D2.P, mapC b41 turnV (Value.int .i64) (bumps (onE (3 * F + 1) ls (startD D0).1 (startD D0).2 k)), rowC 45 35 v130 (((onP (startD D0).2 k) ++ A2).length) (((onP (startD D0).2 k) ++ A2).flatMap encA), cellC b81 57 (([(.int .i64 (x75.doo)), (.int .i64 (x75.kind)), (.int .i64 (x75.round)), (.int .i64 (x75.valid)), (.int .i64 (x75.replica))] : List Value) ++ hc x75.h ++ ([(.bool (x75.ok)), (.bool (x75.raw))] : List Value)), rowC 45 35 (.slice a127 A2.length c128) A2.length (A2.flatMap encA)] w131 := H132.cast (by simp only [List.length_append, List.flatMap_append])
            obtain ⟨a133, c134, rfl⟩ := ownsRow_shape (H135.at 6 rfl)
            refine hK129 _ _ ?_
            clear hK129 K129
            refine wl_pure (wants0 rfl) (d := 13) (v := (.slice a133 (((onP (startD D0).2 k) ++ A2).length) c134)) rfl (by kernel_rfl) ?_
            refine w_nil ?_
            refine blk_normal ?_
            have H136 : Sat w [restC w (fun _ => False), cellC b6 25 ([(.int .i64 (F)), (.int .i64 (1))] : List Value), cellC k31 92 (([(.int .i64 (D2.f)), (.int .i64 (D2.c)), (.int .i64 (D2.epoch)), (.int .i64 (D2.replica)), (.int .i64 (D2.s.round)), (.int .i64 (D2.s.step)), (.int .i64 (D2.s.lr)), (.int .i64 (D2.s.vr))] : List Value) ++ hc D2.s.locked ++ hc D2.s.valid ++ ([(.bool (D2.s.decided))] : List Value) ++ hc D2.s.decision ++ ([(.pointer (some ⟨t32, 0, none⟩)), (.map (some pb37)), (.bool (D2.wv)), (.bool (D2.sp)), (.bool (D2.sc))] : List Value)), talC t32 hb33 cb34 ab35 lb36 D2.f D2.c D2.L, mapC pb37 (Value.int .i64) propV D2.P, mapC b41 turnV (Value.int .i64) (bumps (onE (3 * F + 1) ls (startD D0).1 (startD D0).2 k)), rowC 45 35 (.slice a133 ((onP (startD D0).2 k) ++ A2).length c134) (((onP (startD D0).2 k) ++ A2).length) (((onP (startD D0).2 k) ++ A2).flatMap encA), cellC b81 57 (([(.int .i64 (x75.doo)), (.int .i64 (x75.kind)), (.int .i64 (x75.round)), (.int .i64 (x75.valid)), (.int .i64 (x75.replica))] : List Value) ++ hc x75.h ++ ([(.bool (x75.ok)), (.bool (x75.raw))] : List Value))] w131 := H135.pick [0, 1, 2, 3, 4, 5, 6, 7] (by decide)
            refine meetR_at ?_ ⟨a133, c134, rfl, H136⟩
            exact (same_upd rfl (same_upd rfl (same_upd rfl (same_upd rfl (same_upd rfl (same_upd rfl (same_upd rfl (same_upd rfl (same_upd rfl (same_upd rfl (same_upd rfl (same_upd rfl (same_upd rfl (same_upd rfl (same_upd rfl (same_upd rfl (same_upd rfl (same_upd rfl (same_upd rfl (same_upd rfl (same_upd rfl (same_upd rfl (same_refl)))))))))))))))))))))))
          · have g137 := of_decide_eq_false b118
            refine wp_know 77 (.bool false) (congrArg Value.bool b118) ?_
            have g138 := of_decide_eq_false b118
            refine wp_iff rfl ?_
            refine w_seq ?_
            refine w_lit ?_
            refine wl_pure (wants0 rfl) (d := 93) (v := (.bool (decide ((withinV x75.doo 8) = 6)))) rfl (by kernel_rfl) ?_
            refine wl_pure (wants0 rfl) (d := 92) (v := (.bool (decide ((withinV x75.doo 8) = 6)))) rfl (by kernel_rfl) ?_
            refine w_nil ?_
            refine then_normal ?_
            refine (bsplit (decide ((withinV x75.doo 8) = 6))).elim (fun b139 => ?_) (fun b139 => ?_)
            · have g140 := of_decide_eq_true b139
              refine wp_know 92 (.bool true) (congrArg Value.bool b139) ?_
              have g141 := of_decide_eq_true b139
              refine wp_ift rfl ?_
              refine w_lit ?_
              refine wl_pure (wants0 rfl) (d := 94) (v := (.slice a (onP (startD D0).2 k).length q)) rfl (by kernel_rfl) ?_
              refine wl_pure (wants0 rfl) (d := 95) (v := (.pointer (some ⟨k31, 0, none⟩))) rfl (by kernel_rfl) ?_
              refine wl_pure (wants0 rfl) (d := 96) (v := (.pointer (some ⟨b81, 1, none⟩))) rfl (by kernel_rfl) ?_
              refine wl_pure (wants0 rfl) (d := 97) (v := (.int .i64 (x75.kind))) rfl (e_load1 rfl (by kernel_rfl) (H95.cell 7 rfl (by kernel_rfl))) ?_
              refine wl_pure (wants0 rfl) (d := 98) (v := (.pointer (some ⟨b81, 2, none⟩))) rfl (by kernel_rfl) ?_
              refine wl_pure (wants0 rfl) (d := 99) (v := (.int .i64 (x75.round))) rfl (e_load1 rfl (by kernel_rfl) (H95.cell 7 rfl (by kernel_rfl))) ?_
              refine wl_pure (wants0 rfl) (d := 100) (v := (.agg ⟨([(.int .i64 (x75.kind)), (.int .i64 (x75.round))] : List Value)⟩)) rfl (by kernel_rfl) ?_
              refine wl_do (wants0 rfl) (fun K142 hK142 => ?_)
              refine d_call (d := 101) rfl (by kernel_rfl) (coreTimeout_any w94 k31 t32 hb33 cb34 ab35 lb36 pb37 (onD (3 * F + 1) ls (startD D0).1 k) (ok_of (by kernel_rfl) (H95.fin [2, 3, 4] (by decide) rfl)) (onCI C0.start k) x75.kind x75.round) ?_
              rintro _ w144 ⟨v143, rfl, S145⟩
              rw [(show timeD (onD (3 * F + 1) ls (startD D0).1 k) x75.kind x75.round = (D2, A2) by rw [← hst]; unfold stepI; rw [if_neg (fun q => q.elim (of_decide_eq_false b97) (of_decide_eq_false b118)), if_pos (of_decide_eq_true b139)])] at S145
              replace S145 := Sat.cast (G' := [cellC k31 92 (([(.int .i64 (D2.f)), (.int .i64 (D2.c)), (.int .i64 (D2.epoch)), (.int .i64 (D2.replica)), (.int .i64 (D2.s.round)), (.int .i64 (D2.s.step)), (.int .i64 (D2.s.lr)), (.int .i64 (D2.s.vr))] : List Value) ++ hc D2.s.locked ++ hc D2.s.valid ++ ([(.bool (D2.s.decided))] : List Value) ++ hc D2.s.decision ++ ([(.pointer (some ⟨t32, 0, none⟩)), (.map (some pb37)), (.bool (D2.wv)), (.bool (D2.sp)), (.bool (D2.sc))] : List Value)), talC t32 hb33 cb34 ab35 lb36 D2.f D2.c D2.L, mapC pb37 (Value.int .i64) propV D2.P, rowC 45 35 v143 A2.length (A2.flatMap encA), restC w94 (coreC k31 t32 hb33 cb34 ab35 lb36 pb37 (onD (3 * F + 1) ls (startD D0).1 k)).fp]) S145 (by kernel_rfl)
              have H147 : Sat w [restC w (fun _ => False), cellC b6 25 ([(.int .i64 (F)), (.int .i64 (1))] : List Value), cellC k31 92 (([(.int .i64 (D2.f)), (.int .i64 (D2.c)), (.int .i64 (D2.epoch)), (.int .i64 (D2.replica)), (.int .i64 (D2.s.round)), (.int .i64 (D2.s.step)), (.int .i64 (D2.s.lr)), (.int .i64 (D2.s.vr))] : List Value) ++ hc D2.s.locked ++ hc D2.s.valid ++ ([(.bool (D2.s.decided))] : List Value) ++ hc D2.s.decision ++ ([(.pointer (some ⟨t32, 0, none⟩)), (.map (some pb37)), (.bool (D2.wv)), (.bool (D2.sp)), (.bool (D2.sc))] : List Value)), talC t32 hb33 cb34 ab35 lb36 D2.f D2.c D2.L, mapC pb37 (Value.int .i64) propV D2.P, mapC b41 turnV (Value.int .i64) (bumps (onE (3 * F + 1) ls (startD D0).1 (startD D0).2 k)), rowC 45 35 (.slice a (onP (startD D0).2 k).length q) ((onP (startD D0).2 k).length) ((onP (startD D0).2 k).flatMap encA), cellC b81 57 (([(.int .i64 (x75.doo)), (.int .i64 (x75.kind)), (.int .i64 (x75.round)), (.int .i64 (x75.valid)), (.int .i64 (x75.replica))] : List Value) ++ hc x75.h ++ ([(.bool (x75.ok)), (.bool (x75.raw))] : List Value)), rowC 45 35 v143 A2.length (A2.flatMap encA)] w144 := (Sat.turnL (L' := [cellC k31 92 (([(.int .i64 (D2.f)), (.int .i64 (D2.c)), (.int .i64 (D2.epoch)), (.int .i64 (D2.replica)), (.int .i64 (D2.s.round)), (.int .i64 (D2.s.step)), (.int .i64 (D2.s.lr)), (.int .i64 (D2.s.vr))] : List Value) ++ hc D2.s.locked ++ hc D2.s.valid ++ ([(.bool (D2.s.decided))] : List Value) ++ hc D2.s.decision ++ ([(.pointer (some ⟨t32, 0, none⟩)), (.map (some pb37)), (.bool (D2.wv)), (.bool (D2.sp)), (.bool (D2.sc))] : List Value)), talC t32 hb33 cb34 ab35 lb36 D2.f D2.c D2.L, mapC pb37 (Value.int .i64) propV D2.P, rowC 45 35 v143 A2.length (A2.flatMap encA)]) (R := [restC w (fun _ => False), cellC b6 25 ([(.int .i64 (F)), (.int .i64 (1))] : List Value), mapC b41 turnV (Value.int .i64) (bumps (onE (3 * F + 1) ls (startD D0).1 (startD D0).2 k)), rowC 45 35 (.slice a (onP (startD D0).2 k).length q) ((onP (startD D0).2 k).length) ((onP (startD D0).2 k).flatMap encA), cellC b81 57 (([(.int .i64 (x75.doo)), (.int .i64 (x75.kind)), (.int .i64 (x75.round)), (.int .i64 (x75.valid)), (.int .i64 (x75.replica))] : List Value) ++ hc x75.h ++ ([(.bool (x75.ok)), (.bool (x75.raw))] : List Value))]) H95 [2, 3, 4] [0, 1, 5, 6, 7] (by decide) (by kernel_rfl) rfl S145).pick [4, 5, 0, 1, 2, 6, 7, 8, 3] (by decide)
              obtain ⟨a148, c149, rfl⟩ := ownsRow_shape (H147.at 8 rfl)
              refine ⟨_, rfl, ?_⟩
              refine hK142 _ _ ?_
              clear hK142 K142
              refine wl_do (wants0 rfl) (fun K150 hK150 => ?_)
              refine d_append (T := 31) (e := 45) (size := 35) (bytes := 56) rfl H147 (by kernel_rfl) 6 8 rfl rfl rfl rfl (flat_one encA encA_one A2) (by omega) (by omega) ?_
              intro v151 w152 (H153 : Sat w [restC w (fun _ => False), cellC b6 25 ([(.int .i64 (F)), (.int .i64 (1))] : List Value), cellC k31 92 (([(.int .i64 (D2.f)), (.int .i64 (D2.c)), (.int .i64 (D2.epoch)), (.int .i64 (D2.replica)), (.int .i64 (D2.s.round)), (.int .i64 (D2.s.step)), (.int .i64 (D2.s.lr)), (.int .i64 (D2.s.vr))] : List Value) ++ hc D2.s.locked ++ hc D2.s.valid ++ ([(.bool (D2.s.decided))] : List Value) ++ hc D2.s.decision ++ ([(.pointer (some ⟨t32, 0, none⟩)), (.map (some pb37)), (.bool (D2.wv)), (.bool (D2.sp)), (.bool (D2.sc))] : List Value)), talC t32 hb33 cb34 ab35 lb36 D2.f D2.c D2.L, mapC pb37 (Value.int .i64) propV D2.P, mapC b41 turnV (Value.int .i64) (bumps (onE (3 * F + 1) ls (startD D0).1 (startD D0).2 k)), rowC 45 35 v151 ((onP (startD D0).2 k).length + A2.length) (((onP (startD D0).2 k).flatMap encA) ++ (A2.flatMap encA)), cellC b81 57 (([(.int .i64 (x75.doo)), (.int .i64 (x75.kind)), (.int .i64 (x75.round)), (.int .i64 (x75.valid)), (.int .i64 (x75.replica))] : List Value) ++ hc x75.h ++ ([(.bool (x75.ok)), (.bool (x75.raw))] : List Value)), rowC 45 35 (.slice a148 A2.length c149) A2.length (A2.flatMap encA)] w152)
              have H156 : Sat w [restC w (fun _ => False), cellC b6 25 ([(.int .i64 (F)), (.int .i64 (1))] : List Value), cellC k31 92 (([(.int .i64 (D2.f)), (.int .i64 (D2.c)), (.int .i64 (D2.epoch)), (.int .i64 (D2.replica)), (.int .i64 (D2.s.round)), (.int .i64 (D2.s.step)), (.int .i64 (D2.s.lr)), (.int .i64 (D2.s.vr))] : List Value) ++ hc D2.s.locked ++ hc D2.s.valid ++ ([(.bool (D2.s.decided))] : List Value) ++ hc D2.s.decision ++ ([(.pointer (some ⟨t32, 0, none⟩)), (.map (some pb37)), (.bool (D2.wv)), (.bool (D2.sp)), (.bool (D2.sc))] : List Value)), talC t32 hb33 cb34 ab35 lb36 D2.f D2.c D2.L, mapC pb37 (Value.int .i64) propV D2.P, mapC b41 turnV (Value.int .i64) (bumps (onE (3 * F + 1) ls (startD D0).1 (startD D0).2 k)), rowC 45 35 v151 (((onP (startD D0).2 k) ++ A2).length) (((onP (startD D0).2 k) ++ A2).flatMap encA), cellC b81 57 (([(.int .i64 (x75.doo)), (.int .i64 (x75.kind)), (.int .i64 (x75.round)), (.int .i64 (x75.valid)), (.int .i64 (x75.replica))] : List Value) ++ hc x75.h ++ ([(.bool (x75.ok)), (.bool (x75.raw))] : List Value)), rowC 45 35 (.slice a148 A2.length c149) A2.length (A2.flatMap encA)] w152 := H153.cast (by simp only [List.length_append, List.flatMap_append])
              obtain ⟨a154, c155, rfl⟩ := ownsRow_shape (H156.at 6 rfl)
              refine hK150 _ _ ?_
              clear hK150 K150
              refine wl_pure (wants0 rfl) (d := 13) (v := (.slice a154 (((onP (startD D0).2 k) ++ A2).length) c155)) rfl (by kernel_rfl) ?_
              refine w_nil ?_
              refine blk_normal ?_
              have H157 : Sat w [restC w (fun _ => False), cellC b6 25 ([(.int .i64 (F)), (.int .i64 (1))] : List Value), cellC k31 92 (([(.int .i64 (D2.f)), (.int .i64 (D2.c)), (.int .i64 (D2.epoch)), (.int .i64 (D2.replica)), (.int .i64 (D2.s.round)), (.int .i64 (D2.s.step)), (.int .i64 (D2.s.lr)), (.int .i64 (D2.s.vr))] : List Value) ++ hc D2.s.locked ++ hc D2.s.valid ++ ([(.bool (D2.s.decided))] : List Value) ++ hc D2.s.decision ++ ([(.pointer (some ⟨t32, 0, none⟩)), (.map (some pb37)), (.bool (D2.wv)), (.bool (D2.sp)), (.bool (D2.sc))] : List Value)), talC t32 hb33 cb34 ab35 lb36 D2.f D2.c D2.L, mapC pb37 (Value.int .i64) propV D2.P, mapC b41 turnV (Value.int .i64) (bumps (onE (3 * F + 1) ls (startD D0).1 (startD D0).2 k)), rowC 45 35 (.slice a154 ((onP (startD D0).2 k) ++ A2).length c155) (((onP (startD D0).2 k) ++ A2).length) (((onP (startD D0).2 k) ++ A2).flatMap encA), cellC b81 57 (([(.int .i64 (x75.doo)), (.int .i64 (x75.kind)), (.int .i64 (x75.round)), (.int .i64 (x75.valid)), (.int .i64 (x75.replica))] : List Value) ++ hc x75.h ++ ([(.bool (x75.ok)), (.bool (x75.raw))] : List Value))] w152 := H156.pick [0, 1, 2, 3, 4, 5, 6, 7] (by decide)
              refine meetR_at ?_ ⟨a154, c155, rfl, H157⟩
              exact (same_upd rfl (same_upd rfl (same_upd rfl (same_upd rfl (same_upd rfl (same_upd rfl (same_upd rfl (same_upd rfl (same_upd rfl (same_upd rfl (same_upd rfl (same_upd rfl (same_upd rfl (same_upd rfl (same_upd rfl (same_upd rfl (same_upd rfl (same_upd rfl (same_upd rfl (same_upd rfl (same_upd rfl (same_upd rfl (same_refl)))))))))))))))))))))))
            · have g158 := of_decide_eq_false b139
              refine wp_know 92 (.bool false) (congrArg Value.bool b139) ?_
              have g159 := of_decide_eq_false b139
              refine wp_iff rfl ?_
              refine w_seq ?_
              refine w_lit ?_
              refine wl_pure (wants0 rfl) (d := 104) (v := (.bool (decide ((withinV x75.doo 8) = 7)))) rfl (by kernel_rfl) ?_
              refine wl_pure (wants0 rfl) (d := 103) (v := (.bool (decide ((withinV x75.doo 8) = 7)))) rfl (by kernel_rfl) ?_
              refine w_nil ?_
              refine then_normal ?_
              refine (bsplit (decide ((withinV x75.doo 8) = 7))).elim (fun b160 => ?_) (fun b160 => ?_)
              · have g161 := of_decide_eq_true b160
                refine wp_know 103 (.bool true) (congrArg Value.bool b160) ?_
                have g162 := of_decide_eq_true b160
                refine wp_ift rfl ?_
                refine w_lit ?_
                refine wl_pure (wants0 rfl) (d := 105) (v := (.slice a (onP (startD D0).2 k).length q)) rfl (by kernel_rfl) ?_
                refine wl_pure (wants0 rfl) (d := 106) (v := (.pointer (some ⟨k31, 0, none⟩))) rfl (by kernel_rfl) ?_
                refine wl_do (wants0 rfl) (fun K163 hK163 => ?_)
                refine d_call (d := 107) rfl (by kernel_rfl) (coreStart_any w94 k31 t32 hb33 cb34 ab35 lb36 pb37 (onD (3 * F + 1) ls (startD D0).1 k) (ok_of (by kernel_rfl) (H95.fin [2, 3, 4] (by decide) rfl)) (onCI C0.start k) ) ?_
                rintro _ w165 ⟨v164, rfl, S166⟩
                rw [(show startD (onD (3 * F + 1) ls (startD D0).1 k)  = (D2, A2) by rw [← hst]; unfold stepI; rw [if_neg (fun q => q.elim (of_decide_eq_false b97) (of_decide_eq_false b118)), if_neg (of_decide_eq_false b139), if_pos (of_decide_eq_true b160)])] at S166
                replace S166 := Sat.cast (G' := [cellC k31 92 (([(.int .i64 (D2.f)), (.int .i64 (D2.c)), (.int .i64 (D2.epoch)), (.int .i64 (D2.replica)), (.int .i64 (D2.s.round)), (.int .i64 (D2.s.step)), (.int .i64 (D2.s.lr)), (.int .i64 (D2.s.vr))] : List Value) ++ hc D2.s.locked ++ hc D2.s.valid ++ ([(.bool (D2.s.decided))] : List Value) ++ hc D2.s.decision ++ ([(.pointer (some ⟨t32, 0, none⟩)), (.map (some pb37)), (.bool (D2.wv)), (.bool (D2.sp)), (.bool (D2.sc))] : List Value)), talC t32 hb33 cb34 ab35 lb36 D2.f D2.c D2.L, mapC pb37 (Value.int .i64) propV D2.P, rowC 45 35 v164 A2.length (A2.flatMap encA), restC w94 (coreC k31 t32 hb33 cb34 ab35 lb36 pb37 (onD (3 * F + 1) ls (startD D0).1 k)).fp]) S166 (by kernel_rfl)
                have H168 : Sat w [restC w (fun _ => False), cellC b6 25 ([(.int .i64 (F)), (.int .i64 (1))] : List Value), cellC k31 92 (([(.int .i64 (D2.f)), (.int .i64 (D2.c)), (.int .i64 (D2.epoch)), (.int .i64 (D2.replica)), (.int .i64 (D2.s.round)), (.int .i64 (D2.s.step)), (.int .i64 (D2.s.lr)), (.int .i64 (D2.s.vr))] : List Value) ++ hc D2.s.locked ++ hc D2.s.valid ++ ([(.bool (D2.s.decided))] : List Value) ++ hc D2.s.decision ++ ([(.pointer (some ⟨t32, 0, none⟩)), (.map (some pb37)), (.bool (D2.wv)), (.bool (D2.sp)), (.bool (D2.sc))] : List Value)), talC t32 hb33 cb34 ab35 lb36 D2.f D2.c D2.L, mapC pb37 (Value.int .i64) propV D2.P, mapC b41 turnV (Value.int .i64) (bumps (onE (3 * F + 1) ls (startD D0).1 (startD D0).2 k)), rowC 45 35 (.slice a (onP (startD D0).2 k).length q) ((onP (startD D0).2 k).length) ((onP (startD D0).2 k).flatMap encA), cellC b81 57 (([(.int .i64 (x75.doo)), (.int .i64 (x75.kind)), (.int .i64 (x75.round)), (.int .i64 (x75.valid)), (.int .i64 (x75.replica))] : List Value) ++ hc x75.h ++ ([(.bool (x75.ok)), (.bool (x75.raw))] : List Value)), rowC 45 35 v164 A2.length (A2.flatMap encA)] w165 := (Sat.turnL (L' := [cellC k31 92 (([(.int .i64 (D2.f)), (.int .i64 (D2.c)), (.int .i64 (D2.epoch)), (.int .i64 (D2.replica)), (.int .i64 (D2.s.round)), (.int .i64 (D2.s.step)), (.int .i64 (D2.s.lr)), (.int .i64 (D2.s.vr))] : List Value) ++ hc D2.s.locked ++ hc D2.s.valid ++ ([(.bool (D2.s.decided))] : List Value) ++ hc D2.s.decision ++ ([(.pointer (some ⟨t32, 0, none⟩)), (.map (some pb37)), (.bool (D2.wv)), (.bool (D2.sp)), (.bool (D2.sc))] : List Value)), talC t32 hb33 cb34 ab35 lb36 D2.f D2.c D2.L, mapC pb37 (Value.int .i64) propV D2.P, rowC 45 35 v164 A2.length (A2.flatMap encA)]) (R := [restC w (fun _ => False), cellC b6 25 ([(.int .i64 (F)), (.int .i64 (1))] : List Value), mapC b41 turnV (Value.int .i64) (bumps (onE (3 * F + 1) ls (startD D0).1 (startD D0).2 k)), rowC 45 35 (.slice a (onP (startD D0).2 k).length q) ((onP (startD D0).2 k).length) ((onP (startD D0).2 k).flatMap encA), cellC b81 57 (([(.int .i64 (x75.doo)), (.int .i64 (x75.kind)), (.int .i64 (x75.round)), (.int .i64 (x75.valid)), (.int .i64 (x75.replica))] : List Value) ++ hc x75.h ++ ([(.bool (x75.ok)), (.bool (x75.raw))] : List Value))]) H95 [2, 3, 4] [0, 1, 5, 6, 7] (by decide) (by kernel_rfl) rfl S166).pick [4, 5, 0, 1, 2, 6, 7, 8, 3] (by decide)
                obtain ⟨a169, c170, rfl⟩ := ownsRow_shape (H168.at 8 rfl)
                refine ⟨_, rfl, ?_⟩
                refine hK163 _ _ ?_
                clear hK163 K163
                refine wl_do (wants0 rfl) (fun K171 hK171 => ?_)
                refine d_append (T := 31) (e := 45) (size := 35) (bytes := 56) rfl H168 (by kernel_rfl) 6 8 rfl rfl rfl rfl (flat_one encA encA_one A2) (by omega) (by omega) ?_
                intro v172 w173 (H174 : Sat w [restC w (fun _ => False), cellC b6 25 ([(.int .i64 (F)), (.int .i64 (1))] : List Value), cellC k31 92 (([(.int .i64 (D2.f)), (.int .i64 (D2.c)), (.int .i64 (D2.epoch)), (.int .i64 (D2.replica)), (.int .i64 (D2.s.round)), (.int .i64 (D2.s.step)), (.int .i64 (D2.s.lr)), (.int .i64 (D2.s.vr))] : List Value) ++ hc D2.s.locked ++ hc D2.s.valid ++ ([(.bool (D2.s.decided))] : List Value) ++ hc D2.s.decision ++ ([(.pointer (some ⟨t32, 0, none⟩)), (.map (some pb37)), (.bool (D2.wv)), (.bool (D2.sp)), (.bool (D2.sc))] : List Value)), talC t32 hb33 cb34 ab35 lb36 D2.f D2.c D2.L, mapC pb37 (Value.int .i64) propV D2.P, mapC b41 turnV (Value.int .i64) (bumps (onE (3 * F + 1) ls (startD D0).1 (startD D0).2 k)), rowC 45 35 v172 ((onP (startD D0).2 k).length + A2.length) (((onP (startD D0).2 k).flatMap encA) ++ (A2.flatMap encA)), cellC b81 57 (([(.int .i64 (x75.doo)), (.int .i64 (x75.kind)), (.int .i64 (x75.round)), (.int .i64 (x75.valid)), (.int .i64 (x75.replica))] : List Value) ++ hc x75.h ++ ([(.bool (x75.ok)), (.bool (x75.raw))] : List Value)), rowC 45 35 (.slice a169 A2.length c170) A2.length (A2.flatMap encA)] w173)
                have H177 : Sat w [restC w (fun _ => False), cellC b6 25 ([(.int .i64 (F)), (.int .i64 (1))] : List Value), cellC k31 92 (([(.int .i64 (D2.f)), (.int .i64 (D2.c)), (.int .i64 (D2.epoch)), (.int .i64 (D2.replica)), (.int .i64 (D2.s.round)), (.int .i64 (D2.s.step)), (.int .i64 (D2.s.lr)), (.int .i64 (D2.s.vr))] : List Value) ++ hc D2.s.locked ++ hc D2.s.valid ++ ([(.bool (D2.s.decided))] : List Value) ++ hc D2.s.decision ++ ([(.pointer (some ⟨t32, 0, none⟩)), (.map (some pb37)), (.bool (D2.wv)), (.bool (D2.sp)), (.bool (D2.sc))] : List Value)), talC t32 hb33 cb34 ab35 lb36 D2.f D2.c D2.L, mapC pb37 (Value.int .i64) propV D2.P, mapC b41 turnV (Value.int .i64) (bumps (onE (3 * F + 1) ls (startD D0).1 (startD D0).2 k)), rowC 45 35 v172 (((onP (startD D0).2 k) ++ A2).length) (((onP (startD D0).2 k) ++ A2).flatMap encA), cellC b81 57 (([(.int .i64 (x75.doo)), (.int .i64 (x75.kind)), (.int .i64 (x75.round)), (.int .i64 (x75.valid)), (.int .i64 (x75.replica))] : List Value) ++ hc x75.h ++ ([(.bool (x75.ok)), (.bool (x75.raw))] : List Value)), rowC 45 35 (.slice a169 A2.length c170) A2.length (A2.flatMap encA)] w173 := H174.cast (by simp only [List.length_append, List.flatMap_append])
                obtain ⟨a175, c176, rfl⟩ := ownsRow_shape (H177.at 6 rfl)
                refine hK171 _ _ ?_
                clear hK171 K171
                refine wl_pure (wants0 rfl) (d := 13) (v := (.slice a175 (((onP (startD D0).2 k) ++ A2).length) c176)) rfl (by kernel_rfl) ?_
                refine w_nil ?_
                refine blk_normal ?_
                have H178 : Sat w [restC w (fun _ => False), cellC b6 25 ([(.int .i64 (F)), (.int .i64 (1))] : List Value), cellC k31 92 (([(.int .i64 (D2.f)), (.int .i64 (D2.c)), (.int .i64 (D2.epoch)), (.int .i64 (D2.replica)), (.int .i64 (D2.s.round)), (.int .i64 (D2.s.step)), (.int .i64 (D2.s.lr)), (.int .i64 (D2.s.vr))] : List Value) ++ hc D2.s.locked ++ hc D2.s.valid ++ ([(.bool (D2.s.decided))] : List Value) ++ hc D2.s.decision ++ ([(.pointer (some ⟨t32, 0, none⟩)), (.map (some pb37)), (.bool (D2.wv)), (.bool (D2.sp)), (.bool (D2.sc))] : List Value)), talC t32 hb33 cb34 ab35 lb36 D2.f D2.c D2.L, mapC pb37 (Value.int .i64) propV D2.P, mapC b41 turnV (Value.int .i64) (bumps (onE (3 * F + 1) ls (startD D0).1 (startD D0).2 k)), rowC 45 35 (.slice a175 ((onP (startD D0).2 k) ++ A2).length c176) (((onP (startD D0).2 k) ++ A2).length) (((onP (startD D0).2 k) ++ A2).flatMap encA), cellC b81 57 (([(.int .i64 (x75.doo)), (.int .i64 (x75.kind)), (.int .i64 (x75.round)), (.int .i64 (x75.valid)), (.int .i64 (x75.replica))] : List Value) ++ hc x75.h ++ ([(.bool (x75.ok)), (.bool (x75.raw))] : List Value))] w173 := H177.pick [0, 1, 2, 3, 4, 5, 6, 7] (by decide)
                refine meetR_at ?_ ⟨a175, c176, rfl, H178⟩
                exact (same_upd rfl (same_upd rfl (same_upd rfl (same_upd rfl (same_upd rfl (same_upd rfl (same_upd rfl (same_upd rfl (same_upd rfl (same_upd rfl (same_upd rfl (same_upd rfl (same_upd rfl (same_upd rfl (same_upd rfl (same_upd rfl (same_upd rfl (same_upd rfl (same_upd rfl (same_upd rfl (same_refl)))))))))))))))))))))
              · have g179 := of_decide_eq_false b160
                refine wp_know 103 (.bool false) (congrArg Value.bool b160) ?_
                have g180 := of_decide_eq_false b160
                refine wp_iff rfl ?_
                refine w_lit ?_
                refine wl_pure (wants0 rfl) (d := 65) (v := (.slice a (onP (startD D0).2 k).length q)) rfl (by kernel_rfl) ?_
                refine wl_pure (wants0 rfl) (d := 66) (v := (.pointer (some ⟨k31, 0, none⟩))) rfl (by kernel_rfl) ?_
                refine wl_pure (wants0 rfl) (d := 67) (v := (.pointer (some ⟨b81, 1, none⟩))) rfl (by kernel_rfl) ?_
                refine wl_pure (wants0 rfl) (d := 68) (v := (.int .i64 (x75.kind))) rfl (e_load1 rfl (by kernel_rfl) (H95.cell 7 rfl (by kernel_rfl))) ?_
                refine wl_pure (wants0 rfl) (d := 69) (v := (.pointer (some ⟨b81, 2, none⟩))) rfl (by kernel_rfl) ?_
                refine wl_pure (wants0 rfl) (d := 70) (v := (.int .i64 (x75.round))) rfl (e_load1 rfl (by kernel_rfl) (H95.cell 7 rfl (by kernel_rfl))) ?_
                refine wl_pure (wants0 rfl) (d := 71) (v := (.pointer (some ⟨b81, 4, none⟩))) rfl (by kernel_rfl) ?_
                refine wl_pure (wants0 rfl) (d := 72) (v := (.int .i64 (x75.replica))) rfl (e_load1 rfl (by kernel_rfl) (H95.cell 7 rfl (by kernel_rfl))) ?_
                refine wl_pure (wants0 rfl) (d := 73) (v := (.pointer (some ⟨b81, 5, none⟩))) rfl (by kernel_rfl) ?_
                refine wl_pure (wants0 rfl) (d := 74) (v := (.agg ⟨(hc x75.h)⟩)) rfl (e_loadN (vs := (hc x75.h)) rfl (by kernel_rfl) (by kernel_rfl) (by exact Nat.le_of_ble_eq_true (by kernel_rfl)) (H95.at 7 rfl) (by kernel_rfl)) ?_
                refine wl_do (wants0 rfl) (fun K181 hK181 => ?_)
                refine d_call (d := 75) rfl (by kernel_rfl) (coreVote_any w94 k31 t32 hb33 cb34 ab35 lb36 pb37 (onD (3 * F + 1) ls (startD D0).1 k) (ok_of (by kernel_rfl) (H95.fin [2, 3, 4] (by decide) rfl)) (onCI C0.start k) x75.kind x75.round x75.replica x75.h) ?_
                rintro _ w183 ⟨v182, rfl, S184⟩
                rw [(show voteD' (onD (3 * F + 1) ls (startD D0).1 k) x75.kind x75.round x75.replica x75.h = (D2, A2) by rw [← hst]; unfold stepI; rw [if_neg (fun q => q.elim (of_decide_eq_false b97) (of_decide_eq_false b118)), if_neg (of_decide_eq_false b139), if_neg (of_decide_eq_false b160)])] at S184
                replace S184 := Sat.cast (G' := [cellC k31 92 (([(.int .i64 (D2.f)), (.int .i64 (D2.c)), (.int .i64 (D2.epoch)), (.int .i64 (D2.replica)), (.int .i64 (D2.s.round)), (.int .i64 (D2.s.step)), (.int .i64 (D2.s.lr)), (.int .i64 (D2.s.vr))] : List Value) ++ hc D2.s.locked ++ hc D2.s.valid ++ ([(.bool (D2.s.decided))] : List Value) ++ hc D2.s.decision ++ ([(.pointer (some ⟨t32, 0, none⟩)), (.map (some pb37)), (.bool (D2.wv)), (.bool (D2.sp)), (.bool (D2.sc))] : List Value)), talC t32 hb33 cb34 ab35 lb36 D2.f D2.c D2.L, mapC pb37 (Value.int .i64) propV D2.P, rowC 45 35 v182 A2.length (A2.flatMap encA), restC w94 (coreC k31 t32 hb33 cb34 ab35 lb36 pb37 (onD (3 * F + 1) ls (startD D0).1 k)).fp]) S184 (by kernel_rfl)
                have H186 : Sat w [restC w (fun _ => False), cellC b6 25 ([(.int .i64 (F)), (.int .i64 (1))] : List Value), cellC k31 92 (([(.int .i64 (D2.f)), (.int .i64 (D2.c)), (.int .i64 (D2.epoch)), (.int .i64 (D2.replica)), (.int .i64 (D2.s.round)), (.int .i64 (D2.s.step)), (.int .i64 (D2.s.lr)), (.int .i64 (D2.s.vr))] : List Value) ++ hc D2.s.locked ++ hc D2.s.valid ++ ([(.bool (D2.s.decided))] : List Value) ++ hc D2.s.decision ++ ([(.pointer (some ⟨t32, 0, none⟩)), (.map (some pb37)), (.bool (D2.wv)), (.bool (D2.sp)), (.bool (D2.sc))] : List Value)), talC t32 hb33 cb34 ab35 lb36 D2.f D2.c D2.L, mapC pb37 (Value.int .i64) propV D2.P, mapC b41 turnV (Value.int .i64) (bumps (onE (3 * F + 1) ls (startD D0).1 (startD D0).2 k)), rowC 45 35 (.slice a (onP (startD D0).2 k).length q) ((onP (startD D0).2 k).length) ((onP (startD D0).2 k).flatMap encA), cellC b81 57 (([(.int .i64 (x75.doo)), (.int .i64 (x75.kind)), (.int .i64 (x75.round)), (.int .i64 (x75.valid)), (.int .i64 (x75.replica))] : List Value) ++ hc x75.h ++ ([(.bool (x75.ok)), (.bool (x75.raw))] : List Value)), rowC 45 35 v182 A2.length (A2.flatMap encA)] w183 := (Sat.turnL (L' := [cellC k31 92 (([(.int .i64 (D2.f)), (.int .i64 (D2.c)), (.int .i64 (D2.epoch)), (.int .i64 (D2.replica)), (.int .i64 (D2.s.round)), (.int .i64 (D2.s.step)), (.int .i64 (D2.s.lr)), (.int .i64 (D2.s.vr))] : List Value) ++ hc D2.s.locked ++ hc D2.s.valid ++ ([(.bool (D2.s.decided))] : List Value) ++ hc D2.s.decision ++ ([(.pointer (some ⟨t32, 0, none⟩)), (.map (some pb37)), (.bool (D2.wv)), (.bool (D2.sp)), (.bool (D2.sc))] : List Value)), talC t32 hb33 cb34 ab35 lb36 D2.f D2.c D2.L, mapC pb37 (Value.int .i64) propV D2.P, rowC 45 35 v182 A2.length (A2.flatMap encA)]) (R := [restC w (fun _ => False), cellC b6 25 ([(.int .i64 (F)), (.int .i64 (1))] : List Value), mapC b41 turnV (Value.int .i64) (bumps (onE (3 * F + 1) ls (startD D0).1 (startD D0).2 k)), rowC 45 35 (.slice a (onP (startD D0).2 k).length q) ((onP (startD D0).2 k).length) ((onP (startD D0).2 k).flatMap encA), cellC b81 57 (([(.int .i64 (x75.doo)), (.int .i64 (x75.kind)), (.int .i64 (x75.round)), (.int .i64 (x75.valid)), (.int .i64 (x75.replica))] : List Value) ++ hc x75.h ++ ([(.bool (x75.ok)), (.bool (x75.raw))] : List Value))]) H95 [2, 3, 4] [0, 1, 5, 6, 7] (by decide) (by kernel_rfl) rfl S184).pick [4, 5, 0, 1, 2, 6, 7, 8, 3] (by decide)
                obtain ⟨a187, c188, rfl⟩ := ownsRow_shape (H186.at 8 rfl)
                refine ⟨_, rfl, ?_⟩
                refine hK181 _ _ ?_
                clear hK181 K181
                refine wl_do (wants0 rfl) (fun K189 hK189 => ?_)
                refine d_append (T := 31) (e := 45) (size := 35) (bytes := 56) rfl H186 (by kernel_rfl) 6 8 rfl rfl rfl rfl (flat_one encA encA_one A2) (by omega) (by omega) ?_
                intro v190 w191 (H192 : Sat w [restC w (fun _ => False), cellC b6 25 ([(.int .i64 (F)), (.int .i64 (1))] : List Value), cellC k31 92 (([(.int .i64 (D2.f)), (.int .i64 (D2.c)), (.int .i64 (D2.epoch)), (.int .i64 (D2.replica)), (.int .i64 (D2.s.round)), (.int .i64 (D2.s.step)), (.int .i64 (D2.s.lr)), (.int .i64 (D2.s.vr))] : List Value) ++ hc D2.s.locked ++ hc D2.s.valid ++ ([(.bool (D2.s.decided))] : List Value) ++ hc D2.s.decision ++ ([(.pointer (some ⟨t32, 0, none⟩)), (.map (some pb37)), (.bool (D2.wv)), (.bool (D2.sp)), (.bool (D2.sc))] : List Value)), talC t32 hb33 cb34 ab35 lb36 D2.f D2.c D2.L, mapC pb37 (Value.int .i64) propV D2.P, mapC b41 turnV (Value.int .i64) (bumps (onE (3 * F + 1) ls (startD D0).1 (startD D0).2 k)), rowC 45 35 v190 ((onP (startD D0).2 k).length + A2.length) (((onP (startD D0).2 k).flatMap encA) ++ (A2.flatMap encA)), cellC b81 57 (([(.int .i64 (x75.doo)), (.int .i64 (x75.kind)), (.int .i64 (x75.round)), (.int .i64 (x75.valid)), (.int .i64 (x75.replica))] : List Value) ++ hc x75.h ++ ([(.bool (x75.ok)), (.bool (x75.raw))] : List Value)), rowC 45 35 (.slice a187 A2.length c188) A2.length (A2.flatMap encA)] w191)
                have H195 : Sat w [restC w (fun _ => False), cellC b6 25 ([(.int .i64 (F)), (.int .i64 (1))] : List Value), cellC k31 92 (([(.int .i64 (D2.f)), (.int .i64 (D2.c)), (.int .i64 (D2.epoch)), (.int .i64 (D2.replica)), (.int .i64 (D2.s.round)), (.int .i64 (D2.s.step)), (.int .i64 (D2.s.lr)), (.int .i64 (D2.s.vr))] : List Value) ++ hc D2.s.locked ++ hc D2.s.valid ++ ([(.bool (D2.s.decided))] : List Value) ++ hc D2.s.decision ++ ([(.pointer (some ⟨t32, 0, none⟩)), (.map (some pb37)), (.bool (D2.wv)), (.bool (D2.sp)), (.bool (D2.sc))] : List Value)), talC t32 hb33 cb34 ab35 lb36 D2.f D2.c D2.L, mapC pb37 (Value.int .i64) propV D2.P, mapC b41 turnV (Value.int .i64) (bumps (onE (3 * F + 1) ls (startD D0).1 (startD D0).2 k)), rowC 45 35 v190 (((onP (startD D0).2 k) ++ A2).length) (((onP (startD D0).2 k) ++ A2).flatMap encA), cellC b81 57 (([(.int .i64 (x75.doo)), (.int .i64 (x75.kind)), (.int .i64 (x75.round)), (.int .i64 (x75.valid)), (.int .i64 (x75.replica))] : List Value) ++ hc x75.h ++ ([(.bool (x75.ok)), (.bool (x75.raw))] : List Value)), rowC 45 35 (.slice a187 A2.length c188) A2.length (A2.flatMap encA)] w191 := H192.cast (by simp only [List.length_append, List.flatMap_append])
                obtain ⟨a193, c194, rfl⟩ := ownsRow_shape (H195.at 6 rfl)
                refine hK189 _ _ ?_
                clear hK189 K189
                refine wl_pure (wants0 rfl) (d := 13) (v := (.slice a193 (((onP (startD D0).2 k) ++ A2).length) c194)) rfl (by kernel_rfl) ?_
                refine w_nil ?_
                refine blk_normal ?_
                have H196 : Sat w [restC w (fun _ => False), cellC b6 25 ([(.int .i64 (F)), (.int .i64 (1))] : List Value), cellC k31 92 (([(.int .i64 (D2.f)), (.int .i64 (D2.c)), (.int .i64 (D2.epoch)), (.int .i64 (D2.replica)), (.int .i64 (D2.s.round)), (.int .i64 (D2.s.step)), (.int .i64 (D2.s.lr)), (.int .i64 (D2.s.vr))] : List Value) ++ hc D2.s.locked ++ hc D2.s.valid ++ ([(.bool (D2.s.decided))] : List Value) ++ hc D2.s.decision ++ ([(.pointer (some ⟨t32, 0, none⟩)), (.map (some pb37)), (.bool (D2.wv)), (.bool (D2.sp)), (.bool (D2.sc))] : List Value)), talC t32 hb33 cb34 ab35 lb36 D2.f D2.c D2.L, mapC pb37 (Value.int .i64) propV D2.P, mapC b41 turnV (Value.int .i64) (bumps (onE (3 * F + 1) ls (startD D0).1 (startD D0).2 k)), rowC 45 35 (.slice a193 ((onP (startD D0).2 k) ++ A2).length c194) (((onP (startD D0).2 k) ++ A2).length) (((onP (startD D0).2 k) ++ A2).flatMap encA), cellC b81 57 (([(.int .i64 (x75.doo)), (.int .i64 (x75.kind)), (.int .i64 (x75.round)), (.int .i64 (x75.valid)), (.int .i64 (x75.replica))] : List Value) ++ hc x75.h ++ ([(.bool (x75.ok)), (.bool (x75.raw))] : List Value))] w191 := H195.pick [0, 1, 2, 3, 4, 5, 6, 7] (by decide)
                refine meetR_at ?_ ⟨a193, c194, rfl, H196⟩
                exact (same_upd rfl (same_upd rfl (same_upd rfl (same_upd rfl (same_upd rfl (same_upd rfl (same_upd rfl (same_upd rfl (same_upd rfl (same_upd rfl (same_upd rfl (same_upd rfl (same_upd rfl (same_upd rfl (same_upd rfl (same_upd rfl (same_upd rfl (same_upd rfl (same_upd rfl (same_upd rfl (same_upd rfl (same_upd rfl (same_upd rfl (same_upd rfl (same_upd rfl (same_upd rfl (same_upd rfl (same_upd rfl (same_refl)))))))))))))))))))))))))))))
      · rintro f197 w198 ⟨a2, q2, v200, H199⟩
        refine wp_know 13 _ v200 ?_
        refine w_seq ?_
        refine w_seq ?_
        refine w_lit ?_
        refine wl_pure (wants0 rfl) (d := 109) (v := (.bool ((onD (3 * F + 1) ls (startD D0).1 k).s.decided))) rfl (by kernel_rfl) ?_
        refine wl_pure (wants0 rfl) (d := 110) (v := (.bool ((onD (3 * F + 1) ls (startD D0).1 k).s.decided))) rfl (by kernel_rfl) ?_
        refine (bsplit ((onD (3 * F + 1) ls (startD D0).1 k).s.decided)).elim (fun b201 => ?_) (fun b201 => ?_)
        · refine wl_know 110 (.bool true) (congrArg Value.bool b201) ?_
          refine wl_pure (wantsY 1 110 true rfl (by kernel_rfl) rfl (by kernel_rfl)) (d := 111) (v := (.slice a2 ((onP (startD D0).2 k) ++ A2).length q2)) rfl (by kernel_rfl) ?_
          refine wl_pure (wantsY 1 110 true rfl (by kernel_rfl) rfl (by kernel_rfl)) (d := 112) (v := (.int .i64 ((((onP (startD D0).2 k) ++ A2).length : Int)))) rfl (by kernel_rfl) ?_
          refine wl_pure (wantsY 1 110 true rfl (by kernel_rfl) rfl (by kernel_rfl)) (d := 113) (v := (.bool (decide ((((onP (startD D0).2 k) ++ A2).length : Int) > 0)))) rfl (by kernel_rfl) ?_
          refine wl_pure (wants0 rfl) (d := 114) (v := (.bool (decide ((((onP (startD D0).2 k) ++ A2).length : Int) > 0)))) rfl (by kernel_rfl) ?_
          refine w_nil ?_
          refine then_normal ?_
          have b202 : (decide ((((onP (startD D0).2 k) ++ A2).length : Int) > 0)) = false := by (exact decide_eq_false (by have := hO.nodec (by assumption); omega))
          refine wp_know 114 (.bool false) (congrArg Value.bool b202) ?_
          have g203 := of_decide_eq_false b202
          refine wp_iff rfl ?_
          refine w_skip ?_
          refine then_normal ?_
          refine w_seq ?_
          refine w_seq ?_
          refine w_lit ?_
          refine wl_pure (wants0 rfl) (d := 115) (v := (.slice a2 ((onP (startD D0).2 k) ++ A2).length q2)) rfl (by kernel_rfl) ?_
          refine wl_pure (wants0 rfl) (d := 116) (v := (.int .i64 ((((onP (startD D0).2 k) ++ A2).length : Int)))) rfl (by kernel_rfl) ?_
          refine wl_pure (wants0 rfl) (d := 117) (v := (.int .i64 (0))) rfl (by kernel_rfl) ?_
          refine w_nil ?_
          refine then_normal ?_
          refine w_block ?_
          have H204 : Sat w [restC w (fun _ => False), cellC b6 25 ([(.int .i64 (F)), (.int .i64 (1))] : List Value), cellC k31 92 (([(.int .i64 (D2.f)), (.int .i64 (D2.c)), (.int .i64 (D2.epoch)), (.int .i64 (D2.replica)), (.int .i64 (D2.s.round)), (.int .i64 (D2.s.step)), (.int .i64 (D2.s.lr)), (.int .i64 (D2.s.vr))] : List Value) ++ hc D2.s.locked ++ hc D2.s.valid ++ ([(.bool (D2.s.decided))] : List Value) ++ hc D2.s.decision ++ ([(.pointer (some ⟨t32, 0, none⟩)), (.map (some pb37)), (.bool (D2.wv)), (.bool (D2.sp)), (.bool (D2.sc))] : List Value)), talC t32 hb33 cb34 ab35 lb36 D2.f D2.c D2.L, mapC pb37 (Value.int .i64) propV D2.P, mapC b41 turnV (Value.int .i64) (bumps ((onE (3 * F + 1) ls (startD D0).1 (startD D0).2 k) ++ ((onP (startD D0).2 k) ++ A2).take 0)), rowC 45 35 (.slice a2 ((onP (startD D0).2 k) ++ A2).length q2) (((onP (startD D0).2 k) ++ A2).length) (((onP (startD D0).2 k) ++ A2).flatMap encA), cellC b81 57 (([(.int .i64 (x75.doo)), (.int .i64 (x75.kind)), (.int .i64 (x75.round)), (.int .i64 (x75.valid)), (.int .i64 (x75.replica))] : List Value) ++ hc x75.h ++ ([(.bool (x75.ok)), (.bool (x75.raw))] : List Value))] w198 := H199.cast (by rw [List.take_zero, List.append_nil])
          have hAl : ((onP (startD D0).2 k) ++ A2).length ≤ 100000000 := by rw [List.length_append]; omega
          refine wp_round [6, 18, 117, 118, 119, 120, 121, 122, 123, 124, 125, 126, 127, 128, 129, 130, 131, 132, 133, 134, 135, 136, 137, 138, 139, 140, 141, 142, 143, 144, 145, 146, 147, 148, 149, 150, 151, 152, 153, 154, 155, 156, 157, 158, 159, 160, 161, 162, 163, 164, 165, 166] (fun F_ W_ m_ => ∃ (i : Nat), F_ 117 = (.int .i64 ((i : Int))) ∧ (i ≤ ((onP (startD D0).2 k) ++ A2).length) ∧ Sat w [restC w (fun _ => False), cellC b6 25 ([(.int .i64 (F)), (.int .i64 (1))] : List Value), cellC k31 92 (([(.int .i64 (D2.f)), (.int .i64 (D2.c)), (.int .i64 (D2.epoch)), (.int .i64 (D2.replica)), (.int .i64 (D2.s.round)), (.int .i64 (D2.s.step)), (.int .i64 (D2.s.lr)), (.int .i64 (D2.s.vr))] : List Value) ++ hc D2.s.locked ++ hc D2.s.valid ++ ([(.bool (D2.s.decided))] : List Value) ++ hc D2.s.decision ++ ([(.pointer (some ⟨t32, 0, none⟩)), (.map (some pb37)), (.bool (D2.wv)), (.bool (D2.sp)), (.bool (D2.sc))] : List Value)), talC t32 hb33 cb34 ab35 lb36 D2.f D2.c D2.L, mapC pb37 (Value.int .i64) propV D2.P, mapC b41 turnV (Value.int .i64) (bumps ((onE (3 * F + 1) ls (startD D0).1 (startD D0).2 k) ++ ((onP (startD D0).2 k) ++ A2).take i)), rowC 45 35 (.slice a2 ((onP (startD D0).2 k) ++ A2).length q2) (((onP (startD D0).2 k) ++ A2).length) (((onP (startD D0).2 k) ++ A2).flatMap encA), cellC b81 57 (([(.int .i64 (x75.doo)), (.int .i64 (x75.kind)), (.int .i64 (x75.round)), (.int .i64 (x75.valid)), (.int .i64 (x75.replica))] : List Value) ++ hc x75.h ++ ([(.bool (x75.ok)), (.bool (x75.raw))] : List Value))] W_ ∧ m_ = ((onP (startD D0).2 k) ++ A2).length - i) _ ⟨0, (by first | rfl | go_num), (Nat.zero_le _), H204, rfl⟩ ?_
          rintro g205 w206 _ ⟨i, v208, hi, H207, rfl⟩
          refine wp_know 117 _ v208 ?_
          refine w_seq ?_
          refine w_lit ?_
          refine wl_pure (wants0 rfl) (d := 118) (v := (.bool (decide ((i : Int) < (((onP (startD D0).2 k) ++ A2).length : Int))))) rfl (by kernel_rfl) ?_
          refine w_nil ?_
          refine then_normal ?_
          refine w_seq ?_
          refine (bsplit (decide ((i : Int) < (((onP (startD D0).2 k) ++ A2).length : Int)))).elim (fun b210 => ?_) (fun b210 => ?_)
          · have g211 := of_decide_eq_true b210
            refine wp_know 118 (.bool true) (congrArg Value.bool b210) ?_
            have g212 := of_decide_eq_true b210
            refine wp_ift rfl ?_
            refine w_skip ?_
            refine then_normal ?_
            refine w_seq ?_
            refine w_block ?_
            refine w_seq ?_
            refine w_lit ?_
            obtain ⟨g213, c214, e215⟩ := row_shape (H207.at 6 rfl) (by omega)
            obtain ⟨x216, h217⟩ := get_at (show i < ((onP (startD D0).2 k) ++ A2).length by omega)
            refine wl_pure (wants0 rfl) (d := 119) (v := (.pointer (some ⟨g213, 0 + ((i : Int)).toNat * 35, none⟩))) rfl (e_indexAddrV (E := 45) (by kernel_rfl) (by kernel_rfl) (Nat.le_of_ble_eq_true rfl) rfl e215 rfl (by omega) (by omega)) ?_
            refine wl_pure (wants0 rfl) (d := 120) (v := (.agg ⟨(([(.int .i64 (x216.kind)), (.int .i64 (x216.round)), (.int .i64 (x216.valid))] : List Value) ++ hc x216.h)⟩)) rfl (e_loadRun (vs := (([(.int .i64 (x216.kind)), (.int .i64 (x216.round)), (.int .i64 (x216.valid))] : List Value) ++ hc x216.h)) rfl (by kernel_rfl) (by kernel_rfl) (Nat.le_of_ble_eq_true (by kernel_rfl)) (rows_run (H207.at 6 rfl) e215 encA_len h217 0 (show 0 + ((i : Int)).toNat * 35 = i * 35 + 0 by omega) (by kernel_rfl) (by kernel_rfl))) ?_
            refine wl_do (wants0 rfl) (fun K218 hK218 => ?_)
            refine d_alloc (zs := (([(.int .i64 (0)), (.int .i64 (0)), (.int .i64 (0))] : List Value) ++ hc hash0)) (z := (.agg ⟨(([(.int .i64 (0)), (.int .i64 (0)), (.int .i64 (0))] : List Value) ++ hc hash0)⟩)) rfl H207 (by kernel_rfl) (by kernel_rfl) ?_
            intro b219 w220 (H221 : Sat w [restC w (fun _ => False), cellC b6 25 ([(.int .i64 (F)), (.int .i64 (1))] : List Value), cellC k31 92 (([(.int .i64 (D2.f)), (.int .i64 (D2.c)), (.int .i64 (D2.epoch)), (.int .i64 (D2.replica)), (.int .i64 (D2.s.round)), (.int .i64 (D2.s.step)), (.int .i64 (D2.s.lr)), (.int .i64 (D2.s.vr))] : List Value) ++ hc D2.s.locked ++ hc D2.s.valid ++ ([(.bool (D2.s.decided))] : List Value) ++ hc D2.s.decision ++ ([(.pointer (some ⟨t32, 0, none⟩)), (.map (some pb37)), (.bool (D2.wv)), (.bool (D2.sp)), (.bool (D2.sc))] : List Value)), talC t32 hb33 cb34 ab35 lb36 D2.f D2.c D2.L, mapC pb37 (Value.int .i64) propV D2.P, mapC b41 turnV (Value.int .i64) (bumps ((onE (3 * F + 1) ls (startD D0).1 (startD D0).2 k) ++ ((onP (startD D0).2 k) ++ A2).take i)), rowC 45 35 (.slice a2 ((onP (startD D0).2 k) ++ A2).length q2) (((onP (startD D0).2 k) ++ A2).length) (((onP (startD D0).2 k) ++ A2).flatMap encA), cellC b81 57 (([(.int .i64 (x75.doo)), (.int .i64 (x75.kind)), (.int .i64 (x75.round)), (.int .i64 (x75.valid)), (.int .i64 (x75.replica))] : List Value) ++ hc x75.h ++ ([(.bool (x75.ok)), (.bool (x75.raw))] : List Value)), cellC b219 45 (([(.int .i64 (0)), (.int .i64 (0)), (.int .i64 (0))] : List Value) ++ hc hash0)] w220)
            refine hK218 _ _ ?_
            clear hK218 K218
            refine wl_do (wants0 rfl) (fun K222 hK222 => ?_)
            refine d_storeX (vs := (([(.int .i64 (x216.kind)), (.int .i64 (x216.round)), (.int .i64 (x216.valid))] : List Value) ++ hc x216.h)) (cs' := (([(.int .i64 (x216.kind)), (.int .i64 (x216.round)), (.int .i64 (x216.valid))] : List Value) ++ hc x216.h)) rfl H221 8 rfl rfl rfl rfl (by kernel_rfl) (Nat.le_of_ble_eq_true (by kernel_rfl)) (Nat.le_of_ble_eq_true (by kernel_rfl)) (by kernel_rfl) (by kernel_rfl) ?_
            intro w223 (H224 : Sat w [restC w (fun _ => False), cellC b6 25 ([(.int .i64 (F)), (.int .i64 (1))] : List Value), cellC k31 92 (([(.int .i64 (D2.f)), (.int .i64 (D2.c)), (.int .i64 (D2.epoch)), (.int .i64 (D2.replica)), (.int .i64 (D2.s.round)), (.int .i64 (D2.s.step)), (.int .i64 (D2.s.lr)), (.int .i64 (D2.s.vr))] : List Value) ++ hc D2.s.locked ++ hc D2.s.valid ++ ([(.bool (D2.s.decided))] : List Value) ++ hc D2.s.decision ++ ([(.pointer (some ⟨t32, 0, none⟩)), (.map (some pb37)), (.bool (D2.wv)), (.bool (D2.sp)), (.bool (D2.sc))] : List Value)), talC t32 hb33 cb34 ab35 lb36 D2.f D2.c D2.L, mapC pb37 (Value.int .i64) propV D2.P, mapC b41 turnV (Value.int .i64) (bumps ((onE (3 * F + 1) ls (startD D0).1 (startD D0).2 k) ++ ((onP (startD D0).2 k) ++ A2).take i)), rowC 45 35 (.slice a2 ((onP (startD D0).2 k) ++ A2).length q2) (((onP (startD D0).2 k) ++ A2).length) (((onP (startD D0).2 k) ++ A2).flatMap encA), cellC b81 57 (([(.int .i64 (x75.doo)), (.int .i64 (x75.kind)), (.int .i64 (x75.round)), (.int .i64 (x75.valid)), (.int .i64 (x75.replica))] : List Value) ++ hc x75.h ++ ([(.bool (x75.ok)), (.bool (x75.raw))] : List Value)), cellC b219 45 (([(.int .i64 (x216.kind)), (.int .i64 (x216.round)), (.int .i64 (x216.valid))] : List Value) ++ hc x216.h)] w223)
            refine hK222 _ _ ?_
            clear hK222 K222
            refine w_nil ?_
            refine then_normal ?_
            refine w_seq ?_
            refine w_lit ?_
            refine wl_pure (wants0 rfl) (d := 121) (v := (.pointer (some ⟨b219, 0, none⟩))) rfl (by kernel_rfl) ?_
            refine wl_pure (wants0 rfl) (d := 122) (v := (.int .i64 (x216.kind))) rfl (e_load1 rfl (by kernel_rfl) (H224.cell 8 rfl (by kernel_rfl))) ?_
            refine w_nil ?_
            refine then_normal ?_
            refine w_block ?_
            refine w_seq ?_
            refine w_seq ?_
            refine w_lit ?_
            refine wl_pure (wants0 rfl) (d := 124) (v := (.bool (decide (x216.kind = 2)))) rfl (by kernel_rfl) ?_
            refine wl_pure (wants0 rfl) (d := 123) (v := (.bool (decide (x216.kind = 2)))) rfl (by kernel_rfl) ?_
            refine w_nil ?_
            refine then_normal ?_
            refine (bsplit (decide (x216.kind = 2))).elim (fun b226 => ?_) (fun b226 => ?_)
            · have g227 := of_decide_eq_true b226
              refine wp_know 123 (.bool true) (congrArg Value.bool b226) ?_
              have g228 := of_decide_eq_true b226
              refine wp_ift rfl ?_
              refine w_skip ?_
              refine then_normal ?_
              refine wp_ift rfl ?_
              refine w_seq ?_
              have hv : voteK x216.kind := .inl (of_decide_eq_true b226)
              have hbm : bumps ((onE (3 * F + 1) ls (startD D0).1 (startD D0).2 k) ++ ((onP (startD D0).2 k) ++ A2).take (i + 1)) = putM (bumps ((onE (3 * F + 1) ls (startD D0).1 (startD D0).2 k) ++ ((onP (startD D0).2 k) ++ A2).take i)) (⟨x216.kind, x216.round⟩ : Turn) ((lookM (bumps ((onE (3 * F + 1) ls (startD D0).1 (startD D0).2 k) ++ ((onP (startD D0).2 k) ++ A2).take i)) (⟨x216.kind, x216.round⟩ : Turn)).getD 0 + 1) := by rw [show ((onP (startD D0).2 k) ++ A2).take (i + 1) = ((onP (startD D0).2 k) ++ A2).take i ++ [x216] by rw [List.take_add_one, h217]; rfl, ← List.append_assoc, bumps_snoc]; unfold bumpM; rw [show (decide (x216.kind = 2) || decide (x216.kind = 3)) = true by rcases hv with q | q <;> rw [q] <;> rfl]; rfl
              have hb0 := bumps_look ((onE (3 * F + 1) ls (startD D0).1 (startD D0).2 k) ++ ((onP (startD D0).2 k) ++ A2).take i) (⟨x216.kind, x216.round⟩ : Turn) hv
              have hb1 := bumps_look ((onE (3 * F + 1) ls (startD D0).1 (startD D0).2 k) ++ ((onP (startD D0).2 k) ++ A2).take (i + 1)) (⟨x216.kind, x216.round⟩ : Turn) hv
              have hb2 := Nat.le_trans (cnt_take (onE (3 * F + 1) ls (startD D0).1 (startD D0).2 k) ((onP (startD D0).2 k) ++ A2) (i + 1) x216.kind x216.round) (hO.cnt _ _ hv)
              have hb3 := Nat.le_trans (cnt_take (onE (3 * F + 1) ls (startD D0).1 (startD D0).2 k) ((onP (startD D0).2 k) ++ A2) i x216.kind x216.round) (hO.cnt _ _ hv)
              rw [hbm] at hb1
              dsimp only at hb0 hb1
              refine h_start H224 [restC w (fun _ => False), cellC b6 25 ([(.int .i64 (F)), (.int .i64 (1))] : List Value), cellC k31 92 (([(.int .i64 (D2.f)), (.int .i64 (D2.c)), (.int .i64 (D2.epoch)), (.int .i64 (D2.replica)), (.int .i64 (D2.s.round)), (.int .i64 (D2.s.step)), (.int .i64 (D2.s.lr)), (.int .i64 (D2.s.vr))] : List Value) ++ hc D2.s.locked ++ hc D2.s.valid ++ ([(.bool (D2.s.decided))] : List Value) ++ hc D2.s.decision ++ ([(.pointer (some ⟨t32, 0, none⟩)), (.map (some pb37)), (.bool (D2.wv)), (.bool (D2.sp)), (.bool (D2.sc))] : List Value)), talC t32 hb33 cb34 ab35 lb36 D2.f D2.c D2.L, mapC pb37 (Value.int .i64) propV D2.P, rowC 45 35 (.slice a2 ((onP (startD D0).2 k) ++ A2).length q2) (((onP (startD D0).2 k) ++ A2).length) (((onP (startD D0).2 k) ++ A2).flatMap encA), cellC b81 57 (([(.int .i64 (x75.doo)), (.int .i64 (x75.kind)), (.int .i64 (x75.round)), (.int .i64 (x75.valid)), (.int .i64 (x75.replica))] : List Value) ++ hc x75.h ++ ([(.bool (x75.ok)), (.bool (x75.raw))] : List Value)), cellC b219 45 (([(.int .i64 (x216.kind)), (.int .i64 (x216.round)), (.int .i64 (x216.valid))] : List Value) ++ hc x216.h)] 11 rfl (by kernel_rfl) (fun Hx => (Hx.pick [0, 1, 2, 3, 4, 6, 7, 8] (by decide))) ?_
              intro w229 H230 S231
              refine h_val 0 rfl (by kernel_rfl) (by kernel_rfl) (by kernel_rfl) (fun _ _ _ h => h) S231 (wants0 rfl) (d := 126) (v := (.map (some b41))) rfl (fun _ H' => (by kernel_rfl)) ?_
              refine h_val 1 rfl (by kernel_rfl) (by kernel_rfl) (by kernel_rfl) (fun _ _ _ h => h) S231 (wants0 rfl) (d := 127) (v := (.pointer (some ⟨b219, 0, none⟩))) rfl (fun _ H' => (by kernel_rfl)) ?_
              refine h_val 2 rfl (by kernel_rfl) (by kernel_rfl) (by kernel_rfl) (fun _ _ _ h => h) S231 (wants0 rfl) (d := 128) (v := (.int .i64 (x216.kind))) rfl (fun _ H' => (e_load1 rfl (by kernel_rfl) (H'.cell 7 rfl (by kernel_rfl)))) ?_
              refine h_val 3 rfl (by kernel_rfl) (by kernel_rfl) (by kernel_rfl) (fun _ _ _ h => h) S231 (wants0 rfl) (d := 129) (v := (.pointer (some ⟨b219, 1, none⟩))) rfl (fun _ H' => (by kernel_rfl)) ?_
              refine h_val 4 rfl (by kernel_rfl) (by kernel_rfl) (by kernel_rfl) (fun _ _ _ h => h) S231 (wants0 rfl) (d := 130) (v := (.int .i64 (x216.round))) rfl (fun _ H' => (e_load1 rfl (by kernel_rfl) (H'.cell 7 rfl (by kernel_rfl)))) ?_
              refine h_val 5 rfl (by kernel_rfl) (by kernel_rfl) (by kernel_rfl) (fun _ _ _ h => h) S231 (wants0 rfl) (d := 131) (v := (.agg ⟨([(.int .i64 (x216.kind)), (.int .i64 (x216.round))] : List Value)⟩)) rfl (fun _ H' => (by kernel_rfl)) ?_
              refine h_do2 6 8 rfl rfl (by kernel_rfl) (wants0 rfl) (wants0 rfl) (fun K232 hK232 => ?_) (fun K232 hK232 => ?_)
              · refine d_pure (d := 132) (v := (.int .i64 ((lookM (bumps ((onE (3 * F + 1) ls (startD D0).1 (startD D0).2 k) ++ ((onP (startD D0).2 k) ++ A2).take i)) (⟨x216.kind, x216.round⟩ : Turn)).getD 0))) rfl (e_lookup (kt := 66) (et := 3) arr2K (by kernel_rfl) (fun w => by kernel_rfl) rfl (⟨x216.kind, x216.round⟩ : Turn) rfl (H230.at 5 rfl) (optD (Value.int .i64) _ _)) ?_
                have S233 := H230.pick [0, 1, 2, 3, 4, 6, 7, 8] (by decide)
                refine hK232 _ _ S233 ?_
                clear hK232 K232
                refine h_val 7 rfl (by kernel_rfl) (by kernel_rfl) (by kernel_rfl) (fun _ _ _ h => h) S233 (wants0 rfl) (d := 133) (v := (.int .i64 (((lookM (bumps ((onE (3 * F + 1) ls (startD D0).1 (startD D0).2 k) ++ ((onP (startD D0).2 k) ++ A2).take i)) (⟨x216.kind, x216.round⟩ : Turn)).getD 0) + 1))) rfl (fun _ H' => (e_int (z := ((lookM (bumps ((onE (3 * F + 1) ls (startD D0).1 (startD D0).2 k) ++ ((onP (startD D0).2 k) ++ A2).take i)) (⟨x216.kind, x216.round⟩ : Turn)).getD 0) + 1) (by kernel_rfl) (IntWalk.i64_in _ (by omega)))) ?_
                refine h_do 8 rfl (by kernel_rfl) (wants0 rfl) (fun K234 hK234 => ?_)
                refine d_mapEntry (kt := 66) (et := 3) rfl H230 5 rfl arr2K (by kernel_rfl) (0 : Int) (fun w => by kernel_rfl) rfl (⟨x216.kind, x216.round⟩ : Turn) rfl ?_
                intro v235 t236 w237 (H238 : Sat w [restC w (fun _ => False), cellC b6 25 ([(.int .i64 (F)), (.int .i64 (1))] : List Value), cellC k31 92 (([(.int .i64 (D2.f)), (.int .i64 (D2.c)), (.int .i64 (D2.epoch)), (.int .i64 (D2.replica)), (.int .i64 (D2.s.round)), (.int .i64 (D2.s.step)), (.int .i64 (D2.s.lr)), (.int .i64 (D2.s.vr))] : List Value) ++ hc D2.s.locked ++ hc D2.s.valid ++ ([(.bool (D2.s.decided))] : List Value) ++ hc D2.s.decision ++ ([(.pointer (some ⟨t32, 0, none⟩)), (.map (some pb37)), (.bool (D2.wv)), (.bool (D2.sp)), (.bool (D2.sc))] : List Value)), talC t32 hb33 cb34 ab35 lb36 D2.f D2.c D2.L, mapC pb37 (Value.int .i64) propV D2.P, entryC b41 turnV (Value.int .i64) (bumps ((onE (3 * F + 1) ls (startD D0).1 (startD D0).2 k) ++ ((onP (startD D0).2 k) ++ A2).take i)) (⟨x216.kind, x216.round⟩ : Turn) ((lookM (bumps ((onE (3 * F + 1) ls (startD D0).1 (startD D0).2 k) ++ ((onP (startD D0).2 k) ++ A2).take i)) (⟨x216.kind, x216.round⟩ : Turn)).getD (0 : Int)) t236, rowC 45 35 (.slice a2 ((onP (startD D0).2 k) ++ A2).length q2) (((onP (startD D0).2 k) ++ A2).length) (((onP (startD D0).2 k) ++ A2).flatMap encA), cellC b81 57 (([(.int .i64 (x75.doo)), (.int .i64 (x75.kind)), (.int .i64 (x75.round)), (.int .i64 (x75.valid)), (.int .i64 (x75.replica))] : List Value) ++ hc x75.h ++ ([(.bool (x75.ok)), (.bool (x75.raw))] : List Value)), cellC b219 45 (([(.int .i64 (x216.kind)), (.int .i64 (x216.round)), (.int .i64 (x216.valid))] : List Value) ++ hc x216.h)] w237)
                have S239 := H238.pick [0, 1, 2, 3, 4, 6, 7, 8] (by decide)
                refine hK234 _ _ S239 ?_
                clear hK234 K234
                refine h_val 9 rfl (by kernel_rfl) (by kernel_rfl) (by kernel_rfl) (fun _ _ _ h => h) S239 (wants0 rfl) (d := 135) (v := (.int .i64 (t236))) rfl (fun _ H' => (by kernel_rfl)) ?_
                refine h_do 10 rfl (by kernel_rfl) (wants0 rfl) (fun K240 hK240 => ?_)
                refine d_entryStore rfl H238 5 rfl rfl rfl (((lookM (bumps ((onE (3 * F + 1) ls (startD D0).1 (startD D0).2 k) ++ ((onP (startD D0).2 k) ++ A2).take i)) (⟨x216.kind, x216.round⟩ : Turn)).getD 0) + 1) rfl ?_
                intro w241 (H242 : Sat w [restC w (fun _ => False), cellC b6 25 ([(.int .i64 (F)), (.int .i64 (1))] : List Value), cellC k31 92 (([(.int .i64 (D2.f)), (.int .i64 (D2.c)), (.int .i64 (D2.epoch)), (.int .i64 (D2.replica)), (.int .i64 (D2.s.round)), (.int .i64 (D2.s.step)), (.int .i64 (D2.s.lr)), (.int .i64 (D2.s.vr))] : List Value) ++ hc D2.s.locked ++ hc D2.s.valid ++ ([(.bool (D2.s.decided))] : List Value) ++ hc D2.s.decision ++ ([(.pointer (some ⟨t32, 0, none⟩)), (.map (some pb37)), (.bool (D2.wv)), (.bool (D2.sp)), (.bool (D2.sc))] : List Value)), talC t32 hb33 cb34 ab35 lb36 D2.f D2.c D2.L, mapC pb37 (Value.int .i64) propV D2.P, mapC b41 turnV (Value.int .i64) (putM (bumps ((onE (3 * F + 1) ls (startD D0).1 (startD D0).2 k) ++ ((onP (startD D0).2 k) ++ A2).take i)) (⟨x216.kind, x216.round⟩ : Turn) (((lookM (bumps ((onE (3 * F + 1) ls (startD D0).1 (startD D0).2 k) ++ ((onP (startD D0).2 k) ++ A2).take i)) (⟨x216.kind, x216.round⟩ : Turn)).getD 0) + 1)), rowC 45 35 (.slice a2 ((onP (startD D0).2 k) ++ A2).length q2) (((onP (startD D0).2 k) ++ A2).length) (((onP (startD D0).2 k) ++ A2).flatMap encA), cellC b81 57 (([(.int .i64 (x75.doo)), (.int .i64 (x75.kind)), (.int .i64 (x75.round)), (.int .i64 (x75.valid)), (.int .i64 (x75.replica))] : List Value) ++ hc x75.h ++ ([(.bool (x75.ok)), (.bool (x75.raw))] : List Value)), cellC b219 45 (([(.int .i64 (x216.kind)), (.int .i64 (x216.round)), (.int .i64 (x216.valid))] : List Value) ++ hc x216.h)] w241)
                have S243 := H242.pick [0, 1, 2, 3, 4, 6, 7, 8] (by decide)
                refine hK240 _ _ S243 ?_
                clear hK240 K240
                refine h_fin (by kernel_rfl) ?_
                refine then_normal ?_
                refine w_seq ?_
                refine w_lit ?_
                refine wl_pure (wants0 rfl) (d := 136) (v := (.map (some b41))) rfl (by kernel_rfl) ?_
                refine wl_pure (wants0 rfl) (d := 137) (v := (.pointer (some ⟨b219, 0, none⟩))) rfl (by kernel_rfl) ?_
                refine wl_pure (wants0 rfl) (d := 138) (v := (.int .i64 (x216.kind))) rfl (e_load1 rfl (by kernel_rfl) (H242.cell 8 rfl (by kernel_rfl))) ?_
                refine wl_pure (wants0 rfl) (d := 139) (v := (.pointer (some ⟨b219, 1, none⟩))) rfl (by kernel_rfl) ?_
                refine wl_pure (wants0 rfl) (d := 140) (v := (.int .i64 (x216.round))) rfl (e_load1 rfl (by kernel_rfl) (H242.cell 8 rfl (by kernel_rfl))) ?_
                refine wl_pure (wants0 rfl) (d := 141) (v := (.agg ⟨([(.int .i64 (x216.kind)), (.int .i64 (x216.round))] : List Value)⟩)) rfl (by kernel_rfl) ?_
                refine wl_pure (wants0 rfl) (d := 142) (v := (.int .i64 ((lookM (putM (bumps ((onE (3 * F + 1) ls (startD D0).1 (startD D0).2 k) ++ ((onP (startD D0).2 k) ++ A2).take i)) (⟨x216.kind, x216.round⟩ : Turn) (((lookM (bumps ((onE (3 * F + 1) ls (startD D0).1 (startD D0).2 k) ++ ((onP (startD D0).2 k) ++ A2).take i)) (⟨x216.kind, x216.round⟩ : Turn)).getD 0) + 1)) (⟨x216.kind, x216.round⟩ : Turn)).getD 0))) rfl (e_lookup (kt := 66) (et := 3) arr2K (by kernel_rfl) (fun w => by kernel_rfl) rfl (⟨x216.kind, x216.round⟩ : Turn) rfl (H242.at 5 rfl) (optD (Value.int .i64) _ _)) ?_
                refine wl_pure (wants0 rfl) (d := 143) (v := (.bool (decide (((lookM (putM (bumps ((onE (3 * F + 1) ls (startD D0).1 (startD D0).2 k) ++ ((onP (startD D0).2 k) ++ A2).take i)) (⟨x216.kind, x216.round⟩ : Turn) (((lookM (bumps ((onE (3 * F + 1) ls (startD D0).1 (startD D0).2 k) ++ ((onP (startD D0).2 k) ++ A2).take i)) (⟨x216.kind, x216.round⟩ : Turn)).getD 0) + 1)) (⟨x216.kind, x216.round⟩ : Turn)).getD 0) > 1)))) rfl (by kernel_rfl) ?_
                refine wl_pure (wants0 rfl) (d := 144) (v := (.bool (decide (((lookM (putM (bumps ((onE (3 * F + 1) ls (startD D0).1 (startD D0).2 k) ++ ((onP (startD D0).2 k) ++ A2).take i)) (⟨x216.kind, x216.round⟩ : Turn) (((lookM (bumps ((onE (3 * F + 1) ls (startD D0).1 (startD D0).2 k) ++ ((onP (startD D0).2 k) ++ A2).take i)) (⟨x216.kind, x216.round⟩ : Turn)).getD 0) + 1)) (⟨x216.kind, x216.round⟩ : Turn)).getD 0) > 1)))) rfl (by kernel_rfl) ?_
                have b244 : (decide (((lookM (putM (bumps ((onE (3 * F + 1) ls (startD D0).1 (startD D0).2 k) ++ ((onP (startD D0).2 k) ++ A2).take i)) (⟨x216.kind, x216.round⟩ : Turn) (((lookM (bumps ((onE (3 * F + 1) ls (startD D0).1 (startD D0).2 k) ++ ((onP (startD D0).2 k) ++ A2).take i)) (⟨x216.kind, x216.round⟩ : Turn)).getD 0) + 1)) (⟨x216.kind, x216.round⟩ : Turn)).getD 0) > 1)) = false := by (exact decide_eq_false (by omega))
                refine wl_know 144 (.bool false) (congrArg Value.bool b244) ?_
                refine wl_pure (wantsY 8 144 false rfl (by kernel_rfl) rfl (by kernel_rfl)) (d := 145) (v := (.pointer (some ⟨b219, 1, none⟩))) rfl (by kernel_rfl) ?_
                refine wl_pure (wantsY 8 144 false rfl (by kernel_rfl) rfl (by kernel_rfl)) (d := 146) (v := (.int .i64 (x216.round))) rfl (e_load1 rfl (by kernel_rfl) (H242.cell 8 rfl (by kernel_rfl))) ?_
                refine wl_pure (wantsY 8 144 false rfl (by kernel_rfl) rfl (by kernel_rfl)) (d := 147) (v := (.int .i64 (onR (3 * F + 1) ls (startD D0).1 k))) rfl (by kernel_rfl) ?_
                refine wl_pure (wantsY 8 144 false rfl (by kernel_rfl) rfl (by kernel_rfl)) (d := 148) (v := (.bool (decide (x216.round < (onR (3 * F + 1) ls (startD D0).1 k))))) rfl (by kernel_rfl) ?_
                refine wl_pure (wants0 rfl) (d := 149) (v := (.bool (decide (x216.round < (onR (3 * F + 1) ls (startD D0).1 k))))) rfl (by kernel_rfl) ?_
                refine w_nil ?_
                refine then_normal ?_
                have b245 : (decide (x216.round < (onR (3 * F + 1) ls (startD D0).1 k))) = false := by (exact decide_eq_false (by have := hO.rds _ (List.mem_of_getElem? h217) (by intro q5; first | (have q2 := (by assumption : (decide (x216.kind = 1)) = true); rw [q5] at q2; cases q2) | (unfold voteK at hv; omega)); omega))
                refine wp_know 149 (.bool false) (congrArg Value.bool b245) ?_
                have g246 := of_decide_eq_false b245
                refine wp_iff rfl ?_
                refine w_skip ?_
                refine blk_normal ?_
                refine blk_normal ?_
                refine then_normal ?_
                refine w_lit ?_
                refine wl_pure (wants0 rfl) (d := 166) (v := (.int .i64 ((i : Int) + 1))) rfl (e_int (z := (i : Int) + 1) (by kernel_rfl) (IntWalk.i64_in _ (by omega))) ?_
                refine wl_pure (wants0 rfl) (d := 117) (v := (.int .i64 ((i : Int) + 1))) rfl (by kernel_rfl) ?_
                refine w_nil ?_
                have H247 : Sat w [restC w (fun _ => False), cellC b6 25 ([(.int .i64 (F)), (.int .i64 (1))] : List Value), cellC k31 92 (([(.int .i64 (D2.f)), (.int .i64 (D2.c)), (.int .i64 (D2.epoch)), (.int .i64 (D2.replica)), (.int .i64 (D2.s.round)), (.int .i64 (D2.s.step)), (.int .i64 (D2.s.lr)), (.int .i64 (D2.s.vr))] : List Value) ++ hc D2.s.locked ++ hc D2.s.valid ++ ([(.bool (D2.s.decided))] : List Value) ++ hc D2.s.decision ++ ([(.pointer (some ⟨t32, 0, none⟩)), (.map (some pb37)), (.bool (D2.wv)), (.bool (D2.sp)), (.bool (D2.sc))] : List Value)), talC t32 hb33 cb34 ab35 lb36 D2.f D2.c D2.L, mapC pb37 (Value.int .i64) propV D2.P, mapC b41 turnV (Value.int .i64) (bumps ((onE (3 * F + 1) ls (startD D0).1 (startD D0).2 k) ++ ((onP (startD D0).2 k) ++ A2).take (i + 1))), rowC 45 35 (.slice a2 ((onP (startD D0).2 k) ++ A2).length q2) (((onP (startD D0).2 k) ++ A2).length) (((onP (startD D0).2 k) ++ A2).flatMap encA), cellC b81 57 (([(.int .i64 (x75.doo)), (.int .i64 (x75.kind)), (.int .i64 (x75.round)), (.int .i64 (x75.valid)), (.int .i64 (x75.replica))] : List Value) ++ hc x75.h ++ ([(.bool (x75.ok)), (.bool (x75.raw))] : List Value))] w241 := (H242.pick [0, 1, 2, 3, 4, 5, 6, 7] (by decide)).cast (by rw [hbm]; rfl)
                refine round_back ?_ _ ⟨(i + 1), (show ((.int .i64 ((i : Int) + 1)) : Value) = _ by first | rfl | go_num), (by omega), H247, rfl⟩ (by omega)
                exact (same_upd rfl (same_upd rfl (same_upd rfl (same_upd rfl (same_upd rfl (same_upd rfl (same_upd rfl (same_upd rfl (same_upd rfl (same_upd rfl (same_upd rfl (same_upd rfl (same_upd rfl (same_upd rfl (same_upd rfl (same_upd rfl (same_upd rfl (same_upd rfl (same_upd rfl (same_upd rfl (same_upd rfl (same_upd rfl (same_upd rfl (same_upd rfl (same_upd rfl (same_upd rfl (same_upd rfl (same_upd rfl (same_upd rfl (same_upd rfl (same_upd rfl (same_upd rfl (same_upd rfl (same_upd rfl (same_upd rfl (same_upd rfl (same_upd rfl (same_upd rfl (same_upd rfl (same_ovr))))))))))))))))))))))))))))))))))))))))
              · refine d_mapEntry (kt := 66) (et := 3) rfl H230 5 rfl arr2K (by kernel_rfl) (0 : Int) (fun w => by kernel_rfl) rfl (⟨x216.kind, x216.round⟩ : Turn) rfl ?_
                intro v248 t249 w250 (H251 : Sat w [restC w (fun _ => False), cellC b6 25 ([(.int .i64 (F)), (.int .i64 (1))] : List Value), cellC k31 92 (([(.int .i64 (D2.f)), (.int .i64 (D2.c)), (.int .i64 (D2.epoch)), (.int .i64 (D2.replica)), (.int .i64 (D2.s.round)), (.int .i64 (D2.s.step)), (.int .i64 (D2.s.lr)), (.int .i64 (D2.s.vr))] : List Value) ++ hc D2.s.locked ++ hc D2.s.valid ++ ([(.bool (D2.s.decided))] : List Value) ++ hc D2.s.decision ++ ([(.pointer (some ⟨t32, 0, none⟩)), (.map (some pb37)), (.bool (D2.wv)), (.bool (D2.sp)), (.bool (D2.sc))] : List Value)), talC t32 hb33 cb34 ab35 lb36 D2.f D2.c D2.L, mapC pb37 (Value.int .i64) propV D2.P, entryC b41 turnV (Value.int .i64) (bumps ((onE (3 * F + 1) ls (startD D0).1 (startD D0).2 k) ++ ((onP (startD D0).2 k) ++ A2).take i)) (⟨x216.kind, x216.round⟩ : Turn) ((lookM (bumps ((onE (3 * F + 1) ls (startD D0).1 (startD D0).2 k) ++ ((onP (startD D0).2 k) ++ A2).take i)) (⟨x216.kind, x216.round⟩ : Turn)).getD (0 : Int)) t249, rowC 45 35 (.slice a2 ((onP (startD D0).2 k) ++ A2).length q2) (((onP (startD D0).2 k) ++ A2).length) (((onP (startD D0).2 k) ++ A2).flatMap encA), cellC b81 57 (([(.int .i64 (x75.doo)), (.int .i64 (x75.kind)), (.int .i64 (x75.round)), (.int .i64 (x75.valid)), (.int .i64 (x75.replica))] : List Value) ++ hc x75.h ++ ([(.bool (x75.ok)), (.bool (x75.raw))] : List Value)), cellC b219 45 (([(.int .i64 (x216.kind)), (.int .i64 (x216.round)), (.int .i64 (x216.valid))] : List Value) ++ hc x216.h)] w250)
                have S252 := H251.pick [0, 1, 2, 3, 4, 6, 7, 8] (by decide)
                refine hK232 _ _ S252 ?_
                clear hK232 K232
                refine h_val 9 rfl (by kernel_rfl) (by kernel_rfl) (by kernel_rfl) (fun _ _ _ h => h) S252 (wants0 rfl) (d := 135) (v := (.int .i64 (t249))) rfl (fun _ H' => (by kernel_rfl)) ?_
                refine h_do 6 rfl (by kernel_rfl) (wants0 rfl) (fun K253 hK253 => ?_)
                refine d_pure (d := 132) (v := (.int .i64 ((lookM (bumps ((onE (3 * F + 1) ls (startD D0).1 (startD D0).2 k) ++ ((onP (startD D0).2 k) ++ A2).take i)) (⟨x216.kind, x216.round⟩ : Turn)).getD 0))) rfl (e_lookup (kt := 66) (et := 3) arr2K (by kernel_rfl) (fun w => by kernel_rfl) rfl (⟨x216.kind, x216.round⟩ : Turn) rfl (EntryAt.map (H251.at 5 rfl)) (look_put_same' (z := (Value.int .i64) (0 : Int)) _ _ _)) ?_
                have S254 := H251.pick [0, 1, 2, 3, 4, 6, 7, 8] (by decide)
                refine hK253 _ _ S254 ?_
                clear hK253 K253
                refine h_val 7 rfl (by kernel_rfl) (by kernel_rfl) (by kernel_rfl) (fun _ _ _ h => h) S254 (wants0 rfl) (d := 133) (v := (.int .i64 (((lookM (bumps ((onE (3 * F + 1) ls (startD D0).1 (startD D0).2 k) ++ ((onP (startD D0).2 k) ++ A2).take i)) (⟨x216.kind, x216.round⟩ : Turn)).getD 0) + 1))) rfl (fun _ H' => (e_int (z := ((lookM (bumps ((onE (3 * F + 1) ls (startD D0).1 (startD D0).2 k) ++ ((onP (startD D0).2 k) ++ A2).take i)) (⟨x216.kind, x216.round⟩ : Turn)).getD 0) + 1) (by kernel_rfl) (IntWalk.i64_in _ (by omega)))) ?_
                refine h_do 10 rfl (by kernel_rfl) (wants0 rfl) (fun K255 hK255 => ?_)
                refine d_entryStore rfl H251 5 rfl rfl rfl (((lookM (bumps ((onE (3 * F + 1) ls (startD D0).1 (startD D0).2 k) ++ ((onP (startD D0).2 k) ++ A2).take i)) (⟨x216.kind, x216.round⟩ : Turn)).getD 0) + 1) rfl ?_
                intro w256 (H257 : Sat w [restC w (fun _ => False), cellC b6 25 ([(.int .i64 (F)), (.int .i64 (1))] : List Value), cellC k31 92 (([(.int .i64 (D2.f)), (.int .i64 (D2.c)), (.int .i64 (D2.epoch)), (.int .i64 (D2.replica)), (.int .i64 (D2.s.round)), (.int .i64 (D2.s.step)), (.int .i64 (D2.s.lr)), (.int .i64 (D2.s.vr))] : List Value) ++ hc D2.s.locked ++ hc D2.s.valid ++ ([(.bool (D2.s.decided))] : List Value) ++ hc D2.s.decision ++ ([(.pointer (some ⟨t32, 0, none⟩)), (.map (some pb37)), (.bool (D2.wv)), (.bool (D2.sp)), (.bool (D2.sc))] : List Value)), talC t32 hb33 cb34 ab35 lb36 D2.f D2.c D2.L, mapC pb37 (Value.int .i64) propV D2.P, mapC b41 turnV (Value.int .i64) (putM (bumps ((onE (3 * F + 1) ls (startD D0).1 (startD D0).2 k) ++ ((onP (startD D0).2 k) ++ A2).take i)) (⟨x216.kind, x216.round⟩ : Turn) (((lookM (bumps ((onE (3 * F + 1) ls (startD D0).1 (startD D0).2 k) ++ ((onP (startD D0).2 k) ++ A2).take i)) (⟨x216.kind, x216.round⟩ : Turn)).getD 0) + 1)), rowC 45 35 (.slice a2 ((onP (startD D0).2 k) ++ A2).length q2) (((onP (startD D0).2 k) ++ A2).length) (((onP (startD D0).2 k) ++ A2).flatMap encA), cellC b81 57 (([(.int .i64 (x75.doo)), (.int .i64 (x75.kind)), (.int .i64 (x75.round)), (.int .i64 (x75.valid)), (.int .i64 (x75.replica))] : List Value) ++ hc x75.h ++ ([(.bool (x75.ok)), (.bool (x75.raw))] : List Value)), cellC b219 45 (([(.int .i64 (x216.kind)), (.int .i64 (x216.round)), (.int .i64 (x216.valid))] : List Value) ++ hc x216.h)] w256)
                have S258 := H257.pick [0, 1, 2, 3, 4, 6, 7, 8] (by decide)
                refine hK255 _ _ S258 ?_
                clear hK255 K255
                refine h_fin (by kernel_rfl) ?_
                refine then_normal ?_
                refine w_seq ?_
                refine w_lit ?_
                refine wl_pure (wants0 rfl) (d := 136) (v := (.map (some b41))) rfl (by kernel_rfl) ?_
                refine wl_pure (wants0 rfl) (d := 137) (v := (.pointer (some ⟨b219, 0, none⟩))) rfl (by kernel_rfl) ?_
                refine wl_pure (wants0 rfl) (d := 138) (v := (.int .i64 (x216.kind))) rfl (e_load1 rfl (by kernel_rfl) (H257.cell 8 rfl (by kernel_rfl))) ?_
                refine wl_pure (wants0 rfl) (d := 139) (v := (.pointer (some ⟨b219, 1, none⟩))) rfl (by kernel_rfl) ?_
                refine wl_pure (wants0 rfl) (d := 140) (v := (.int .i64 (x216.round))) rfl (e_load1 rfl (by kernel_rfl) (H257.cell 8 rfl (by kernel_rfl))) ?_
                refine wl_pure (wants0 rfl) (d := 141) (v := (.agg ⟨([(.int .i64 (x216.kind)), (.int .i64 (x216.round))] : List Value)⟩)) rfl (by kernel_rfl) ?_
                refine wl_pure (wants0 rfl) (d := 142) (v := (.int .i64 ((lookM (putM (bumps ((onE (3 * F + 1) ls (startD D0).1 (startD D0).2 k) ++ ((onP (startD D0).2 k) ++ A2).take i)) (⟨x216.kind, x216.round⟩ : Turn) (((lookM (bumps ((onE (3 * F + 1) ls (startD D0).1 (startD D0).2 k) ++ ((onP (startD D0).2 k) ++ A2).take i)) (⟨x216.kind, x216.round⟩ : Turn)).getD 0) + 1)) (⟨x216.kind, x216.round⟩ : Turn)).getD 0))) rfl (e_lookup (kt := 66) (et := 3) arr2K (by kernel_rfl) (fun w => by kernel_rfl) rfl (⟨x216.kind, x216.round⟩ : Turn) rfl (H257.at 5 rfl) (optD (Value.int .i64) _ _)) ?_
                refine wl_pure (wants0 rfl) (d := 143) (v := (.bool (decide (((lookM (putM (bumps ((onE (3 * F + 1) ls (startD D0).1 (startD D0).2 k) ++ ((onP (startD D0).2 k) ++ A2).take i)) (⟨x216.kind, x216.round⟩ : Turn) (((lookM (bumps ((onE (3 * F + 1) ls (startD D0).1 (startD D0).2 k) ++ ((onP (startD D0).2 k) ++ A2).take i)) (⟨x216.kind, x216.round⟩ : Turn)).getD 0) + 1)) (⟨x216.kind, x216.round⟩ : Turn)).getD 0) > 1)))) rfl (by kernel_rfl) ?_
                refine wl_pure (wants0 rfl) (d := 144) (v := (.bool (decide (((lookM (putM (bumps ((onE (3 * F + 1) ls (startD D0).1 (startD D0).2 k) ++ ((onP (startD D0).2 k) ++ A2).take i)) (⟨x216.kind, x216.round⟩ : Turn) (((lookM (bumps ((onE (3 * F + 1) ls (startD D0).1 (startD D0).2 k) ++ ((onP (startD D0).2 k) ++ A2).take i)) (⟨x216.kind, x216.round⟩ : Turn)).getD 0) + 1)) (⟨x216.kind, x216.round⟩ : Turn)).getD 0) > 1)))) rfl (by kernel_rfl) ?_
                have b259 : (decide (((lookM (putM (bumps ((onE (3 * F + 1) ls (startD D0).1 (startD D0).2 k) ++ ((onP (startD D0).2 k) ++ A2).take i)) (⟨x216.kind, x216.round⟩ : Turn) (((lookM (bumps ((onE (3 * F + 1) ls (startD D0).1 (startD D0).2 k) ++ ((onP (startD D0).2 k) ++ A2).take i)) (⟨x216.kind, x216.round⟩ : Turn)).getD 0) + 1)) (⟨x216.kind, x216.round⟩ : Turn)).getD 0) > 1)) = false := by (exact decide_eq_false (by omega))
                refine wl_know 144 (.bool false) (congrArg Value.bool b259) ?_
                refine wl_pure (wantsY 8 144 false rfl (by kernel_rfl) rfl (by kernel_rfl)) (d := 145) (v := (.pointer (some ⟨b219, 1, none⟩))) rfl (by kernel_rfl) ?_
                refine wl_pure (wantsY 8 144 false rfl (by kernel_rfl) rfl (by kernel_rfl)) (d := 146) (v := (.int .i64 (x216.round))) rfl (e_load1 rfl (by kernel_rfl) (H257.cell 8 rfl (by kernel_rfl))) ?_
                refine wl_pure (wantsY 8 144 false rfl (by kernel_rfl) rfl (by kernel_rfl)) (d := 147) (v := (.int .i64 (onR (3 * F + 1) ls (startD D0).1 k))) rfl (by kernel_rfl) ?_
                refine wl_pure (wantsY 8 144 false rfl (by kernel_rfl) rfl (by kernel_rfl)) (d := 148) (v := (.bool (decide (x216.round < (onR (3 * F + 1) ls (startD D0).1 k))))) rfl (by kernel_rfl) ?_
                refine wl_pure (wants0 rfl) (d := 149) (v := (.bool (decide (x216.round < (onR (3 * F + 1) ls (startD D0).1 k))))) rfl (by kernel_rfl) ?_
                refine w_nil ?_
                refine then_normal ?_
                have b260 : (decide (x216.round < (onR (3 * F + 1) ls (startD D0).1 k))) = false := by (exact decide_eq_false (by have := hO.rds _ (List.mem_of_getElem? h217) (by intro q5; first | (have q2 := (by assumption : (decide (x216.kind = 1)) = true); rw [q5] at q2; cases q2) | (unfold voteK at hv; omega)); omega))
                refine wp_know 149 (.bool false) (congrArg Value.bool b260) ?_
                have g261 := of_decide_eq_false b260
                refine wp_iff rfl ?_
                refine w_skip ?_
                refine blk_normal ?_
                refine blk_normal ?_
                refine then_normal ?_
                refine w_lit ?_
                refine wl_pure (wants0 rfl) (d := 166) (v := (.int .i64 ((i : Int) + 1))) rfl (e_int (z := (i : Int) + 1) (by kernel_rfl) (IntWalk.i64_in _ (by omega))) ?_
                refine wl_pure (wants0 rfl) (d := 117) (v := (.int .i64 ((i : Int) + 1))) rfl (by kernel_rfl) ?_
                refine w_nil ?_
                have H262 : Sat w [restC w (fun _ => False), cellC b6 25 ([(.int .i64 (F)), (.int .i64 (1))] : List Value), cellC k31 92 (([(.int .i64 (D2.f)), (.int .i64 (D2.c)), (.int .i64 (D2.epoch)), (.int .i64 (D2.replica)), (.int .i64 (D2.s.round)), (.int .i64 (D2.s.step)), (.int .i64 (D2.s.lr)), (.int .i64 (D2.s.vr))] : List Value) ++ hc D2.s.locked ++ hc D2.s.valid ++ ([(.bool (D2.s.decided))] : List Value) ++ hc D2.s.decision ++ ([(.pointer (some ⟨t32, 0, none⟩)), (.map (some pb37)), (.bool (D2.wv)), (.bool (D2.sp)), (.bool (D2.sc))] : List Value)), talC t32 hb33 cb34 ab35 lb36 D2.f D2.c D2.L, mapC pb37 (Value.int .i64) propV D2.P, mapC b41 turnV (Value.int .i64) (bumps ((onE (3 * F + 1) ls (startD D0).1 (startD D0).2 k) ++ ((onP (startD D0).2 k) ++ A2).take (i + 1))), rowC 45 35 (.slice a2 ((onP (startD D0).2 k) ++ A2).length q2) (((onP (startD D0).2 k) ++ A2).length) (((onP (startD D0).2 k) ++ A2).flatMap encA), cellC b81 57 (([(.int .i64 (x75.doo)), (.int .i64 (x75.kind)), (.int .i64 (x75.round)), (.int .i64 (x75.valid)), (.int .i64 (x75.replica))] : List Value) ++ hc x75.h ++ ([(.bool (x75.ok)), (.bool (x75.raw))] : List Value))] w256 := (H257.pick [0, 1, 2, 3, 4, 5, 6, 7] (by decide)).cast (by rw [hbm]; rfl)
                refine round_back ?_ _ ⟨(i + 1), (show ((.int .i64 ((i : Int) + 1)) : Value) = _ by first | rfl | go_num), (by omega), H262, rfl⟩ (by omega)
                exact (same_upd rfl (same_upd rfl (same_upd rfl (same_upd rfl (same_upd rfl (same_upd rfl (same_upd rfl (same_upd rfl (same_upd rfl (same_upd rfl (same_upd rfl (same_upd rfl (same_upd rfl (same_upd rfl (same_upd rfl (same_upd rfl (same_upd rfl (same_upd rfl (same_upd rfl (same_upd rfl (same_upd rfl (same_upd rfl (same_upd rfl (same_upd rfl (same_upd rfl (same_upd rfl (same_upd rfl (same_upd rfl (same_upd rfl (same_upd rfl (same_upd rfl (same_upd rfl (same_upd rfl (same_upd rfl (same_upd rfl (same_upd rfl (same_upd rfl (same_upd rfl (same_upd rfl (same_ovr))))))))))))))))))))))))))))))))))))))))
            · have g263 := of_decide_eq_false b226
              refine wp_know 123 (.bool false) (congrArg Value.bool b226) ?_
              have g264 := of_decide_eq_false b226
              refine wp_iff rfl ?_
              refine w_lit ?_
              refine wl_pure (wants0 rfl) (d := 125) (v := (.bool (decide (x216.kind = 3)))) rfl (by kernel_rfl) ?_
              refine wl_pure (wants0 rfl) (d := 123) (v := (.bool (decide (x216.kind = 3)))) rfl (by kernel_rfl) ?_
              refine w_nil ?_
              refine then_normal ?_
              refine (bsplit (decide (x216.kind = 3))).elim (fun b265 => ?_) (fun b265 => ?_)
              · have g266 := of_decide_eq_true b265
                refine wp_know 123 (.bool true) (congrArg Value.bool b265) ?_
                have g267 := of_decide_eq_true b265
                refine wp_ift rfl ?_
                refine w_seq ?_
                have hv : voteK x216.kind := .inr (of_decide_eq_true b265)
                have hbm : bumps ((onE (3 * F + 1) ls (startD D0).1 (startD D0).2 k) ++ ((onP (startD D0).2 k) ++ A2).take (i + 1)) = putM (bumps ((onE (3 * F + 1) ls (startD D0).1 (startD D0).2 k) ++ ((onP (startD D0).2 k) ++ A2).take i)) (⟨x216.kind, x216.round⟩ : Turn) ((lookM (bumps ((onE (3 * F + 1) ls (startD D0).1 (startD D0).2 k) ++ ((onP (startD D0).2 k) ++ A2).take i)) (⟨x216.kind, x216.round⟩ : Turn)).getD 0 + 1) := by rw [show ((onP (startD D0).2 k) ++ A2).take (i + 1) = ((onP (startD D0).2 k) ++ A2).take i ++ [x216] by rw [List.take_add_one, h217]; rfl, ← List.append_assoc, bumps_snoc]; unfold bumpM; rw [show (decide (x216.kind = 2) || decide (x216.kind = 3)) = true by rcases hv with q | q <;> rw [q] <;> rfl]; rfl
                have hb0 := bumps_look ((onE (3 * F + 1) ls (startD D0).1 (startD D0).2 k) ++ ((onP (startD D0).2 k) ++ A2).take i) (⟨x216.kind, x216.round⟩ : Turn) hv
                have hb1 := bumps_look ((onE (3 * F + 1) ls (startD D0).1 (startD D0).2 k) ++ ((onP (startD D0).2 k) ++ A2).take (i + 1)) (⟨x216.kind, x216.round⟩ : Turn) hv
                have hb2 := Nat.le_trans (cnt_take (onE (3 * F + 1) ls (startD D0).1 (startD D0).2 k) ((onP (startD D0).2 k) ++ A2) (i + 1) x216.kind x216.round) (hO.cnt _ _ hv)
                have hb3 := Nat.le_trans (cnt_take (onE (3 * F + 1) ls (startD D0).1 (startD D0).2 k) ((onP (startD D0).2 k) ++ A2) i x216.kind x216.round) (hO.cnt _ _ hv)
                rw [hbm] at hb1
                dsimp only at hb0 hb1
                refine h_start H224 [restC w (fun _ => False), cellC b6 25 ([(.int .i64 (F)), (.int .i64 (1))] : List Value), cellC k31 92 (([(.int .i64 (D2.f)), (.int .i64 (D2.c)), (.int .i64 (D2.epoch)), (.int .i64 (D2.replica)), (.int .i64 (D2.s.round)), (.int .i64 (D2.s.step)), (.int .i64 (D2.s.lr)), (.int .i64 (D2.s.vr))] : List Value) ++ hc D2.s.locked ++ hc D2.s.valid ++ ([(.bool (D2.s.decided))] : List Value) ++ hc D2.s.decision ++ ([(.pointer (some ⟨t32, 0, none⟩)), (.map (some pb37)), (.bool (D2.wv)), (.bool (D2.sp)), (.bool (D2.sc))] : List Value)), talC t32 hb33 cb34 ab35 lb36 D2.f D2.c D2.L, mapC pb37 (Value.int .i64) propV D2.P, rowC 45 35 (.slice a2 ((onP (startD D0).2 k) ++ A2).length q2) (((onP (startD D0).2 k) ++ A2).length) (((onP (startD D0).2 k) ++ A2).flatMap encA), cellC b81 57 (([(.int .i64 (x75.doo)), (.int .i64 (x75.kind)), (.int .i64 (x75.round)), (.int .i64 (x75.valid)), (.int .i64 (x75.replica))] : List Value) ++ hc x75.h ++ ([(.bool (x75.ok)), (.bool (x75.raw))] : List Value)), cellC b219 45 (([(.int .i64 (x216.kind)), (.int .i64 (x216.round)), (.int .i64 (x216.valid))] : List Value) ++ hc x216.h)] 11 rfl (by kernel_rfl) (fun Hx => (Hx.pick [0, 1, 2, 3, 4, 6, 7, 8] (by decide))) ?_
                intro w268 H269 S270
                refine h_val 0 rfl (by kernel_rfl) (by kernel_rfl) (by kernel_rfl) (fun _ _ _ h => h) S270 (wants0 rfl) (d := 126) (v := (.map (some b41))) rfl (fun _ H' => (by kernel_rfl)) ?_
                refine h_val 1 rfl (by kernel_rfl) (by kernel_rfl) (by kernel_rfl) (fun _ _ _ h => h) S270 (wants0 rfl) (d := 127) (v := (.pointer (some ⟨b219, 0, none⟩))) rfl (fun _ H' => (by kernel_rfl)) ?_
                refine h_val 2 rfl (by kernel_rfl) (by kernel_rfl) (by kernel_rfl) (fun _ _ _ h => h) S270 (wants0 rfl) (d := 128) (v := (.int .i64 (x216.kind))) rfl (fun _ H' => (e_load1 rfl (by kernel_rfl) (H'.cell 7 rfl (by kernel_rfl)))) ?_
                refine h_val 3 rfl (by kernel_rfl) (by kernel_rfl) (by kernel_rfl) (fun _ _ _ h => h) S270 (wants0 rfl) (d := 129) (v := (.pointer (some ⟨b219, 1, none⟩))) rfl (fun _ H' => (by kernel_rfl)) ?_
                refine h_val 4 rfl (by kernel_rfl) (by kernel_rfl) (by kernel_rfl) (fun _ _ _ h => h) S270 (wants0 rfl) (d := 130) (v := (.int .i64 (x216.round))) rfl (fun _ H' => (e_load1 rfl (by kernel_rfl) (H'.cell 7 rfl (by kernel_rfl)))) ?_
                refine h_val 5 rfl (by kernel_rfl) (by kernel_rfl) (by kernel_rfl) (fun _ _ _ h => h) S270 (wants0 rfl) (d := 131) (v := (.agg ⟨([(.int .i64 (x216.kind)), (.int .i64 (x216.round))] : List Value)⟩)) rfl (fun _ H' => (by kernel_rfl)) ?_
                refine h_do2 6 8 rfl rfl (by kernel_rfl) (wants0 rfl) (wants0 rfl) (fun K271 hK271 => ?_) (fun K271 hK271 => ?_)
                · refine d_pure (d := 132) (v := (.int .i64 ((lookM (bumps ((onE (3 * F + 1) ls (startD D0).1 (startD D0).2 k) ++ ((onP (startD D0).2 k) ++ A2).take i)) (⟨x216.kind, x216.round⟩ : Turn)).getD 0))) rfl (e_lookup (kt := 66) (et := 3) arr2K (by kernel_rfl) (fun w => by kernel_rfl) rfl (⟨x216.kind, x216.round⟩ : Turn) rfl (H269.at 5 rfl) (optD (Value.int .i64) _ _)) ?_
                  have S272 := H269.pick [0, 1, 2, 3, 4, 6, 7, 8] (by decide)
                  refine hK271 _ _ S272 ?_
                  clear hK271 K271
                  refine h_val 7 rfl (by kernel_rfl) (by kernel_rfl) (by kernel_rfl) (fun _ _ _ h => h) S272 (wants0 rfl) (d := 133) (v := (.int .i64 (((lookM (bumps ((onE (3 * F + 1) ls (startD D0).1 (startD D0).2 k) ++ ((onP (startD D0).2 k) ++ A2).take i)) (⟨x216.kind, x216.round⟩ : Turn)).getD 0) + 1))) rfl (fun _ H' => (e_int (z := ((lookM (bumps ((onE (3 * F + 1) ls (startD D0).1 (startD D0).2 k) ++ ((onP (startD D0).2 k) ++ A2).take i)) (⟨x216.kind, x216.round⟩ : Turn)).getD 0) + 1) (by kernel_rfl) (IntWalk.i64_in _ (by omega)))) ?_
                  refine h_do 8 rfl (by kernel_rfl) (wants0 rfl) (fun K273 hK273 => ?_)
                  refine d_mapEntry (kt := 66) (et := 3) rfl H269 5 rfl arr2K (by kernel_rfl) (0 : Int) (fun w => by kernel_rfl) rfl (⟨x216.kind, x216.round⟩ : Turn) rfl ?_
                  intro v274 t275 w276 (H277 : Sat w [restC w (fun _ => False), cellC b6 25 ([(.int .i64 (F)), (.int .i64 (1))] : List Value), cellC k31 92 (([(.int .i64 (D2.f)), (.int .i64 (D2.c)), (.int .i64 (D2.epoch)), (.int .i64 (D2.replica)), (.int .i64 (D2.s.round)), (.int .i64 (D2.s.step)), (.int .i64 (D2.s.lr)), (.int .i64 (D2.s.vr))] : List Value) ++ hc D2.s.locked ++ hc D2.s.valid ++ ([(.bool (D2.s.decided))] : List Value) ++ hc D2.s.decision ++ ([(.pointer (some ⟨t32, 0, none⟩)), (.map (some pb37)), (.bool (D2.wv)), (.bool (D2.sp)), (.bool (D2.sc))] : List Value)), talC t32 hb33 cb34 ab35 lb36 D2.f D2.c D2.L, mapC pb37 (Value.int .i64) propV D2.P, entryC b41 turnV (Value.int .i64) (bumps ((onE (3 * F + 1) ls (startD D0).1 (startD D0).2 k) ++ ((onP (startD D0).2 k) ++ A2).take i)) (⟨x216.kind, x216.round⟩ : Turn) ((lookM (bumps ((onE (3 * F + 1) ls (startD D0).1 (startD D0).2 k) ++ ((onP (startD D0).2 k) ++ A2).take i)) (⟨x216.kind, x216.round⟩ : Turn)).getD (0 : Int)) t275, rowC 45 35 (.slice a2 ((onP (startD D0).2 k) ++ A2).length q2) (((onP (startD D0).2 k) ++ A2).length) (((onP (startD D0).2 k) ++ A2).flatMap encA), cellC b81 57 (([(.int .i64 (x75.doo)), (.int .i64 (x75.kind)), (.int .i64 (x75.round)), (.int .i64 (x75.valid)), (.int .i64 (x75.replica))] : List Value) ++ hc x75.h ++ ([(.bool (x75.ok)), (.bool (x75.raw))] : List Value)), cellC b219 45 (([(.int .i64 (x216.kind)), (.int .i64 (x216.round)), (.int .i64 (x216.valid))] : List Value) ++ hc x216.h)] w276)
                  have S278 := H277.pick [0, 1, 2, 3, 4, 6, 7, 8] (by decide)
                  refine hK273 _ _ S278 ?_
                  clear hK273 K273
                  refine h_val 9 rfl (by kernel_rfl) (by kernel_rfl) (by kernel_rfl) (fun _ _ _ h => h) S278 (wants0 rfl) (d := 135) (v := (.int .i64 (t275))) rfl (fun _ H' => (by kernel_rfl)) ?_
                  refine h_do 10 rfl (by kernel_rfl) (wants0 rfl) (fun K279 hK279 => ?_)
                  refine d_entryStore rfl H277 5 rfl rfl rfl (((lookM (bumps ((onE (3 * F + 1) ls (startD D0).1 (startD D0).2 k) ++ ((onP (startD D0).2 k) ++ A2).take i)) (⟨x216.kind, x216.round⟩ : Turn)).getD 0) + 1) rfl ?_
                  intro w280 (H281 : Sat w [restC w (fun _ => False), cellC b6 25 ([(.int .i64 (F)), (.int .i64 (1))] : List Value), cellC k31 92 (([(.int .i64 (D2.f)), (.int .i64 (D2.c)), (.int .i64 (D2.epoch)), (.int .i64 (D2.replica)), (.int .i64 (D2.s.round)), (.int .i64 (D2.s.step)), (.int .i64 (D2.s.lr)), (.int .i64 (D2.s.vr))] : List Value) ++ hc D2.s.locked ++ hc D2.s.valid ++ ([(.bool (D2.s.decided))] : List Value) ++ hc D2.s.decision ++ ([(.pointer (some ⟨t32, 0, none⟩)), (.map (some pb37)), (.bool (D2.wv)), (.bool (D2.sp)), (.bool (D2.sc))] : List Value)), talC t32 hb33 cb34 ab35 lb36 D2.f D2.c D2.L, mapC pb37 (Value.int .i64) propV D2.P, mapC b41 turnV (Value.int .i64) (putM (bumps ((onE (3 * F + 1) ls (startD D0).1 (startD D0).2 k) ++ ((onP (startD D0).2 k) ++ A2).take i)) (⟨x216.kind, x216.round⟩ : Turn) (((lookM (bumps ((onE (3 * F + 1) ls (startD D0).1 (startD D0).2 k) ++ ((onP (startD D0).2 k) ++ A2).take i)) (⟨x216.kind, x216.round⟩ : Turn)).getD 0) + 1)), rowC 45 35 (.slice a2 ((onP (startD D0).2 k) ++ A2).length q2) (((onP (startD D0).2 k) ++ A2).length) (((onP (startD D0).2 k) ++ A2).flatMap encA), cellC b81 57 (([(.int .i64 (x75.doo)), (.int .i64 (x75.kind)), (.int .i64 (x75.round)), (.int .i64 (x75.valid)), (.int .i64 (x75.replica))] : List Value) ++ hc x75.h ++ ([(.bool (x75.ok)), (.bool (x75.raw))] : List Value)), cellC b219 45 (([(.int .i64 (x216.kind)), (.int .i64 (x216.round)), (.int .i64 (x216.valid))] : List Value) ++ hc x216.h)] w280)
                  have S282 := H281.pick [0, 1, 2, 3, 4, 6, 7, 8] (by decide)
                  refine hK279 _ _ S282 ?_
                  clear hK279 K279
                  refine h_fin (by kernel_rfl) ?_
                  refine then_normal ?_
                  refine w_seq ?_
                  refine w_lit ?_
                  refine wl_pure (wants0 rfl) (d := 136) (v := (.map (some b41))) rfl (by kernel_rfl) ?_
                  refine wl_pure (wants0 rfl) (d := 137) (v := (.pointer (some ⟨b219, 0, none⟩))) rfl (by kernel_rfl) ?_
                  refine wl_pure (wants0 rfl) (d := 138) (v := (.int .i64 (x216.kind))) rfl (e_load1 rfl (by kernel_rfl) (H281.cell 8 rfl (by kernel_rfl))) ?_
                  refine wl_pure (wants0 rfl) (d := 139) (v := (.pointer (some ⟨b219, 1, none⟩))) rfl (by kernel_rfl) ?_
                  refine wl_pure (wants0 rfl) (d := 140) (v := (.int .i64 (x216.round))) rfl (e_load1 rfl (by kernel_rfl) (H281.cell 8 rfl (by kernel_rfl))) ?_
                  refine wl_pure (wants0 rfl) (d := 141) (v := (.agg ⟨([(.int .i64 (x216.kind)), (.int .i64 (x216.round))] : List Value)⟩)) rfl (by kernel_rfl) ?_
                  refine wl_pure (wants0 rfl) (d := 142) (v := (.int .i64 ((lookM (putM (bumps ((onE (3 * F + 1) ls (startD D0).1 (startD D0).2 k) ++ ((onP (startD D0).2 k) ++ A2).take i)) (⟨x216.kind, x216.round⟩ : Turn) (((lookM (bumps ((onE (3 * F + 1) ls (startD D0).1 (startD D0).2 k) ++ ((onP (startD D0).2 k) ++ A2).take i)) (⟨x216.kind, x216.round⟩ : Turn)).getD 0) + 1)) (⟨x216.kind, x216.round⟩ : Turn)).getD 0))) rfl (e_lookup (kt := 66) (et := 3) arr2K (by kernel_rfl) (fun w => by kernel_rfl) rfl (⟨x216.kind, x216.round⟩ : Turn) rfl (H281.at 5 rfl) (optD (Value.int .i64) _ _)) ?_
                  refine wl_pure (wants0 rfl) (d := 143) (v := (.bool (decide (((lookM (putM (bumps ((onE (3 * F + 1) ls (startD D0).1 (startD D0).2 k) ++ ((onP (startD D0).2 k) ++ A2).take i)) (⟨x216.kind, x216.round⟩ : Turn) (((lookM (bumps ((onE (3 * F + 1) ls (startD D0).1 (startD D0).2 k) ++ ((onP (startD D0).2 k) ++ A2).take i)) (⟨x216.kind, x216.round⟩ : Turn)).getD 0) + 1)) (⟨x216.kind, x216.round⟩ : Turn)).getD 0) > 1)))) rfl (by kernel_rfl) ?_
                  refine wl_pure (wants0 rfl) (d := 144) (v := (.bool (decide (((lookM (putM (bumps ((onE (3 * F + 1) ls (startD D0).1 (startD D0).2 k) ++ ((onP (startD D0).2 k) ++ A2).take i)) (⟨x216.kind, x216.round⟩ : Turn) (((lookM (bumps ((onE (3 * F + 1) ls (startD D0).1 (startD D0).2 k) ++ ((onP (startD D0).2 k) ++ A2).take i)) (⟨x216.kind, x216.round⟩ : Turn)).getD 0) + 1)) (⟨x216.kind, x216.round⟩ : Turn)).getD 0) > 1)))) rfl (by kernel_rfl) ?_
                  have b283 : (decide (((lookM (putM (bumps ((onE (3 * F + 1) ls (startD D0).1 (startD D0).2 k) ++ ((onP (startD D0).2 k) ++ A2).take i)) (⟨x216.kind, x216.round⟩ : Turn) (((lookM (bumps ((onE (3 * F + 1) ls (startD D0).1 (startD D0).2 k) ++ ((onP (startD D0).2 k) ++ A2).take i)) (⟨x216.kind, x216.round⟩ : Turn)).getD 0) + 1)) (⟨x216.kind, x216.round⟩ : Turn)).getD 0) > 1)) = false := by (exact decide_eq_false (by omega))
                  refine wl_know 144 (.bool false) (congrArg Value.bool b283) ?_
                  refine wl_pure (wantsY 8 144 false rfl (by kernel_rfl) rfl (by kernel_rfl)) (d := 145) (v := (.pointer (some ⟨b219, 1, none⟩))) rfl (by kernel_rfl) ?_
                  refine wl_pure (wantsY 8 144 false rfl (by kernel_rfl) rfl (by kernel_rfl)) (d := 146) (v := (.int .i64 (x216.round))) rfl (e_load1 rfl (by kernel_rfl) (H281.cell 8 rfl (by kernel_rfl))) ?_
                  refine wl_pure (wantsY 8 144 false rfl (by kernel_rfl) rfl (by kernel_rfl)) (d := 147) (v := (.int .i64 (onR (3 * F + 1) ls (startD D0).1 k))) rfl (by kernel_rfl) ?_
                  refine wl_pure (wantsY 8 144 false rfl (by kernel_rfl) rfl (by kernel_rfl)) (d := 148) (v := (.bool (decide (x216.round < (onR (3 * F + 1) ls (startD D0).1 k))))) rfl (by kernel_rfl) ?_
                  refine wl_pure (wants0 rfl) (d := 149) (v := (.bool (decide (x216.round < (onR (3 * F + 1) ls (startD D0).1 k))))) rfl (by kernel_rfl) ?_
                  refine w_nil ?_
                  refine then_normal ?_
                  have b284 : (decide (x216.round < (onR (3 * F + 1) ls (startD D0).1 k))) = false := by (exact decide_eq_false (by have := hO.rds _ (List.mem_of_getElem? h217) (by intro q5; first | (have q2 := (by assumption : (decide (x216.kind = 1)) = true); rw [q5] at q2; cases q2) | (unfold voteK at hv; omega)); omega))
                  refine wp_know 149 (.bool false) (congrArg Value.bool b284) ?_
                  have g285 := of_decide_eq_false b284
                  refine wp_iff rfl ?_
                  refine w_skip ?_
                  refine blk_normal ?_
                  refine blk_normal ?_
                  refine then_normal ?_
                  refine w_lit ?_
                  refine wl_pure (wants0 rfl) (d := 166) (v := (.int .i64 ((i : Int) + 1))) rfl (e_int (z := (i : Int) + 1) (by kernel_rfl) (IntWalk.i64_in _ (by omega))) ?_
                  refine wl_pure (wants0 rfl) (d := 117) (v := (.int .i64 ((i : Int) + 1))) rfl (by kernel_rfl) ?_
                  refine w_nil ?_
                  have H286 : Sat w [restC w (fun _ => False), cellC b6 25 ([(.int .i64 (F)), (.int .i64 (1))] : List Value), cellC k31 92 (([(.int .i64 (D2.f)), (.int .i64 (D2.c)), (.int .i64 (D2.epoch)), (.int .i64 (D2.replica)), (.int .i64 (D2.s.round)), (.int .i64 (D2.s.step)), (.int .i64 (D2.s.lr)), (.int .i64 (D2.s.vr))] : List Value) ++ hc D2.s.locked ++ hc D2.s.valid ++ ([(.bool (D2.s.decided))] : List Value) ++ hc D2.s.decision ++ ([(.pointer (some ⟨t32, 0, none⟩)), (.map (some pb37)), (.bool (D2.wv)), (.bool (D2.sp)), (.bool (D2.sc))] : List Value)), talC t32 hb33 cb34 ab35 lb36 D2.f D2.c D2.L, mapC pb37 (Value.int .i64) propV D2.P, mapC b41 turnV (Value.int .i64) (bumps ((onE (3 * F + 1) ls (startD D0).1 (startD D0).2 k) ++ ((onP (startD D0).2 k) ++ A2).take (i + 1))), rowC 45 35 (.slice a2 ((onP (startD D0).2 k) ++ A2).length q2) (((onP (startD D0).2 k) ++ A2).length) (((onP (startD D0).2 k) ++ A2).flatMap encA), cellC b81 57 (([(.int .i64 (x75.doo)), (.int .i64 (x75.kind)), (.int .i64 (x75.round)), (.int .i64 (x75.valid)), (.int .i64 (x75.replica))] : List Value) ++ hc x75.h ++ ([(.bool (x75.ok)), (.bool (x75.raw))] : List Value))] w280 := (H281.pick [0, 1, 2, 3, 4, 5, 6, 7] (by decide)).cast (by rw [hbm]; rfl)
                  refine round_back ?_ _ ⟨(i + 1), (show ((.int .i64 ((i : Int) + 1)) : Value) = _ by first | rfl | go_num), (by omega), H286, rfl⟩ (by omega)
                  exact (same_upd rfl (same_upd rfl (same_upd rfl (same_upd rfl (same_upd rfl (same_upd rfl (same_upd rfl (same_upd rfl (same_upd rfl (same_upd rfl (same_upd rfl (same_upd rfl (same_upd rfl (same_upd rfl (same_upd rfl (same_upd rfl (same_upd rfl (same_upd rfl (same_upd rfl (same_upd rfl (same_upd rfl (same_upd rfl (same_upd rfl (same_upd rfl (same_upd rfl (same_upd rfl (same_upd rfl (same_upd rfl (same_upd rfl (same_upd rfl (same_upd rfl (same_upd rfl (same_upd rfl (same_upd rfl (same_upd rfl (same_upd rfl (same_upd rfl (same_upd rfl (same_upd rfl (same_upd rfl (same_upd rfl (same_upd rfl (same_ovr)))))))))))))))))))))))))))))))))))))))))))
                · refine d_mapEntry (kt := 66) (et := 3) rfl H269 5 rfl arr2K (by kernel_rfl) (0 : Int) (fun w => by kernel_rfl) rfl (⟨x216.kind, x216.round⟩ : Turn) rfl ?_
                  intro v287 t288 w289 (H290 : Sat w [restC w (fun _ => False), cellC b6 25 ([(.int .i64 (F)), (.int .i64 (1))] : List Value), cellC k31 92 (([(.int .i64 (D2.f)), (.int .i64 (D2.c)), (.int .i64 (D2.epoch)), (.int .i64 (D2.replica)), (.int .i64 (D2.s.round)), (.int .i64 (D2.s.step)), (.int .i64 (D2.s.lr)), (.int .i64 (D2.s.vr))] : List Value) ++ hc D2.s.locked ++ hc D2.s.valid ++ ([(.bool (D2.s.decided))] : List Value) ++ hc D2.s.decision ++ ([(.pointer (some ⟨t32, 0, none⟩)), (.map (some pb37)), (.bool (D2.wv)), (.bool (D2.sp)), (.bool (D2.sc))] : List Value)), talC t32 hb33 cb34 ab35 lb36 D2.f D2.c D2.L, mapC pb37 (Value.int .i64) propV D2.P, entryC b41 turnV (Value.int .i64) (bumps ((onE (3 * F + 1) ls (startD D0).1 (startD D0).2 k) ++ ((onP (startD D0).2 k) ++ A2).take i)) (⟨x216.kind, x216.round⟩ : Turn) ((lookM (bumps ((onE (3 * F + 1) ls (startD D0).1 (startD D0).2 k) ++ ((onP (startD D0).2 k) ++ A2).take i)) (⟨x216.kind, x216.round⟩ : Turn)).getD (0 : Int)) t288, rowC 45 35 (.slice a2 ((onP (startD D0).2 k) ++ A2).length q2) (((onP (startD D0).2 k) ++ A2).length) (((onP (startD D0).2 k) ++ A2).flatMap encA), cellC b81 57 (([(.int .i64 (x75.doo)), (.int .i64 (x75.kind)), (.int .i64 (x75.round)), (.int .i64 (x75.valid)), (.int .i64 (x75.replica))] : List Value) ++ hc x75.h ++ ([(.bool (x75.ok)), (.bool (x75.raw))] : List Value)), cellC b219 45 (([(.int .i64 (x216.kind)), (.int .i64 (x216.round)), (.int .i64 (x216.valid))] : List Value) ++ hc x216.h)] w289)
                  have S291 := H290.pick [0, 1, 2, 3, 4, 6, 7, 8] (by decide)
                  refine hK271 _ _ S291 ?_
                  clear hK271 K271
                  refine h_val 9 rfl (by kernel_rfl) (by kernel_rfl) (by kernel_rfl) (fun _ _ _ h => h) S291 (wants0 rfl) (d := 135) (v := (.int .i64 (t288))) rfl (fun _ H' => (by kernel_rfl)) ?_
                  refine h_do 6 rfl (by kernel_rfl) (wants0 rfl) (fun K292 hK292 => ?_)
                  refine d_pure (d := 132) (v := (.int .i64 ((lookM (bumps ((onE (3 * F + 1) ls (startD D0).1 (startD D0).2 k) ++ ((onP (startD D0).2 k) ++ A2).take i)) (⟨x216.kind, x216.round⟩ : Turn)).getD 0))) rfl (e_lookup (kt := 66) (et := 3) arr2K (by kernel_rfl) (fun w => by kernel_rfl) rfl (⟨x216.kind, x216.round⟩ : Turn) rfl (EntryAt.map (H290.at 5 rfl)) (look_put_same' (z := (Value.int .i64) (0 : Int)) _ _ _)) ?_
                  have S293 := H290.pick [0, 1, 2, 3, 4, 6, 7, 8] (by decide)
                  refine hK292 _ _ S293 ?_
                  clear hK292 K292
                  refine h_val 7 rfl (by kernel_rfl) (by kernel_rfl) (by kernel_rfl) (fun _ _ _ h => h) S293 (wants0 rfl) (d := 133) (v := (.int .i64 (((lookM (bumps ((onE (3 * F + 1) ls (startD D0).1 (startD D0).2 k) ++ ((onP (startD D0).2 k) ++ A2).take i)) (⟨x216.kind, x216.round⟩ : Turn)).getD 0) + 1))) rfl (fun _ H' => (e_int (z := ((lookM (bumps ((onE (3 * F + 1) ls (startD D0).1 (startD D0).2 k) ++ ((onP (startD D0).2 k) ++ A2).take i)) (⟨x216.kind, x216.round⟩ : Turn)).getD 0) + 1) (by kernel_rfl) (IntWalk.i64_in _ (by omega)))) ?_
                  refine h_do 10 rfl (by kernel_rfl) (wants0 rfl) (fun K294 hK294 => ?_)
                  refine d_entryStore rfl H290 5 rfl rfl rfl (((lookM (bumps ((onE (3 * F + 1) ls (startD D0).1 (startD D0).2 k) ++ ((onP (startD D0).2 k) ++ A2).take i)) (⟨x216.kind, x216.round⟩ : Turn)).getD 0) + 1) rfl ?_
                  intro w295 (H296 : Sat w [restC w (fun _ => False), cellC b6 25 ([(.int .i64 (F)), (.int .i64 (1))] : List Value), cellC k31 92 (([(.int .i64 (D2.f)), (.int .i64 (D2.c)), (.int .i64 (D2.epoch)), (.int .i64 (D2.replica)), (.int .i64 (D2.s.round)), (.int .i64 (D2.s.step)), (.int .i64 (D2.s.lr)), (.int .i64 (D2.s.vr))] : List Value) ++ hc D2.s.locked ++ hc D2.s.valid ++ ([(.bool (D2.s.decided))] : List Value) ++ hc D2.s.decision ++ ([(.pointer (some ⟨t32, 0, none⟩)), (.map (some pb37)), (.bool (D2.wv)), (.bool (D2.sp)), (.bool (D2.sc))] : List Value)), talC t32 hb33 cb34 ab35 lb36 D2.f D2.c D2.L, mapC pb37 (Value.int .i64) propV D2.P, mapC b41 turnV (Value.int .i64) (putM (bumps ((onE (3 * F + 1) ls (startD D0).1 (startD D0).2 k) ++ ((onP (startD D0).2 k) ++ A2).take i)) (⟨x216.kind, x216.round⟩ : Turn) (((lookM (bumps ((onE (3 * F + 1) ls (startD D0).1 (startD D0).2 k) ++ ((onP (startD D0).2 k) ++ A2).take i)) (⟨x216.kind, x216.round⟩ : Turn)).getD 0) + 1)), rowC 45 35 (.slice a2 ((onP (startD D0).2 k) ++ A2).length q2) (((onP (startD D0).2 k) ++ A2).length) (((onP (startD D0).2 k) ++ A2).flatMap encA), cellC b81 57 (([(.int .i64 (x75.doo)), (.int .i64 (x75.kind)), (.int .i64 (x75.round)), (.int .i64 (x75.valid)), (.int .i64 (x75.replica))] : List Value) ++ hc x75.h ++ ([(.bool (x75.ok)), (.bool (x75.raw))] : List Value)), cellC b219 45 (([(.int .i64 (x216.kind)), (.int .i64 (x216.round)), (.int .i64 (x216.valid))] : List Value) ++ hc x216.h)] w295)
                  have S297 := H296.pick [0, 1, 2, 3, 4, 6, 7, 8] (by decide)
                  refine hK294 _ _ S297 ?_
                  clear hK294 K294
                  refine h_fin (by kernel_rfl) ?_
                  refine then_normal ?_
                  refine w_seq ?_
                  refine w_lit ?_
                  refine wl_pure (wants0 rfl) (d := 136) (v := (.map (some b41))) rfl (by kernel_rfl) ?_
                  refine wl_pure (wants0 rfl) (d := 137) (v := (.pointer (some ⟨b219, 0, none⟩))) rfl (by kernel_rfl) ?_
                  refine wl_pure (wants0 rfl) (d := 138) (v := (.int .i64 (x216.kind))) rfl (e_load1 rfl (by kernel_rfl) (H296.cell 8 rfl (by kernel_rfl))) ?_
                  refine wl_pure (wants0 rfl) (d := 139) (v := (.pointer (some ⟨b219, 1, none⟩))) rfl (by kernel_rfl) ?_
                  refine wl_pure (wants0 rfl) (d := 140) (v := (.int .i64 (x216.round))) rfl (e_load1 rfl (by kernel_rfl) (H296.cell 8 rfl (by kernel_rfl))) ?_
                  refine wl_pure (wants0 rfl) (d := 141) (v := (.agg ⟨([(.int .i64 (x216.kind)), (.int .i64 (x216.round))] : List Value)⟩)) rfl (by kernel_rfl) ?_
                  refine wl_pure (wants0 rfl) (d := 142) (v := (.int .i64 ((lookM (putM (bumps ((onE (3 * F + 1) ls (startD D0).1 (startD D0).2 k) ++ ((onP (startD D0).2 k) ++ A2).take i)) (⟨x216.kind, x216.round⟩ : Turn) (((lookM (bumps ((onE (3 * F + 1) ls (startD D0).1 (startD D0).2 k) ++ ((onP (startD D0).2 k) ++ A2).take i)) (⟨x216.kind, x216.round⟩ : Turn)).getD 0) + 1)) (⟨x216.kind, x216.round⟩ : Turn)).getD 0))) rfl (e_lookup (kt := 66) (et := 3) arr2K (by kernel_rfl) (fun w => by kernel_rfl) rfl (⟨x216.kind, x216.round⟩ : Turn) rfl (H296.at 5 rfl) (optD (Value.int .i64) _ _)) ?_
                  refine wl_pure (wants0 rfl) (d := 143) (v := (.bool (decide (((lookM (putM (bumps ((onE (3 * F + 1) ls (startD D0).1 (startD D0).2 k) ++ ((onP (startD D0).2 k) ++ A2).take i)) (⟨x216.kind, x216.round⟩ : Turn) (((lookM (bumps ((onE (3 * F + 1) ls (startD D0).1 (startD D0).2 k) ++ ((onP (startD D0).2 k) ++ A2).take i)) (⟨x216.kind, x216.round⟩ : Turn)).getD 0) + 1)) (⟨x216.kind, x216.round⟩ : Turn)).getD 0) > 1)))) rfl (by kernel_rfl) ?_
                  refine wl_pure (wants0 rfl) (d := 144) (v := (.bool (decide (((lookM (putM (bumps ((onE (3 * F + 1) ls (startD D0).1 (startD D0).2 k) ++ ((onP (startD D0).2 k) ++ A2).take i)) (⟨x216.kind, x216.round⟩ : Turn) (((lookM (bumps ((onE (3 * F + 1) ls (startD D0).1 (startD D0).2 k) ++ ((onP (startD D0).2 k) ++ A2).take i)) (⟨x216.kind, x216.round⟩ : Turn)).getD 0) + 1)) (⟨x216.kind, x216.round⟩ : Turn)).getD 0) > 1)))) rfl (by kernel_rfl) ?_
                  have b298 : (decide (((lookM (putM (bumps ((onE (3 * F + 1) ls (startD D0).1 (startD D0).2 k) ++ ((onP (startD D0).2 k) ++ A2).take i)) (⟨x216.kind, x216.round⟩ : Turn) (((lookM (bumps ((onE (3 * F + 1) ls (startD D0).1 (startD D0).2 k) ++ ((onP (startD D0).2 k) ++ A2).take i)) (⟨x216.kind, x216.round⟩ : Turn)).getD 0) + 1)) (⟨x216.kind, x216.round⟩ : Turn)).getD 0) > 1)) = false := by (exact decide_eq_false (by omega))
                  refine wl_know 144 (.bool false) (congrArg Value.bool b298) ?_
                  refine wl_pure (wantsY 8 144 false rfl (by kernel_rfl) rfl (by kernel_rfl)) (d := 145) (v := (.pointer (some ⟨b219, 1, none⟩))) rfl (by kernel_rfl) ?_
                  refine wl_pure (wantsY 8 144 false rfl (by kernel_rfl) rfl (by kernel_rfl)) (d := 146) (v := (.int .i64 (x216.round))) rfl (e_load1 rfl (by kernel_rfl) (H296.cell 8 rfl (by kernel_rfl))) ?_
                  refine wl_pure (wantsY 8 144 false rfl (by kernel_rfl) rfl (by kernel_rfl)) (d := 147) (v := (.int .i64 (onR (3 * F + 1) ls (startD D0).1 k))) rfl (by kernel_rfl) ?_
                  refine wl_pure (wantsY 8 144 false rfl (by kernel_rfl) rfl (by kernel_rfl)) (d := 148) (v := (.bool (decide (x216.round < (onR (3 * F + 1) ls (startD D0).1 k))))) rfl (by kernel_rfl) ?_
                  refine wl_pure (wants0 rfl) (d := 149) (v := (.bool (decide (x216.round < (onR (3 * F + 1) ls (startD D0).1 k))))) rfl (by kernel_rfl) ?_
                  refine w_nil ?_
                  refine then_normal ?_
                  have b299 : (decide (x216.round < (onR (3 * F + 1) ls (startD D0).1 k))) = false := by (exact decide_eq_false (by have := hO.rds _ (List.mem_of_getElem? h217) (by intro q5; first | (have q2 := (by assumption : (decide (x216.kind = 1)) = true); rw [q5] at q2; cases q2) | (unfold voteK at hv; omega)); omega))
                  refine wp_know 149 (.bool false) (congrArg Value.bool b299) ?_
                  have g300 := of_decide_eq_false b299
                  refine wp_iff rfl ?_
                  refine w_skip ?_
                  refine blk_normal ?_
                  refine blk_normal ?_
                  refine then_normal ?_
                  refine w_lit ?_
                  refine wl_pure (wants0 rfl) (d := 166) (v := (.int .i64 ((i : Int) + 1))) rfl (e_int (z := (i : Int) + 1) (by kernel_rfl) (IntWalk.i64_in _ (by omega))) ?_
                  refine wl_pure (wants0 rfl) (d := 117) (v := (.int .i64 ((i : Int) + 1))) rfl (by kernel_rfl) ?_
                  refine w_nil ?_
                  have H301 : Sat w [restC w (fun _ => False), cellC b6 25 ([(.int .i64 (F)), (.int .i64 (1))] : List Value), cellC k31 92 (([(.int .i64 (D2.f)), (.int .i64 (D2.c)), (.int .i64 (D2.epoch)), (.int .i64 (D2.replica)), (.int .i64 (D2.s.round)), (.int .i64 (D2.s.step)), (.int .i64 (D2.s.lr)), (.int .i64 (D2.s.vr))] : List Value) ++ hc D2.s.locked ++ hc D2.s.valid ++ ([(.bool (D2.s.decided))] : List Value) ++ hc D2.s.decision ++ ([(.pointer (some ⟨t32, 0, none⟩)), (.map (some pb37)), (.bool (D2.wv)), (.bool (D2.sp)), (.bool (D2.sc))] : List Value)), talC t32 hb33 cb34 ab35 lb36 D2.f D2.c D2.L, mapC pb37 (Value.int .i64) propV D2.P, mapC b41 turnV (Value.int .i64) (bumps ((onE (3 * F + 1) ls (startD D0).1 (startD D0).2 k) ++ ((onP (startD D0).2 k) ++ A2).take (i + 1))), rowC 45 35 (.slice a2 ((onP (startD D0).2 k) ++ A2).length q2) (((onP (startD D0).2 k) ++ A2).length) (((onP (startD D0).2 k) ++ A2).flatMap encA), cellC b81 57 (([(.int .i64 (x75.doo)), (.int .i64 (x75.kind)), (.int .i64 (x75.round)), (.int .i64 (x75.valid)), (.int .i64 (x75.replica))] : List Value) ++ hc x75.h ++ ([(.bool (x75.ok)), (.bool (x75.raw))] : List Value))] w295 := (H296.pick [0, 1, 2, 3, 4, 5, 6, 7] (by decide)).cast (by rw [hbm]; rfl)
                  refine round_back ?_ _ ⟨(i + 1), (show ((.int .i64 ((i : Int) + 1)) : Value) = _ by first | rfl | go_num), (by omega), H301, rfl⟩ (by omega)
                  exact (same_upd rfl (same_upd rfl (same_upd rfl (same_upd rfl (same_upd rfl (same_upd rfl (same_upd rfl (same_upd rfl (same_upd rfl (same_upd rfl (same_upd rfl (same_upd rfl (same_upd rfl (same_upd rfl (same_upd rfl (same_upd rfl (same_upd rfl (same_upd rfl (same_upd rfl (same_upd rfl (same_upd rfl (same_upd rfl (same_upd rfl (same_upd rfl (same_upd rfl (same_upd rfl (same_upd rfl (same_upd rfl (same_upd rfl (same_upd rfl (same_upd rfl (same_upd rfl (same_upd rfl (same_upd rfl (same_upd rfl (same_upd rfl (same_upd rfl (same_upd rfl (same_upd rfl (same_upd rfl (same_upd rfl (same_upd rfl (same_ovr)))))))))))))))))))))))))))))))))))))))))))
              · have g302 := of_decide_eq_false b265
                refine wp_know 123 (.bool false) (congrArg Value.bool b265) ?_
                have g303 := of_decide_eq_false b265
                refine wp_iff rfl ?_
                refine w_seq ?_
                refine w_lit ?_
                refine wl_pure (wants0 rfl) (d := 151) (v := (.bool (decide (x216.kind = 1)))) rfl (by kernel_rfl) ?_
                refine wl_pure (wants0 rfl) (d := 150) (v := (.bool (decide (x216.kind = 1)))) rfl (by kernel_rfl) ?_
                refine w_nil ?_
                refine then_normal ?_
                refine (bsplit (decide (x216.kind = 1))).elim (fun b304 => ?_) (fun b304 => ?_)
                · have g305 := of_decide_eq_true b304
                  refine wp_know 150 (.bool true) (congrArg Value.bool b304) ?_
                  have g306 := of_decide_eq_true b304
                  refine wp_ift rfl ?_
                  refine w_seq ?_
                  refine w_lit ?_
                  refine wl_pure (wants0 rfl) (d := 152) (v := (.pointer (some ⟨b219, 1, none⟩))) rfl (by kernel_rfl) ?_
                  refine wl_pure (wants0 rfl) (d := 153) (v := (.int .i64 (x216.round))) rfl (e_load1 rfl (by kernel_rfl) (H224.cell 8 rfl (by kernel_rfl))) ?_
                  refine wl_pure (wants0 rfl) (d := 154) (v := (.int .i64 (onR (3 * F + 1) ls (startD D0).1 k))) rfl (by kernel_rfl) ?_
                  refine wl_pure (wants0 rfl) (d := 155) (v := (.bool (decide (x216.round < (onR (3 * F + 1) ls (startD D0).1 k))))) rfl (by kernel_rfl) ?_
                  refine wl_pure (wants0 rfl) (d := 156) (v := (.bool (decide (x216.round < (onR (3 * F + 1) ls (startD D0).1 k))))) rfl (by kernel_rfl) ?_
                  have b307 : (decide (x216.round < (onR (3 * F + 1) ls (startD D0).1 k))) = false := by (exact decide_eq_false (by have := hO.rds _ (List.mem_of_getElem? h217) (by intro q5; first | (have q2 := (by assumption : (decide (x216.kind = 1)) = true); rw [q5] at q2; cases q2) | (unfold voteK at hv; omega)); omega))
                  refine wl_know 156 (.bool false) (congrArg Value.bool b307) ?_
                  refine wl_pure (wantsY 4 156 false rfl (by kernel_rfl) rfl (by kernel_rfl)) (d := 157) (v := (.agg ⟨([(.int .i64 (F)), (.int .i64 (1))] : List Value)⟩)) rfl (e_loadN (vs := ([(.int .i64 (F)), (.int .i64 (1))] : List Value)) rfl (by kernel_rfl) (by kernel_rfl) (by exact Nat.le_of_ble_eq_true (by kernel_rfl)) (H224.at 1 rfl) (by kernel_rfl)) ?_
                  refine wl_pure (wantsY 4 156 false rfl (by kernel_rfl) rfl (by kernel_rfl)) (d := 158) (v := (.pointer (some ⟨b219, 1, none⟩))) rfl (by kernel_rfl) ?_
                  refine wl_pure (wantsY 4 156 false rfl (by kernel_rfl) rfl (by kernel_rfl)) (d := 159) (v := (.int .i64 (x216.round))) rfl (e_load1 rfl (by kernel_rfl) (H224.cell 8 rfl (by kernel_rfl))) ?_
                  refine wl_do (wantsY 4 156 false rfl (by kernel_rfl) rfl (by kernel_rfl)) (fun K308 hK308 => ?_)
                  refine d_call (d := 160) rfl (by kernel_rfl) (coreProposer_any w223 F 1 (by omega) 0 x216.round) ?_
                  rintro _ w309 ⟨rfl, u311⟩
                  have H310 := H224.keepU u311
                  refine ⟨_, rfl, ?_⟩
                  refine hK308 _ _ ?_
                  clear hK308 K308
                  refine wl_pure (wantsY 4 156 false rfl (by kernel_rfl) rfl (by kernel_rfl)) (d := 161) (v := (.int .i64 (replica))) rfl (by kernel_rfl) ?_
                  refine wl_pure (wantsY 4 156 false rfl (by kernel_rfl) rfl (by kernel_rfl)) (d := 162) (v := (.int .i64 (3 * F + 1))) rfl (by kernel_rfl) ?_
                  refine wl_do (wantsY 4 156 false rfl (by kernel_rfl) rfl (by kernel_rfl)) (fun K312 hK312 => ?_)
                  refine d_call (d := 163) rfl (by kernel_rfl) (within_any w309 replica (3 * F + 1) (by omega)) ?_
                  rintro _ w313 ⟨rfl, u315⟩
                  have H314 := H310.keepU u315
                  refine ⟨_, rfl, ?_⟩
                  refine hK312 _ _ ?_
                  clear hK312 K312
                  refine wl_pure (wantsY 4 156 false rfl (by kernel_rfl) rfl (by kernel_rfl)) (d := 164) (v := (.bool (!(decide ((proposerV F 0 x216.round) = (withinV replica (3 * F + 1))))))) rfl (by kernel_rfl) ?_
                  refine wl_pure (wants0 rfl) (d := 165) (v := (.bool (!(decide ((proposerV F 0 x216.round) = (withinV replica (3 * F + 1))))))) rfl (by kernel_rfl) ?_
                  refine w_nil ?_
                  refine then_normal ?_
                  have b316 : (!(decide ((proposerV F 0 x216.round) = (withinV replica (3 * F + 1))))) = false := by (have q := hO.prop _ (List.mem_of_getElem? h217) (of_decide_eq_true (by assumption)); simp [q])
                  refine wp_know 165 (.bool false) (congrArg Value.bool b316) ?_
                  have g317 := bnot_false b316
                  have g318 := of_decide_eq_true g317
                  refine wp_iff rfl ?_
                  refine w_skip ?_
                  refine blk_normal ?_
                  refine blk_normal ?_
                  refine then_normal ?_
                  refine w_lit ?_
                  refine wl_pure (wants0 rfl) (d := 166) (v := (.int .i64 ((i : Int) + 1))) rfl (e_int (z := (i : Int) + 1) (by kernel_rfl) (IntWalk.i64_in _ (by omega))) ?_
                  refine wl_pure (wants0 rfl) (d := 117) (v := (.int .i64 ((i : Int) + 1))) rfl (by kernel_rfl) ?_
                  refine w_nil ?_
                  have H319 : Sat w [restC w (fun _ => False), cellC b6 25 ([(.int .i64 (F)), (.int .i64 (1))] : List Value), cellC k31 92 (([(.int .i64 (D2.f)), (.int .i64 (D2.c)), (.int .i64 (D2.epoch)), (.int .i64 (D2.replica)), (.int .i64 (D2.s.round)), (.int .i64 (D2.s.step)), (.int .i64 (D2.s.lr)), (.int .i64 (D2.s.vr))] : List Value) ++ hc D2.s.locked ++ hc D2.s.valid ++ ([(.bool (D2.s.decided))] : List Value) ++ hc D2.s.decision ++ ([(.pointer (some ⟨t32, 0, none⟩)), (.map (some pb37)), (.bool (D2.wv)), (.bool (D2.sp)), (.bool (D2.sc))] : List Value)), talC t32 hb33 cb34 ab35 lb36 D2.f D2.c D2.L, mapC pb37 (Value.int .i64) propV D2.P, mapC b41 turnV (Value.int .i64) (bumps ((onE (3 * F + 1) ls (startD D0).1 (startD D0).2 k) ++ ((onP (startD D0).2 k) ++ A2).take (i + 1))), rowC 45 35 (.slice a2 ((onP (startD D0).2 k) ++ A2).length q2) (((onP (startD D0).2 k) ++ A2).length) (((onP (startD D0).2 k) ++ A2).flatMap encA), cellC b81 57 (([(.int .i64 (x75.doo)), (.int .i64 (x75.kind)), (.int .i64 (x75.round)), (.int .i64 (x75.valid)), (.int .i64 (x75.replica))] : List Value) ++ hc x75.h ++ ([(.bool (x75.ok)), (.bool (x75.raw))] : List Value))] w313 := (H314.pick [0, 1, 2, 3, 4, 5, 6, 7] (by decide)).cast (by rw [show ((onP (startD D0).2 k) ++ A2).take (i + 1) = ((onP (startD D0).2 k) ++ A2).take i ++ [x216] by rw [List.take_add_one, h217]; rfl, ← List.append_assoc, bumps_snoc, bumpM_no b226 b265] <;> rfl)
                  refine round_back ?_ _ ⟨(i + 1), (show ((.int .i64 ((i : Int) + 1)) : Value) = _ by first | rfl | go_num), (by omega), H319, rfl⟩ (by omega)
                  exact (same_upd rfl (same_upd rfl (same_upd rfl (same_upd rfl (same_upd rfl (same_upd rfl (same_upd rfl (same_upd rfl (same_upd rfl (same_upd rfl (same_upd rfl (same_upd rfl (same_upd rfl (same_upd rfl (same_upd rfl (same_upd rfl (same_upd rfl (same_upd rfl (same_upd rfl (same_upd rfl (same_upd rfl (same_upd rfl (same_upd rfl (same_upd rfl (same_upd rfl (same_upd rfl (same_upd rfl (same_upd rfl (same_upd rfl (same_upd rfl (same_upd rfl (same_upd rfl (same_upd rfl (same_upd rfl (same_upd rfl (same_ovr))))))))))))))))))))))))))))))))))))
                · have g320 := of_decide_eq_false b304
                  refine wp_know 150 (.bool false) (congrArg Value.bool b304) ?_
                  have g321 := of_decide_eq_false b304
                  refine wp_iff rfl ?_
                  refine w_skip ?_
                  refine blk_normal ?_
                  refine blk_normal ?_
                  refine then_normal ?_
                  refine w_lit ?_
                  refine wl_pure (wants0 rfl) (d := 166) (v := (.int .i64 ((i : Int) + 1))) rfl (e_int (z := (i : Int) + 1) (by kernel_rfl) (IntWalk.i64_in _ (by omega))) ?_
                  refine wl_pure (wants0 rfl) (d := 117) (v := (.int .i64 ((i : Int) + 1))) rfl (by kernel_rfl) ?_
                  refine w_nil ?_
                  have H322 : Sat w [restC w (fun _ => False), cellC b6 25 ([(.int .i64 (F)), (.int .i64 (1))] : List Value), cellC k31 92 (([(.int .i64 (D2.f)), (.int .i64 (D2.c)), (.int .i64 (D2.epoch)), (.int .i64 (D2.replica)), (.int .i64 (D2.s.round)), (.int .i64 (D2.s.step)), (.int .i64 (D2.s.lr)), (.int .i64 (D2.s.vr))] : List Value) ++ hc D2.s.locked ++ hc D2.s.valid ++ ([(.bool (D2.s.decided))] : List Value) ++ hc D2.s.decision ++ ([(.pointer (some ⟨t32, 0, none⟩)), (.map (some pb37)), (.bool (D2.wv)), (.bool (D2.sp)), (.bool (D2.sc))] : List Value)), talC t32 hb33 cb34 ab35 lb36 D2.f D2.c D2.L, mapC pb37 (Value.int .i64) propV D2.P, mapC b41 turnV (Value.int .i64) (bumps ((onE (3 * F + 1) ls (startD D0).1 (startD D0).2 k) ++ ((onP (startD D0).2 k) ++ A2).take (i + 1))), rowC 45 35 (.slice a2 ((onP (startD D0).2 k) ++ A2).length q2) (((onP (startD D0).2 k) ++ A2).length) (((onP (startD D0).2 k) ++ A2).flatMap encA), cellC b81 57 (([(.int .i64 (x75.doo)), (.int .i64 (x75.kind)), (.int .i64 (x75.round)), (.int .i64 (x75.valid)), (.int .i64 (x75.replica))] : List Value) ++ hc x75.h ++ ([(.bool (x75.ok)), (.bool (x75.raw))] : List Value))] w223 := (H224.pick [0, 1, 2, 3, 4, 5, 6, 7] (by decide)).cast (by rw [show ((onP (startD D0).2 k) ++ A2).take (i + 1) = ((onP (startD D0).2 k) ++ A2).take i ++ [x216] by rw [List.take_add_one, h217]; rfl, ← List.append_assoc, bumps_snoc, bumpM_no b226 b265] <;> rfl)
                  refine round_back ?_ _ ⟨(i + 1), (show ((.int .i64 ((i : Int) + 1)) : Value) = _ by first | rfl | go_num), (by omega), H322, rfl⟩ (by omega)
                  exact (same_upd rfl (same_upd rfl (same_upd rfl (same_upd rfl (same_upd rfl (same_upd rfl (same_upd rfl (same_upd rfl (same_upd rfl (same_upd rfl (same_upd rfl (same_upd rfl (same_upd rfl (same_upd rfl (same_upd rfl (same_upd rfl (same_upd rfl (same_upd rfl (same_upd rfl (same_ovr))))))))))))))))))))
          · have g323 := of_decide_eq_false b210
            refine wp_know 118 (.bool false) (congrArg Value.bool b210) ?_
            have g324 := of_decide_eq_false b210
            refine wp_iff rfl ?_
            refine w_exit ?_
            refine then_exit ?_
            refine back_exit ?_
            refine blk_hit ?_
            refine then_normal ?_
            refine w_seq ?_
            have hM : bumps ((onE (3 * F + 1) ls (startD D0).1 (startD D0).2 k) ++ ((onP (startD D0).2 k) ++ A2).take i) = bumps (onE (3 * F + 1) ls (startD D0).1 (startD D0).2 (k + 1)) := by rw [show i = ((onP (startD D0).2 k) ++ A2).length by have := of_decide_eq_false b210; omega, List.take_of_length_le (Nat.le_refl _)]; simp only [onE, hA2]
            refine w_lit ?_
            refine wl_pure (wants0 rfl) (d := 13) (v := (.slice none 0 0)) rfl (by kernel_rfl) ?_
            refine w_nil ?_
            refine then_normal ?_
            refine w_seq ?_
            refine w_lit ?_
            refine wl_pure (wants0 rfl) (d := 167) (v := (.pointer (some ⟨k31, 0, none⟩))) rfl (by kernel_rfl) ?_
            refine wl_do (wants0 rfl) (fun K325 hK325 => ?_)
            refine d_call (d := 168) rfl (by kernel_rfl) (coreState_any w206 k31 t32 hb33 cb34 ab35 lb36 pb37 D2 (ok_of (by kernel_rfl) (H207.fin [2, 3, 4] (by decide) rfl)) hC2) ?_
            rintro _ w326 ⟨rfl, u328⟩
            have H327 := H207.keepU u328
            refine ⟨_, rfl, ?_⟩
            refine hK325 _ _ ?_
            clear hK325 K325
            refine wl_do (wants0 rfl) (fun K329 hK329 => ?_)
            refine d_alloc (zs := (([(.int .i64 (0)), (.int .i64 (0)), (.int .i64 (0)), (.int .i64 (0))] : List Value) ++ hc hash0 ++ hc hash0 ++ ([(.bool false)] : List Value) ++ hc hash0)) (z := (.agg ⟨(([(.int .i64 (0)), (.int .i64 (0)), (.int .i64 (0)), (.int .i64 (0))] : List Value) ++ hc hash0 ++ hc hash0 ++ ([(.bool false)] : List Value) ++ hc hash0)⟩)) rfl H327 (by kernel_rfl) (by kernel_rfl) ?_
            intro b330 w331 (H332 : Sat w [restC w (fun _ => False), cellC b6 25 ([(.int .i64 (F)), (.int .i64 (1))] : List Value), cellC k31 92 (([(.int .i64 (D2.f)), (.int .i64 (D2.c)), (.int .i64 (D2.epoch)), (.int .i64 (D2.replica)), (.int .i64 (D2.s.round)), (.int .i64 (D2.s.step)), (.int .i64 (D2.s.lr)), (.int .i64 (D2.s.vr))] : List Value) ++ hc D2.s.locked ++ hc D2.s.valid ++ ([(.bool (D2.s.decided))] : List Value) ++ hc D2.s.decision ++ ([(.pointer (some ⟨t32, 0, none⟩)), (.map (some pb37)), (.bool (D2.wv)), (.bool (D2.sp)), (.bool (D2.sc))] : List Value)), talC t32 hb33 cb34 ab35 lb36 D2.f D2.c D2.L, mapC pb37 (Value.int .i64) propV D2.P, mapC b41 turnV (Value.int .i64) (bumps ((onE (3 * F + 1) ls (startD D0).1 (startD D0).2 k) ++ ((onP (startD D0).2 k) ++ A2).take i)), rowC 45 35 (.slice a2 ((onP (startD D0).2 k) ++ A2).length q2) (((onP (startD D0).2 k) ++ A2).length) (((onP (startD D0).2 k) ++ A2).flatMap encA), cellC b81 57 (([(.int .i64 (x75.doo)), (.int .i64 (x75.kind)), (.int .i64 (x75.round)), (.int .i64 (x75.valid)), (.int .i64 (x75.replica))] : List Value) ++ hc x75.h ++ ([(.bool (x75.ok)), (.bool (x75.raw))] : List Value)), cellC b330 38 (([(.int .i64 (0)), (.int .i64 (0)), (.int .i64 (0)), (.int .i64 (0))] : List Value) ++ hc hash0 ++ hc hash0 ++ ([(.bool false)] : List Value) ++ hc hash0)] w331)
            refine hK329 _ _ ?_
            clear hK329 K329
            refine wl_do (wants0 rfl) (fun K333 hK333 => ?_)
            refine d_storeX (vs := (([(.int .i64 (D2.s.round)), (.int .i64 (D2.s.step)), (.int .i64 (D2.s.lr)), (.int .i64 (D2.s.vr))] : List Value) ++ hc D2.s.locked ++ hc D2.s.valid ++ ([(.bool (D2.s.decided))] : List Value) ++ hc D2.s.decision)) (cs' := (([(.int .i64 (D2.s.round)), (.int .i64 (D2.s.step)), (.int .i64 (D2.s.lr)), (.int .i64 (D2.s.vr))] : List Value) ++ hc D2.s.locked ++ hc D2.s.valid ++ ([(.bool (D2.s.decided))] : List Value) ++ hc D2.s.decision)) rfl H332 8 rfl rfl rfl rfl (by kernel_rfl) (Nat.le_of_ble_eq_true (by kernel_rfl)) (Nat.le_of_ble_eq_true (by kernel_rfl)) (by kernel_rfl) (by kernel_rfl) ?_
            intro w334 (H335 : Sat w [restC w (fun _ => False), cellC b6 25 ([(.int .i64 (F)), (.int .i64 (1))] : List Value), cellC k31 92 (([(.int .i64 (D2.f)), (.int .i64 (D2.c)), (.int .i64 (D2.epoch)), (.int .i64 (D2.replica)), (.int .i64 (D2.s.round)), (.int .i64 (D2.s.step)), (.int .i64 (D2.s.lr)), (.int .i64 (D2.s.vr))] : List Value) ++ hc D2.s.locked ++ hc D2.s.valid ++ ([(.bool (D2.s.decided))] : List Value) ++ hc D2.s.decision ++ ([(.pointer (some ⟨t32, 0, none⟩)), (.map (some pb37)), (.bool (D2.wv)), (.bool (D2.sp)), (.bool (D2.sc))] : List Value)), talC t32 hb33 cb34 ab35 lb36 D2.f D2.c D2.L, mapC pb37 (Value.int .i64) propV D2.P, mapC b41 turnV (Value.int .i64) (bumps ((onE (3 * F + 1) ls (startD D0).1 (startD D0).2 k) ++ ((onP (startD D0).2 k) ++ A2).take i)), rowC 45 35 (.slice a2 ((onP (startD D0).2 k) ++ A2).length q2) (((onP (startD D0).2 k) ++ A2).length) (((onP (startD D0).2 k) ++ A2).flatMap encA), cellC b81 57 (([(.int .i64 (x75.doo)), (.int .i64 (x75.kind)), (.int .i64 (x75.round)), (.int .i64 (x75.valid)), (.int .i64 (x75.replica))] : List Value) ++ hc x75.h ++ ([(.bool (x75.ok)), (.bool (x75.raw))] : List Value)), cellC b330 38 (([(.int .i64 (D2.s.round)), (.int .i64 (D2.s.step)), (.int .i64 (D2.s.lr)), (.int .i64 (D2.s.vr))] : List Value) ++ hc D2.s.locked ++ hc D2.s.valid ++ ([(.bool (D2.s.decided))] : List Value) ++ hc D2.s.decision)] w334)
            refine hK333 _ _ ?_
            clear hK333 K333
            refine w_nil ?_
            refine then_normal ?_
            refine w_seq ?_
            refine w_seq ?_
            refine w_lit ?_
            refine wl_pure (wants0 rfl) (d := 169) (v := (.pointer (some ⟨b330, 0, none⟩))) rfl (by kernel_rfl) ?_
            refine wl_pure (wants0 rfl) (d := 170) (v := (.int .i64 (D2.s.round))) rfl (e_load1 rfl (by kernel_rfl) (H335.cell 8 rfl (by kernel_rfl))) ?_
            refine wl_pure (wants0 rfl) (d := 171) (v := (.int .i64 (onR (3 * F + 1) ls (startD D0).1 k))) rfl (by kernel_rfl) ?_
            refine wl_pure (wants0 rfl) (d := 172) (v := (.bool (decide (D2.s.round < (onR (3 * F + 1) ls (startD D0).1 k))))) rfl (by kernel_rfl) ?_
            refine wl_pure (wants0 rfl) (d := 173) (v := (.bool (decide (D2.s.round < (onR (3 * F + 1) ls (startD D0).1 k))))) rfl (by kernel_rfl) ?_
            have b337 : (decide (D2.s.round < (onR (3 * F + 1) ls (startD D0).1 k))) = false := by (exact decide_eq_false (by have := hO.rd; omega))
            refine wl_know 173 (.bool false) (congrArg Value.bool b337) ?_
            refine wl_pure (wantsY 4 173 false rfl (by kernel_rfl) rfl (by kernel_rfl)) (d := 174) (v := (.pointer (some ⟨b330, 1, none⟩))) rfl (by kernel_rfl) ?_
            refine wl_pure (wantsY 4 173 false rfl (by kernel_rfl) rfl (by kernel_rfl)) (d := 175) (v := (.int .i64 (D2.s.step))) rfl (e_load1 rfl (by kernel_rfl) (H335.cell 8 rfl (by kernel_rfl))) ?_
            refine wl_pure (wantsY 4 173 false rfl (by kernel_rfl) rfl (by kernel_rfl)) (d := 176) (v := (.bool (decide (D2.s.step < 1)))) rfl (by kernel_rfl) ?_
            refine wl_pure (wants0 rfl) (d := 177) (v := (.bool (decide (D2.s.step < 1)))) rfl (by kernel_rfl) ?_
            refine wl_pure (wants0 rfl) (d := 178) (v := (.bool (decide (D2.s.step < 1)))) rfl (by kernel_rfl) ?_
            have b338 : (decide (D2.s.step < 1)) = false := by (exact decide_eq_false (by have := hO.st; omega))
            refine wl_know 178 (.bool false) (congrArg Value.bool b338) ?_
            refine wl_pure (wantsY 9 178 false rfl (by kernel_rfl) rfl (by kernel_rfl)) (d := 179) (v := (.pointer (some ⟨b330, 1, none⟩))) rfl (by kernel_rfl) ?_
            refine wl_pure (wantsY 9 178 false rfl (by kernel_rfl) rfl (by kernel_rfl)) (d := 180) (v := (.int .i64 (D2.s.step))) rfl (e_load1 rfl (by kernel_rfl) (H335.cell 8 rfl (by kernel_rfl))) ?_
            refine wl_pure (wantsY 9 178 false rfl (by kernel_rfl) rfl (by kernel_rfl)) (d := 181) (v := (.bool (decide (D2.s.step > 3)))) rfl (by kernel_rfl) ?_
            refine wl_pure (wants0 rfl) (d := 182) (v := (.bool (decide (D2.s.step > 3)))) rfl (by kernel_rfl) ?_
            refine wl_pure (wants0 rfl) (d := 183) (v := (.bool (decide (D2.s.step > 3)))) rfl (by kernel_rfl) ?_
            have b339 : (decide (D2.s.step > 3)) = false := by (exact decide_eq_false (by have := hO.st; omega))
            refine wl_know 183 (.bool false) (congrArg Value.bool b339) ?_
            refine wl_pure (wantsY 14 183 false rfl (by kernel_rfl) rfl (by kernel_rfl)) (d := 184) (v := (.pointer (some ⟨b330, 2, none⟩))) rfl (by kernel_rfl) ?_
            refine wl_pure (wantsY 14 183 false rfl (by kernel_rfl) rfl (by kernel_rfl)) (d := 185) (v := (.int .i64 (D2.s.lr))) rfl (e_load1 rfl (by kernel_rfl) (H335.cell 8 rfl (by kernel_rfl))) ?_
            refine wl_pure (wantsY 14 183 false rfl (by kernel_rfl) rfl (by kernel_rfl)) (d := 186) (v := (.pointer (some ⟨b330, 0, none⟩))) rfl (by kernel_rfl) ?_
            refine wl_pure (wantsY 14 183 false rfl (by kernel_rfl) rfl (by kernel_rfl)) (d := 187) (v := (.int .i64 (D2.s.round))) rfl (e_load1 rfl (by kernel_rfl) (H335.cell 8 rfl (by kernel_rfl))) ?_
            refine wl_pure (wantsY 14 183 false rfl (by kernel_rfl) rfl (by kernel_rfl)) (d := 188) (v := (.bool (decide (D2.s.lr > D2.s.round)))) rfl (by kernel_rfl) ?_
            refine wl_pure (wants0 rfl) (d := 189) (v := (.bool (decide (D2.s.lr > D2.s.round)))) rfl (by kernel_rfl) ?_
            refine wl_pure (wants0 rfl) (d := 190) (v := (.bool (decide (D2.s.lr > D2.s.round)))) rfl (by kernel_rfl) ?_
            have b340 : (decide (D2.s.lr > D2.s.round)) = false := by (exact decide_eq_false (by have := hO.lv; omega))
            refine wl_know 190 (.bool false) (congrArg Value.bool b340) ?_
            refine wl_pure (wantsY 21 190 false rfl (by kernel_rfl) rfl (by kernel_rfl)) (d := 191) (v := (.pointer (some ⟨b330, 3, none⟩))) rfl (by kernel_rfl) ?_
            refine wl_pure (wantsY 21 190 false rfl (by kernel_rfl) rfl (by kernel_rfl)) (d := 192) (v := (.int .i64 (D2.s.vr))) rfl (e_load1 rfl (by kernel_rfl) (H335.cell 8 rfl (by kernel_rfl))) ?_
            refine wl_pure (wantsY 21 190 false rfl (by kernel_rfl) rfl (by kernel_rfl)) (d := 193) (v := (.pointer (some ⟨b330, 0, none⟩))) rfl (by kernel_rfl) ?_
            refine wl_pure (wantsY 21 190 false rfl (by kernel_rfl) rfl (by kernel_rfl)) (d := 194) (v := (.int .i64 (D2.s.round))) rfl (e_load1 rfl (by kernel_rfl) (H335.cell 8 rfl (by kernel_rfl))) ?_
            refine wl_pure (wantsY 21 190 false rfl (by kernel_rfl) rfl (by kernel_rfl)) (d := 195) (v := (.bool (decide (D2.s.vr > D2.s.round)))) rfl (by kernel_rfl) ?_
            refine wl_pure (wants0 rfl) (d := 196) (v := (.bool (decide (D2.s.vr > D2.s.round)))) rfl (by kernel_rfl) ?_
            refine wl_pure (wants0 rfl) (d := 197) (v := (.bool (decide (D2.s.vr > D2.s.round)))) rfl (by kernel_rfl) ?_
            have b341 : (decide (D2.s.vr > D2.s.round)) = false := by (exact decide_eq_false (by have := hO.lv; omega))
            refine wl_know 197 (.bool false) (congrArg Value.bool b341) ?_
            refine wl_pure (wantsY 28 197 false rfl (by kernel_rfl) rfl (by kernel_rfl)) (d := 198) (v := (.pointer (some ⟨b330, 2, none⟩))) rfl (by kernel_rfl) ?_
            refine wl_pure (wantsY 28 197 false rfl (by kernel_rfl) rfl (by kernel_rfl)) (d := 199) (v := (.int .i64 (D2.s.lr))) rfl (e_load1 rfl (by kernel_rfl) (H335.cell 8 rfl (by kernel_rfl))) ?_
            refine wl_pure (wantsY 28 197 false rfl (by kernel_rfl) rfl (by kernel_rfl)) (d := 200) (v := (.pointer (some ⟨b330, 3, none⟩))) rfl (by kernel_rfl) ?_
            refine wl_pure (wantsY 28 197 false rfl (by kernel_rfl) rfl (by kernel_rfl)) (d := 201) (v := (.int .i64 (D2.s.vr))) rfl (e_load1 rfl (by kernel_rfl) (H335.cell 8 rfl (by kernel_rfl))) ?_
            refine wl_pure (wantsY 28 197 false rfl (by kernel_rfl) rfl (by kernel_rfl)) (d := 202) (v := (.bool (decide (D2.s.lr > D2.s.vr)))) rfl (by kernel_rfl) ?_
            refine wl_pure (wants0 rfl) (d := 203) (v := (.bool (decide (D2.s.lr > D2.s.vr)))) rfl (by kernel_rfl) ?_
            refine w_nil ?_
            refine then_normal ?_
            have b342 : (decide (D2.s.lr > D2.s.vr)) = false := by (exact decide_eq_false (by have := hO.lv; omega))
            refine wp_know 203 (.bool false) (congrArg Value.bool b342) ?_
            have g343 := of_decide_eq_false b342
            refine wp_iff rfl ?_
            refine w_skip ?_
            refine then_normal ?_
            refine w_lit ?_
            refine wl_pure (wants0 rfl) (d := 204) (v := (.pointer (some ⟨b330, 0, none⟩))) rfl (by kernel_rfl) ?_
            refine wl_pure (wants0 rfl) (d := 205) (v := (.int .i64 (D2.s.round))) rfl (e_load1 rfl (by kernel_rfl) (H335.cell 8 rfl (by kernel_rfl))) ?_
            refine wl_pure (wants0 rfl) (d := 12) (v := (.int .i64 (D2.s.round))) rfl (by kernel_rfl) ?_
            refine w_nil ?_
            refine blk_normal ?_
            refine then_normal ?_
            refine w_lit ?_
            refine wl_pure (wants0 rfl) (d := 51) (v := (.int .i64 ((k : Int)))) rfl (by kernel_rfl) ?_
            refine wl_pure (wants0 rfl) (d := 52) (v := (.int .i64 ((k : Int) + 1))) rfl (e_int (z := (k : Int) + 1) (by kernel_rfl) (IntWalk.i64_in _ (by omega))) ?_
            refine wl_pure (wants0 rfl) (d := 14) (v := (.int .i64 ((k : Int) + 1))) rfl (by kernel_rfl) ?_
            refine w_nil ?_
            have Hn := H335.addNil 45 35
            have H344 : Sat w [restC w (fun _ => False), cellC b6 25 ([(.int .i64 (F)), (.int .i64 (1))] : List Value), cellC k31 92 (([(.int .i64 ((onD (3 * F + 1) ls (startD D0).1 (k + 1)).f)), (.int .i64 ((onD (3 * F + 1) ls (startD D0).1 (k + 1)).c)), (.int .i64 ((onD (3 * F + 1) ls (startD D0).1 (k + 1)).epoch)), (.int .i64 ((onD (3 * F + 1) ls (startD D0).1 (k + 1)).replica)), (.int .i64 ((onD (3 * F + 1) ls (startD D0).1 (k + 1)).s.round)), (.int .i64 ((onD (3 * F + 1) ls (startD D0).1 (k + 1)).s.step)), (.int .i64 ((onD (3 * F + 1) ls (startD D0).1 (k + 1)).s.lr)), (.int .i64 ((onD (3 * F + 1) ls (startD D0).1 (k + 1)).s.vr))] : List Value) ++ hc (onD (3 * F + 1) ls (startD D0).1 (k + 1)).s.locked ++ hc (onD (3 * F + 1) ls (startD D0).1 (k + 1)).s.valid ++ ([(.bool ((onD (3 * F + 1) ls (startD D0).1 (k + 1)).s.decided))] : List Value) ++ hc (onD (3 * F + 1) ls (startD D0).1 (k + 1)).s.decision ++ ([(.pointer (some ⟨t32, 0, none⟩)), (.map (some pb37)), (.bool ((onD (3 * F + 1) ls (startD D0).1 (k + 1)).wv)), (.bool ((onD (3 * F + 1) ls (startD D0).1 (k + 1)).sp)), (.bool ((onD (3 * F + 1) ls (startD D0).1 (k + 1)).sc))] : List Value)), talC t32 hb33 cb34 ab35 lb36 (onD (3 * F + 1) ls (startD D0).1 (k + 1)).f (onD (3 * F + 1) ls (startD D0).1 (k + 1)).c (onD (3 * F + 1) ls (startD D0).1 (k + 1)).L, mapC pb37 (Value.int .i64) propV (onD (3 * F + 1) ls (startD D0).1 (k + 1)).P, mapC b41 turnV (Value.int .i64) (bumps (onE (3 * F + 1) ls (startD D0).1 (startD D0).2 (k + 1))), rowC 45 35 (.slice none (onP (startD D0).2 (k + 1)).length 0) ((onP (startD D0).2 (k + 1)).length) ((onP (startD D0).2 (k + 1)).flatMap encA)] w334 := (Hn.pick [0, 1, 2, 3, 4, 5, 9] (by decide)).cast (by rw [hM, ← hD2]; rfl)
            refine round_back ?_ _ ⟨(k + 1), none, 0, (show ((.int .i64 ((k : Int) + 1)) : Value) = _ by first | rfl | (simp only [onR, hD2])), (show ((.int .i64 (D2.s.round)) : Value) = _ by first | rfl | (simp only [onR, hD2])), (show ((.slice none 0 0) : Value) = _ by first | rfl | (simp only [onR, hD2])), (by omega), H344, rfl⟩ (by omega)
            exact (same_upd rfl (same_upd rfl (same_upd rfl (same_upd rfl (same_upd rfl (same_upd rfl (same_upd rfl (same_upd rfl (same_upd rfl (same_upd rfl (same_upd rfl (same_upd rfl (same_upd rfl (same_upd rfl (same_upd rfl (same_upd rfl (same_upd rfl (same_upd rfl (same_upd rfl (same_upd rfl (same_upd rfl (same_upd rfl (same_upd rfl (same_upd rfl (same_upd rfl (same_upd rfl (same_upd rfl (same_upd rfl (same_upd rfl (same_upd rfl (same_upd rfl (same_upd rfl (same_upd rfl (same_upd rfl (same_upd rfl (same_upd rfl (same_upd rfl (same_upd rfl (same_upd rfl (same_upd rfl (same_upd rfl (same_upd rfl (same_upd rfl (same_upd rfl (same_upd rfl (same_upd rfl (same_upd rfl (same_upd rfl (same_upd rfl (same_upd rfl (same_upd rfl (same_upd rfl (same_upd rfl (same_upd rfl (same_ovr2 rfl (same_upd rfl (same_upd rfl (same_upd rfl (same_upd rfl (same_upd rfl (same_upd rfl (same_upd rfl (same_upd rfl (same_upd rfl (same_upd rfl (same_upd rfl (same_upd rfl (same_ovr2 rfl (same_upd rfl (same_upd rfl (same_upd rfl (same_upd rfl (same_upd rfl (same_upd rfl (same_upd rfl (same_upd rfl (same_upd rfl (same_upd rfl (same_upd rfl (same_upd rfl (same_upd rfl (same_ovr2 rfl (same_upd rfl (same_upd rfl (same_upd rfl (same_ovr))))))))))))))))))))))))))))))))))))))))))))))))))))))))))))))))))))))))))))))))))))))
        · refine wl_know 110 (.bool false) (congrArg Value.bool b201) ?_
          refine wl_pass (wantsN 1 110 true rfl (by kernel_rfl) rfl (by kernel_rfl)) rfl ?_
          refine wl_pass (wantsN 1 110 true rfl (by kernel_rfl) rfl (by kernel_rfl)) rfl ?_
          refine wl_pass (wantsN 1 110 true rfl (by kernel_rfl) rfl (by kernel_rfl)) rfl ?_
          refine wl_pure (wants0 rfl) (d := 114) (v := (.bool false)) rfl (by kernel_rfl) ?_
          refine w_nil ?_
          refine then_normal ?_
          refine wp_iff rfl ?_
          refine w_skip ?_
          refine then_normal ?_
          refine w_seq ?_
          refine w_seq ?_
          refine w_lit ?_
          refine wl_pure (wants0 rfl) (d := 115) (v := (.slice a2 ((onP (startD D0).2 k) ++ A2).length q2)) rfl (by kernel_rfl) ?_
          refine wl_pure (wants0 rfl) (d := 116) (v := (.int .i64 ((((onP (startD D0).2 k) ++ A2).length : Int)))) rfl (by kernel_rfl) ?_
          refine wl_pure (wants0 rfl) (d := 117) (v := (.int .i64 (0))) rfl (by kernel_rfl) ?_
          refine w_nil ?_
          refine then_normal ?_
          refine w_block ?_
          have H345 : Sat w [restC w (fun _ => False), cellC b6 25 ([(.int .i64 (F)), (.int .i64 (1))] : List Value), cellC k31 92 (([(.int .i64 (D2.f)), (.int .i64 (D2.c)), (.int .i64 (D2.epoch)), (.int .i64 (D2.replica)), (.int .i64 (D2.s.round)), (.int .i64 (D2.s.step)), (.int .i64 (D2.s.lr)), (.int .i64 (D2.s.vr))] : List Value) ++ hc D2.s.locked ++ hc D2.s.valid ++ ([(.bool (D2.s.decided))] : List Value) ++ hc D2.s.decision ++ ([(.pointer (some ⟨t32, 0, none⟩)), (.map (some pb37)), (.bool (D2.wv)), (.bool (D2.sp)), (.bool (D2.sc))] : List Value)), talC t32 hb33 cb34 ab35 lb36 D2.f D2.c D2.L, mapC pb37 (Value.int .i64) propV D2.P, mapC b41 turnV (Value.int .i64) (bumps ((onE (3 * F + 1) ls (startD D0).1 (startD D0).2 k) ++ ((onP (startD D0).2 k) ++ A2).take 0)), rowC 45 35 (.slice a2 ((onP (startD D0).2 k) ++ A2).length q2) (((onP (startD D0).2 k) ++ A2).length) (((onP (startD D0).2 k) ++ A2).flatMap encA), cellC b81 57 (([(.int .i64 (x75.doo)), (.int .i64 (x75.kind)), (.int .i64 (x75.round)), (.int .i64 (x75.valid)), (.int .i64 (x75.replica))] : List Value) ++ hc x75.h ++ ([(.bool (x75.ok)), (.bool (x75.raw))] : List Value))] w198 := H199.cast (by rw [List.take_zero, List.append_nil])
          have hAl : ((onP (startD D0).2 k) ++ A2).length ≤ 100000000 := by rw [List.length_append]; omega
          refine wp_round [6, 18, 117, 118, 119, 120, 121, 122, 123, 124, 125, 126, 127, 128, 129, 130, 131, 132, 133, 134, 135, 136, 137, 138, 139, 140, 141, 142, 143, 144, 145, 146, 147, 148, 149, 150, 151, 152, 153, 154, 155, 156, 157, 158, 159, 160, 161, 162, 163, 164, 165, 166] (fun F_ W_ m_ => ∃ (i : Nat), F_ 117 = (.int .i64 ((i : Int))) ∧ (i ≤ ((onP (startD D0).2 k) ++ A2).length) ∧ Sat w [restC w (fun _ => False), cellC b6 25 ([(.int .i64 (F)), (.int .i64 (1))] : List Value), cellC k31 92 (([(.int .i64 (D2.f)), (.int .i64 (D2.c)), (.int .i64 (D2.epoch)), (.int .i64 (D2.replica)), (.int .i64 (D2.s.round)), (.int .i64 (D2.s.step)), (.int .i64 (D2.s.lr)), (.int .i64 (D2.s.vr))] : List Value) ++ hc D2.s.locked ++ hc D2.s.valid ++ ([(.bool (D2.s.decided))] : List Value) ++ hc D2.s.decision ++ ([(.pointer (some ⟨t32, 0, none⟩)), (.map (some pb37)), (.bool (D2.wv)), (.bool (D2.sp)), (.bool (D2.sc))] : List Value)), talC t32 hb33 cb34 ab35 lb36 D2.f D2.c D2.L, mapC pb37 (Value.int .i64) propV D2.P, mapC b41 turnV (Value.int .i64) (bumps ((onE (3 * F + 1) ls (startD D0).1 (startD D0).2 k) ++ ((onP (startD D0).2 k) ++ A2).take i)), rowC 45 35 (.slice a2 ((onP (startD D0).2 k) ++ A2).length q2) (((onP (startD D0).2 k) ++ A2).length) (((onP (startD D0).2 k) ++ A2).flatMap encA), cellC b81 57 (([(.int .i64 (x75.doo)), (.int .i64 (x75.kind)), (.int .i64 (x75.round)), (.int .i64 (x75.valid)), (.int .i64 (x75.replica))] : List Value) ++ hc x75.h ++ ([(.bool (x75.ok)), (.bool (x75.raw))] : List Value))] W_ ∧ m_ = ((onP (startD D0).2 k) ++ A2).length - i) _ ⟨0, (by first | rfl | go_num), (Nat.zero_le _), H345, rfl⟩ ?_
          rintro g346 w347 _ ⟨i, v349, hi, H348, rfl⟩
          refine wp_know 117 _ v349 ?_
          refine w_seq ?_
          refine w_lit ?_
          refine wl_pure (wants0 rfl) (d := 118) (v := (.bool (decide ((i : Int) < (((onP (startD D0).2 k) ++ A2).length : Int))))) rfl (by kernel_rfl) ?_
          refine w_nil ?_
          refine then_normal ?_
          refine w_seq ?_
          refine (bsplit (decide ((i : Int) < (((onP (startD D0).2 k) ++ A2).length : Int)))).elim (fun b351 => ?_) (fun b351 => ?_)
          · have g352 := of_decide_eq_true b351
            refine wp_know 118 (.bool true) (congrArg Value.bool b351) ?_
            have g353 := of_decide_eq_true b351
            refine wp_ift rfl ?_
            refine w_skip ?_
            refine then_normal ?_
            refine w_seq ?_
            refine w_block ?_
            refine w_seq ?_
            refine w_lit ?_
            obtain ⟨g354, c355, e356⟩ := row_shape (H348.at 6 rfl) (by omega)
            obtain ⟨x357, h358⟩ := get_at (show i < ((onP (startD D0).2 k) ++ A2).length by omega)
            refine wl_pure (wants0 rfl) (d := 119) (v := (.pointer (some ⟨g354, 0 + ((i : Int)).toNat * 35, none⟩))) rfl (e_indexAddrV (E := 45) (by kernel_rfl) (by kernel_rfl) (Nat.le_of_ble_eq_true rfl) rfl e356 rfl (by omega) (by omega)) ?_
            refine wl_pure (wants0 rfl) (d := 120) (v := (.agg ⟨(([(.int .i64 (x357.kind)), (.int .i64 (x357.round)), (.int .i64 (x357.valid))] : List Value) ++ hc x357.h)⟩)) rfl (e_loadRun (vs := (([(.int .i64 (x357.kind)), (.int .i64 (x357.round)), (.int .i64 (x357.valid))] : List Value) ++ hc x357.h)) rfl (by kernel_rfl) (by kernel_rfl) (Nat.le_of_ble_eq_true (by kernel_rfl)) (rows_run (H348.at 6 rfl) e356 encA_len h358 0 (show 0 + ((i : Int)).toNat * 35 = i * 35 + 0 by omega) (by kernel_rfl) (by kernel_rfl))) ?_
            refine wl_do (wants0 rfl) (fun K359 hK359 => ?_)
            refine d_alloc (zs := (([(.int .i64 (0)), (.int .i64 (0)), (.int .i64 (0))] : List Value) ++ hc hash0)) (z := (.agg ⟨(([(.int .i64 (0)), (.int .i64 (0)), (.int .i64 (0))] : List Value) ++ hc hash0)⟩)) rfl H348 (by kernel_rfl) (by kernel_rfl) ?_
            intro b360 w361 (H362 : Sat w [restC w (fun _ => False), cellC b6 25 ([(.int .i64 (F)), (.int .i64 (1))] : List Value), cellC k31 92 (([(.int .i64 (D2.f)), (.int .i64 (D2.c)), (.int .i64 (D2.epoch)), (.int .i64 (D2.replica)), (.int .i64 (D2.s.round)), (.int .i64 (D2.s.step)), (.int .i64 (D2.s.lr)), (.int .i64 (D2.s.vr))] : List Value) ++ hc D2.s.locked ++ hc D2.s.valid ++ ([(.bool (D2.s.decided))] : List Value) ++ hc D2.s.decision ++ ([(.pointer (some ⟨t32, 0, none⟩)), (.map (some pb37)), (.bool (D2.wv)), (.bool (D2.sp)), (.bool (D2.sc))] : List Value)), talC t32 hb33 cb34 ab35 lb36 D2.f D2.c D2.L, mapC pb37 (Value.int .i64) propV D2.P, mapC b41 turnV (Value.int .i64) (bumps ((onE (3 * F + 1) ls (startD D0).1 (startD D0).2 k) ++ ((onP (startD D0).2 k) ++ A2).take i)), rowC 45 35 (.slice a2 ((onP (startD D0).2 k) ++ A2).length q2) (((onP (startD D0).2 k) ++ A2).length) (((onP (startD D0).2 k) ++ A2).flatMap encA), cellC b81 57 (([(.int .i64 (x75.doo)), (.int .i64 (x75.kind)), (.int .i64 (x75.round)), (.int .i64 (x75.valid)), (.int .i64 (x75.replica))] : List Value) ++ hc x75.h ++ ([(.bool (x75.ok)), (.bool (x75.raw))] : List Value)), cellC b360 45 (([(.int .i64 (0)), (.int .i64 (0)), (.int .i64 (0))] : List Value) ++ hc hash0)] w361)
            refine hK359 _ _ ?_
            clear hK359 K359
            refine wl_do (wants0 rfl) (fun K363 hK363 => ?_)
            refine d_storeX (vs := (([(.int .i64 (x357.kind)), (.int .i64 (x357.round)), (.int .i64 (x357.valid))] : List Value) ++ hc x357.h)) (cs' := (([(.int .i64 (x357.kind)), (.int .i64 (x357.round)), (.int .i64 (x357.valid))] : List Value) ++ hc x357.h)) rfl H362 8 rfl rfl rfl rfl (by kernel_rfl) (Nat.le_of_ble_eq_true (by kernel_rfl)) (Nat.le_of_ble_eq_true (by kernel_rfl)) (by kernel_rfl) (by kernel_rfl) ?_
            intro w364 (H365 : Sat w [restC w (fun _ => False), cellC b6 25 ([(.int .i64 (F)), (.int .i64 (1))] : List Value), cellC k31 92 (([(.int .i64 (D2.f)), (.int .i64 (D2.c)), (.int .i64 (D2.epoch)), (.int .i64 (D2.replica)), (.int .i64 (D2.s.round)), (.int .i64 (D2.s.step)), (.int .i64 (D2.s.lr)), (.int .i64 (D2.s.vr))] : List Value) ++ hc D2.s.locked ++ hc D2.s.valid ++ ([(.bool (D2.s.decided))] : List Value) ++ hc D2.s.decision ++ ([(.pointer (some ⟨t32, 0, none⟩)), (.map (some pb37)), (.bool (D2.wv)), (.bool (D2.sp)), (.bool (D2.sc))] : List Value)), talC t32 hb33 cb34 ab35 lb36 D2.f D2.c D2.L, mapC pb37 (Value.int .i64) propV D2.P, mapC b41 turnV (Value.int .i64) (bumps ((onE (3 * F + 1) ls (startD D0).1 (startD D0).2 k) ++ ((onP (startD D0).2 k) ++ A2).take i)), rowC 45 35 (.slice a2 ((onP (startD D0).2 k) ++ A2).length q2) (((onP (startD D0).2 k) ++ A2).length) (((onP (startD D0).2 k) ++ A2).flatMap encA), cellC b81 57 (([(.int .i64 (x75.doo)), (.int .i64 (x75.kind)), (.int .i64 (x75.round)), (.int .i64 (x75.valid)), (.int .i64 (x75.replica))] : List Value) ++ hc x75.h ++ ([(.bool (x75.ok)), (.bool (x75.raw))] : List Value)), cellC b360 45 (([(.int .i64 (x357.kind)), (.int .i64 (x357.round)), (.int .i64 (x357.valid))] : List Value) ++ hc x357.h)] w364)
            refine hK363 _ _ ?_
            clear hK363 K363
            refine w_nil ?_
            refine then_normal ?_
            refine w_seq ?_
            refine w_lit ?_
            refine wl_pure (wants0 rfl) (d := 121) (v := (.pointer (some ⟨b360, 0, none⟩))) rfl (by kernel_rfl) ?_
            refine wl_pure (wants0 rfl) (d := 122) (v := (.int .i64 (x357.kind))) rfl (e_load1 rfl (by kernel_rfl) (H365.cell 8 rfl (by kernel_rfl))) ?_
            refine w_nil ?_
            refine then_normal ?_
            refine w_block ?_
            refine w_seq ?_
            refine w_seq ?_
            refine w_lit ?_
            refine wl_pure (wants0 rfl) (d := 124) (v := (.bool (decide (x357.kind = 2)))) rfl (by kernel_rfl) ?_
            refine wl_pure (wants0 rfl) (d := 123) (v := (.bool (decide (x357.kind = 2)))) rfl (by kernel_rfl) ?_
            refine w_nil ?_
            refine then_normal ?_
            refine (bsplit (decide (x357.kind = 2))).elim (fun b367 => ?_) (fun b367 => ?_)
            · have g368 := of_decide_eq_true b367
              refine wp_know 123 (.bool true) (congrArg Value.bool b367) ?_
              have g369 := of_decide_eq_true b367
              refine wp_ift rfl ?_
              refine w_skip ?_
              refine then_normal ?_
              refine wp_ift rfl ?_
              refine w_seq ?_
              have hv : voteK x357.kind := .inl (of_decide_eq_true b367)
              have hbm : bumps ((onE (3 * F + 1) ls (startD D0).1 (startD D0).2 k) ++ ((onP (startD D0).2 k) ++ A2).take (i + 1)) = putM (bumps ((onE (3 * F + 1) ls (startD D0).1 (startD D0).2 k) ++ ((onP (startD D0).2 k) ++ A2).take i)) (⟨x357.kind, x357.round⟩ : Turn) ((lookM (bumps ((onE (3 * F + 1) ls (startD D0).1 (startD D0).2 k) ++ ((onP (startD D0).2 k) ++ A2).take i)) (⟨x357.kind, x357.round⟩ : Turn)).getD 0 + 1) := by rw [show ((onP (startD D0).2 k) ++ A2).take (i + 1) = ((onP (startD D0).2 k) ++ A2).take i ++ [x357] by rw [List.take_add_one, h358]; rfl, ← List.append_assoc, bumps_snoc]; unfold bumpM; rw [show (decide (x357.kind = 2) || decide (x357.kind = 3)) = true by rcases hv with q | q <;> rw [q] <;> rfl]; rfl
              have hb0 := bumps_look ((onE (3 * F + 1) ls (startD D0).1 (startD D0).2 k) ++ ((onP (startD D0).2 k) ++ A2).take i) (⟨x357.kind, x357.round⟩ : Turn) hv
              have hb1 := bumps_look ((onE (3 * F + 1) ls (startD D0).1 (startD D0).2 k) ++ ((onP (startD D0).2 k) ++ A2).take (i + 1)) (⟨x357.kind, x357.round⟩ : Turn) hv
              have hb2 := Nat.le_trans (cnt_take (onE (3 * F + 1) ls (startD D0).1 (startD D0).2 k) ((onP (startD D0).2 k) ++ A2) (i + 1) x357.kind x357.round) (hO.cnt _ _ hv)
              have hb3 := Nat.le_trans (cnt_take (onE (3 * F + 1) ls (startD D0).1 (startD D0).2 k) ((onP (startD D0).2 k) ++ A2) i x357.kind x357.round) (hO.cnt _ _ hv)
              rw [hbm] at hb1
              dsimp only at hb0 hb1
              refine h_start H365 [restC w (fun _ => False), cellC b6 25 ([(.int .i64 (F)), (.int .i64 (1))] : List Value), cellC k31 92 (([(.int .i64 (D2.f)), (.int .i64 (D2.c)), (.int .i64 (D2.epoch)), (.int .i64 (D2.replica)), (.int .i64 (D2.s.round)), (.int .i64 (D2.s.step)), (.int .i64 (D2.s.lr)), (.int .i64 (D2.s.vr))] : List Value) ++ hc D2.s.locked ++ hc D2.s.valid ++ ([(.bool (D2.s.decided))] : List Value) ++ hc D2.s.decision ++ ([(.pointer (some ⟨t32, 0, none⟩)), (.map (some pb37)), (.bool (D2.wv)), (.bool (D2.sp)), (.bool (D2.sc))] : List Value)), talC t32 hb33 cb34 ab35 lb36 D2.f D2.c D2.L, mapC pb37 (Value.int .i64) propV D2.P, rowC 45 35 (.slice a2 ((onP (startD D0).2 k) ++ A2).length q2) (((onP (startD D0).2 k) ++ A2).length) (((onP (startD D0).2 k) ++ A2).flatMap encA), cellC b81 57 (([(.int .i64 (x75.doo)), (.int .i64 (x75.kind)), (.int .i64 (x75.round)), (.int .i64 (x75.valid)), (.int .i64 (x75.replica))] : List Value) ++ hc x75.h ++ ([(.bool (x75.ok)), (.bool (x75.raw))] : List Value)), cellC b360 45 (([(.int .i64 (x357.kind)), (.int .i64 (x357.round)), (.int .i64 (x357.valid))] : List Value) ++ hc x357.h)] 11 rfl (by kernel_rfl) (fun Hx => (Hx.pick [0, 1, 2, 3, 4, 6, 7, 8] (by decide))) ?_
              intro w370 H371 S372
              refine h_val 0 rfl (by kernel_rfl) (by kernel_rfl) (by kernel_rfl) (fun _ _ _ h => h) S372 (wants0 rfl) (d := 126) (v := (.map (some b41))) rfl (fun _ H' => (by kernel_rfl)) ?_
              refine h_val 1 rfl (by kernel_rfl) (by kernel_rfl) (by kernel_rfl) (fun _ _ _ h => h) S372 (wants0 rfl) (d := 127) (v := (.pointer (some ⟨b360, 0, none⟩))) rfl (fun _ H' => (by kernel_rfl)) ?_
              refine h_val 2 rfl (by kernel_rfl) (by kernel_rfl) (by kernel_rfl) (fun _ _ _ h => h) S372 (wants0 rfl) (d := 128) (v := (.int .i64 (x357.kind))) rfl (fun _ H' => (e_load1 rfl (by kernel_rfl) (H'.cell 7 rfl (by kernel_rfl)))) ?_
              refine h_val 3 rfl (by kernel_rfl) (by kernel_rfl) (by kernel_rfl) (fun _ _ _ h => h) S372 (wants0 rfl) (d := 129) (v := (.pointer (some ⟨b360, 1, none⟩))) rfl (fun _ H' => (by kernel_rfl)) ?_
              refine h_val 4 rfl (by kernel_rfl) (by kernel_rfl) (by kernel_rfl) (fun _ _ _ h => h) S372 (wants0 rfl) (d := 130) (v := (.int .i64 (x357.round))) rfl (fun _ H' => (e_load1 rfl (by kernel_rfl) (H'.cell 7 rfl (by kernel_rfl)))) ?_
              refine h_val 5 rfl (by kernel_rfl) (by kernel_rfl) (by kernel_rfl) (fun _ _ _ h => h) S372 (wants0 rfl) (d := 131) (v := (.agg ⟨([(.int .i64 (x357.kind)), (.int .i64 (x357.round))] : List Value)⟩)) rfl (fun _ H' => (by kernel_rfl)) ?_
              refine h_do2 6 8 rfl rfl (by kernel_rfl) (wants0 rfl) (wants0 rfl) (fun K373 hK373 => ?_) (fun K373 hK373 => ?_)
              · refine d_pure (d := 132) (v := (.int .i64 ((lookM (bumps ((onE (3 * F + 1) ls (startD D0).1 (startD D0).2 k) ++ ((onP (startD D0).2 k) ++ A2).take i)) (⟨x357.kind, x357.round⟩ : Turn)).getD 0))) rfl (e_lookup (kt := 66) (et := 3) arr2K (by kernel_rfl) (fun w => by kernel_rfl) rfl (⟨x357.kind, x357.round⟩ : Turn) rfl (H371.at 5 rfl) (optD (Value.int .i64) _ _)) ?_
                have S374 := H371.pick [0, 1, 2, 3, 4, 6, 7, 8] (by decide)
                refine hK373 _ _ S374 ?_
                clear hK373 K373
                refine h_val 7 rfl (by kernel_rfl) (by kernel_rfl) (by kernel_rfl) (fun _ _ _ h => h) S374 (wants0 rfl) (d := 133) (v := (.int .i64 (((lookM (bumps ((onE (3 * F + 1) ls (startD D0).1 (startD D0).2 k) ++ ((onP (startD D0).2 k) ++ A2).take i)) (⟨x357.kind, x357.round⟩ : Turn)).getD 0) + 1))) rfl (fun _ H' => (e_int (z := ((lookM (bumps ((onE (3 * F + 1) ls (startD D0).1 (startD D0).2 k) ++ ((onP (startD D0).2 k) ++ A2).take i)) (⟨x357.kind, x357.round⟩ : Turn)).getD 0) + 1) (by kernel_rfl) (IntWalk.i64_in _ (by omega)))) ?_
                refine h_do 8 rfl (by kernel_rfl) (wants0 rfl) (fun K375 hK375 => ?_)
                refine d_mapEntry (kt := 66) (et := 3) rfl H371 5 rfl arr2K (by kernel_rfl) (0 : Int) (fun w => by kernel_rfl) rfl (⟨x357.kind, x357.round⟩ : Turn) rfl ?_
                intro v376 t377 w378 (H379 : Sat w [restC w (fun _ => False), cellC b6 25 ([(.int .i64 (F)), (.int .i64 (1))] : List Value), cellC k31 92 (([(.int .i64 (D2.f)), (.int .i64 (D2.c)), (.int .i64 (D2.epoch)), (.int .i64 (D2.replica)), (.int .i64 (D2.s.round)), (.int .i64 (D2.s.step)), (.int .i64 (D2.s.lr)), (.int .i64 (D2.s.vr))] : List Value) ++ hc D2.s.locked ++ hc D2.s.valid ++ ([(.bool (D2.s.decided))] : List Value) ++ hc D2.s.decision ++ ([(.pointer (some ⟨t32, 0, none⟩)), (.map (some pb37)), (.bool (D2.wv)), (.bool (D2.sp)), (.bool (D2.sc))] : List Value)), talC t32 hb33 cb34 ab35 lb36 D2.f D2.c D2.L, mapC pb37 (Value.int .i64) propV D2.P, entryC b41 turnV (Value.int .i64) (bumps ((onE (3 * F + 1) ls (startD D0).1 (startD D0).2 k) ++ ((onP (startD D0).2 k) ++ A2).take i)) (⟨x357.kind, x357.round⟩ : Turn) ((lookM (bumps ((onE (3 * F + 1) ls (startD D0).1 (startD D0).2 k) ++ ((onP (startD D0).2 k) ++ A2).take i)) (⟨x357.kind, x357.round⟩ : Turn)).getD (0 : Int)) t377, rowC 45 35 (.slice a2 ((onP (startD D0).2 k) ++ A2).length q2) (((onP (startD D0).2 k) ++ A2).length) (((onP (startD D0).2 k) ++ A2).flatMap encA), cellC b81 57 (([(.int .i64 (x75.doo)), (.int .i64 (x75.kind)), (.int .i64 (x75.round)), (.int .i64 (x75.valid)), (.int .i64 (x75.replica))] : List Value) ++ hc x75.h ++ ([(.bool (x75.ok)), (.bool (x75.raw))] : List Value)), cellC b360 45 (([(.int .i64 (x357.kind)), (.int .i64 (x357.round)), (.int .i64 (x357.valid))] : List Value) ++ hc x357.h)] w378)
                have S380 := H379.pick [0, 1, 2, 3, 4, 6, 7, 8] (by decide)
                refine hK375 _ _ S380 ?_
                clear hK375 K375
                refine h_val 9 rfl (by kernel_rfl) (by kernel_rfl) (by kernel_rfl) (fun _ _ _ h => h) S380 (wants0 rfl) (d := 135) (v := (.int .i64 (t377))) rfl (fun _ H' => (by kernel_rfl)) ?_
                refine h_do 10 rfl (by kernel_rfl) (wants0 rfl) (fun K381 hK381 => ?_)
                refine d_entryStore rfl H379 5 rfl rfl rfl (((lookM (bumps ((onE (3 * F + 1) ls (startD D0).1 (startD D0).2 k) ++ ((onP (startD D0).2 k) ++ A2).take i)) (⟨x357.kind, x357.round⟩ : Turn)).getD 0) + 1) rfl ?_
                intro w382 (H383 : Sat w [restC w (fun _ => False), cellC b6 25 ([(.int .i64 (F)), (.int .i64 (1))] : List Value), cellC k31 92 (([(.int .i64 (D2.f)), (.int .i64 (D2.c)), (.int .i64 (D2.epoch)), (.int .i64 (D2.replica)), (.int .i64 (D2.s.round)), (.int .i64 (D2.s.step)), (.int .i64 (D2.s.lr)), (.int .i64 (D2.s.vr))] : List Value) ++ hc D2.s.locked ++ hc D2.s.valid ++ ([(.bool (D2.s.decided))] : List Value) ++ hc D2.s.decision ++ ([(.pointer (some ⟨t32, 0, none⟩)), (.map (some pb37)), (.bool (D2.wv)), (.bool (D2.sp)), (.bool (D2.sc))] : List Value)), talC t32 hb33 cb34 ab35 lb36 D2.f D2.c D2.L, mapC pb37 (Value.int .i64) propV D2.P, mapC b41 turnV (Value.int .i64) (putM (bumps ((onE (3 * F + 1) ls (startD D0).1 (startD D0).2 k) ++ ((onP (startD D0).2 k) ++ A2).take i)) (⟨x357.kind, x357.round⟩ : Turn) (((lookM (bumps ((onE (3 * F + 1) ls (startD D0).1 (startD D0).2 k) ++ ((onP (startD D0).2 k) ++ A2).take i)) (⟨x357.kind, x357.round⟩ : Turn)).getD 0) + 1)), rowC 45 35 (.slice a2 ((onP (startD D0).2 k) ++ A2).length q2) (((onP (startD D0).2 k) ++ A2).length) (((onP (startD D0).2 k) ++ A2).flatMap encA), cellC b81 57 (([(.int .i64 (x75.doo)), (.int .i64 (x75.kind)), (.int .i64 (x75.round)), (.int .i64 (x75.valid)), (.int .i64 (x75.replica))] : List Value) ++ hc x75.h ++ ([(.bool (x75.ok)), (.bool (x75.raw))] : List Value)), cellC b360 45 (([(.int .i64 (x357.kind)), (.int .i64 (x357.round)), (.int .i64 (x357.valid))] : List Value) ++ hc x357.h)] w382)
                have S384 := H383.pick [0, 1, 2, 3, 4, 6, 7, 8] (by decide)
                refine hK381 _ _ S384 ?_
                clear hK381 K381
                refine h_fin (by kernel_rfl) ?_
                refine then_normal ?_
                refine w_seq ?_
                refine w_lit ?_
                refine wl_pure (wants0 rfl) (d := 136) (v := (.map (some b41))) rfl (by kernel_rfl) ?_
                refine wl_pure (wants0 rfl) (d := 137) (v := (.pointer (some ⟨b360, 0, none⟩))) rfl (by kernel_rfl) ?_
                refine wl_pure (wants0 rfl) (d := 138) (v := (.int .i64 (x357.kind))) rfl (e_load1 rfl (by kernel_rfl) (H383.cell 8 rfl (by kernel_rfl))) ?_
                refine wl_pure (wants0 rfl) (d := 139) (v := (.pointer (some ⟨b360, 1, none⟩))) rfl (by kernel_rfl) ?_
                refine wl_pure (wants0 rfl) (d := 140) (v := (.int .i64 (x357.round))) rfl (e_load1 rfl (by kernel_rfl) (H383.cell 8 rfl (by kernel_rfl))) ?_
                refine wl_pure (wants0 rfl) (d := 141) (v := (.agg ⟨([(.int .i64 (x357.kind)), (.int .i64 (x357.round))] : List Value)⟩)) rfl (by kernel_rfl) ?_
                refine wl_pure (wants0 rfl) (d := 142) (v := (.int .i64 ((lookM (putM (bumps ((onE (3 * F + 1) ls (startD D0).1 (startD D0).2 k) ++ ((onP (startD D0).2 k) ++ A2).take i)) (⟨x357.kind, x357.round⟩ : Turn) (((lookM (bumps ((onE (3 * F + 1) ls (startD D0).1 (startD D0).2 k) ++ ((onP (startD D0).2 k) ++ A2).take i)) (⟨x357.kind, x357.round⟩ : Turn)).getD 0) + 1)) (⟨x357.kind, x357.round⟩ : Turn)).getD 0))) rfl (e_lookup (kt := 66) (et := 3) arr2K (by kernel_rfl) (fun w => by kernel_rfl) rfl (⟨x357.kind, x357.round⟩ : Turn) rfl (H383.at 5 rfl) (optD (Value.int .i64) _ _)) ?_
                refine wl_pure (wants0 rfl) (d := 143) (v := (.bool (decide (((lookM (putM (bumps ((onE (3 * F + 1) ls (startD D0).1 (startD D0).2 k) ++ ((onP (startD D0).2 k) ++ A2).take i)) (⟨x357.kind, x357.round⟩ : Turn) (((lookM (bumps ((onE (3 * F + 1) ls (startD D0).1 (startD D0).2 k) ++ ((onP (startD D0).2 k) ++ A2).take i)) (⟨x357.kind, x357.round⟩ : Turn)).getD 0) + 1)) (⟨x357.kind, x357.round⟩ : Turn)).getD 0) > 1)))) rfl (by kernel_rfl) ?_
                refine wl_pure (wants0 rfl) (d := 144) (v := (.bool (decide (((lookM (putM (bumps ((onE (3 * F + 1) ls (startD D0).1 (startD D0).2 k) ++ ((onP (startD D0).2 k) ++ A2).take i)) (⟨x357.kind, x357.round⟩ : Turn) (((lookM (bumps ((onE (3 * F + 1) ls (startD D0).1 (startD D0).2 k) ++ ((onP (startD D0).2 k) ++ A2).take i)) (⟨x357.kind, x357.round⟩ : Turn)).getD 0) + 1)) (⟨x357.kind, x357.round⟩ : Turn)).getD 0) > 1)))) rfl (by kernel_rfl) ?_
                have b385 : (decide (((lookM (putM (bumps ((onE (3 * F + 1) ls (startD D0).1 (startD D0).2 k) ++ ((onP (startD D0).2 k) ++ A2).take i)) (⟨x357.kind, x357.round⟩ : Turn) (((lookM (bumps ((onE (3 * F + 1) ls (startD D0).1 (startD D0).2 k) ++ ((onP (startD D0).2 k) ++ A2).take i)) (⟨x357.kind, x357.round⟩ : Turn)).getD 0) + 1)) (⟨x357.kind, x357.round⟩ : Turn)).getD 0) > 1)) = false := by (exact decide_eq_false (by omega))
                refine wl_know 144 (.bool false) (congrArg Value.bool b385) ?_
                refine wl_pure (wantsY 8 144 false rfl (by kernel_rfl) rfl (by kernel_rfl)) (d := 145) (v := (.pointer (some ⟨b360, 1, none⟩))) rfl (by kernel_rfl) ?_
                refine wl_pure (wantsY 8 144 false rfl (by kernel_rfl) rfl (by kernel_rfl)) (d := 146) (v := (.int .i64 (x357.round))) rfl (e_load1 rfl (by kernel_rfl) (H383.cell 8 rfl (by kernel_rfl))) ?_
                refine wl_pure (wantsY 8 144 false rfl (by kernel_rfl) rfl (by kernel_rfl)) (d := 147) (v := (.int .i64 (onR (3 * F + 1) ls (startD D0).1 k))) rfl (by kernel_rfl) ?_
                refine wl_pure (wantsY 8 144 false rfl (by kernel_rfl) rfl (by kernel_rfl)) (d := 148) (v := (.bool (decide (x357.round < (onR (3 * F + 1) ls (startD D0).1 k))))) rfl (by kernel_rfl) ?_
                refine wl_pure (wants0 rfl) (d := 149) (v := (.bool (decide (x357.round < (onR (3 * F + 1) ls (startD D0).1 k))))) rfl (by kernel_rfl) ?_
                refine w_nil ?_
                refine then_normal ?_
                have b386 : (decide (x357.round < (onR (3 * F + 1) ls (startD D0).1 k))) = false := by (exact decide_eq_false (by have := hO.rds _ (List.mem_of_getElem? h358) (by intro q5; first | (have q2 := (by assumption : (decide (x357.kind = 1)) = true); rw [q5] at q2; cases q2) | (unfold voteK at hv; omega)); omega))
                refine wp_know 149 (.bool false) (congrArg Value.bool b386) ?_
                have g387 := of_decide_eq_false b386
                refine wp_iff rfl ?_
                refine w_skip ?_
                refine blk_normal ?_
                refine blk_normal ?_
                refine then_normal ?_
                refine w_lit ?_
                refine wl_pure (wants0 rfl) (d := 166) (v := (.int .i64 ((i : Int) + 1))) rfl (e_int (z := (i : Int) + 1) (by kernel_rfl) (IntWalk.i64_in _ (by omega))) ?_
                refine wl_pure (wants0 rfl) (d := 117) (v := (.int .i64 ((i : Int) + 1))) rfl (by kernel_rfl) ?_
                refine w_nil ?_
                have H388 : Sat w [restC w (fun _ => False), cellC b6 25 ([(.int .i64 (F)), (.int .i64 (1))] : List Value), cellC k31 92 (([(.int .i64 (D2.f)), (.int .i64 (D2.c)), (.int .i64 (D2.epoch)), (.int .i64 (D2.replica)), (.int .i64 (D2.s.round)), (.int .i64 (D2.s.step)), (.int .i64 (D2.s.lr)), (.int .i64 (D2.s.vr))] : List Value) ++ hc D2.s.locked ++ hc D2.s.valid ++ ([(.bool (D2.s.decided))] : List Value) ++ hc D2.s.decision ++ ([(.pointer (some ⟨t32, 0, none⟩)), (.map (some pb37)), (.bool (D2.wv)), (.bool (D2.sp)), (.bool (D2.sc))] : List Value)), talC t32 hb33 cb34 ab35 lb36 D2.f D2.c D2.L, mapC pb37 (Value.int .i64) propV D2.P, mapC b41 turnV (Value.int .i64) (bumps ((onE (3 * F + 1) ls (startD D0).1 (startD D0).2 k) ++ ((onP (startD D0).2 k) ++ A2).take (i + 1))), rowC 45 35 (.slice a2 ((onP (startD D0).2 k) ++ A2).length q2) (((onP (startD D0).2 k) ++ A2).length) (((onP (startD D0).2 k) ++ A2).flatMap encA), cellC b81 57 (([(.int .i64 (x75.doo)), (.int .i64 (x75.kind)), (.int .i64 (x75.round)), (.int .i64 (x75.valid)), (.int .i64 (x75.replica))] : List Value) ++ hc x75.h ++ ([(.bool (x75.ok)), (.bool (x75.raw))] : List Value))] w382 := (H383.pick [0, 1, 2, 3, 4, 5, 6, 7] (by decide)).cast (by rw [hbm]; rfl)
                refine round_back ?_ _ ⟨(i + 1), (show ((.int .i64 ((i : Int) + 1)) : Value) = _ by first | rfl | go_num), (by omega), H388, rfl⟩ (by omega)
                exact (same_upd rfl (same_upd rfl (same_upd rfl (same_upd rfl (same_upd rfl (same_upd rfl (same_upd rfl (same_upd rfl (same_upd rfl (same_upd rfl (same_upd rfl (same_upd rfl (same_upd rfl (same_upd rfl (same_upd rfl (same_upd rfl (same_upd rfl (same_upd rfl (same_upd rfl (same_upd rfl (same_upd rfl (same_upd rfl (same_upd rfl (same_upd rfl (same_upd rfl (same_upd rfl (same_upd rfl (same_upd rfl (same_upd rfl (same_upd rfl (same_upd rfl (same_upd rfl (same_upd rfl (same_upd rfl (same_upd rfl (same_upd rfl (same_upd rfl (same_upd rfl (same_upd rfl (same_ovr))))))))))))))))))))))))))))))))))))))))
              · refine d_mapEntry (kt := 66) (et := 3) rfl H371 5 rfl arr2K (by kernel_rfl) (0 : Int) (fun w => by kernel_rfl) rfl (⟨x357.kind, x357.round⟩ : Turn) rfl ?_
                intro v389 t390 w391 (H392 : Sat w [restC w (fun _ => False), cellC b6 25 ([(.int .i64 (F)), (.int .i64 (1))] : List Value), cellC k31 92 (([(.int .i64 (D2.f)), (.int .i64 (D2.c)), (.int .i64 (D2.epoch)), (.int .i64 (D2.replica)), (.int .i64 (D2.s.round)), (.int .i64 (D2.s.step)), (.int .i64 (D2.s.lr)), (.int .i64 (D2.s.vr))] : List Value) ++ hc D2.s.locked ++ hc D2.s.valid ++ ([(.bool (D2.s.decided))] : List Value) ++ hc D2.s.decision ++ ([(.pointer (some ⟨t32, 0, none⟩)), (.map (some pb37)), (.bool (D2.wv)), (.bool (D2.sp)), (.bool (D2.sc))] : List Value)), talC t32 hb33 cb34 ab35 lb36 D2.f D2.c D2.L, mapC pb37 (Value.int .i64) propV D2.P, entryC b41 turnV (Value.int .i64) (bumps ((onE (3 * F + 1) ls (startD D0).1 (startD D0).2 k) ++ ((onP (startD D0).2 k) ++ A2).take i)) (⟨x357.kind, x357.round⟩ : Turn) ((lookM (bumps ((onE (3 * F + 1) ls (startD D0).1 (startD D0).2 k) ++ ((onP (startD D0).2 k) ++ A2).take i)) (⟨x357.kind, x357.round⟩ : Turn)).getD (0 : Int)) t390, rowC 45 35 (.slice a2 ((onP (startD D0).2 k) ++ A2).length q2) (((onP (startD D0).2 k) ++ A2).length) (((onP (startD D0).2 k) ++ A2).flatMap encA), cellC b81 57 (([(.int .i64 (x75.doo)), (.int .i64 (x75.kind)), (.int .i64 (x75.round)), (.int .i64 (x75.valid)), (.int .i64 (x75.replica))] : List Value) ++ hc x75.h ++ ([(.bool (x75.ok)), (.bool (x75.raw))] : List Value)), cellC b360 45 (([(.int .i64 (x357.kind)), (.int .i64 (x357.round)), (.int .i64 (x357.valid))] : List Value) ++ hc x357.h)] w391)
                have S393 := H392.pick [0, 1, 2, 3, 4, 6, 7, 8] (by decide)
                refine hK373 _ _ S393 ?_
                clear hK373 K373
                refine h_val 9 rfl (by kernel_rfl) (by kernel_rfl) (by kernel_rfl) (fun _ _ _ h => h) S393 (wants0 rfl) (d := 135) (v := (.int .i64 (t390))) rfl (fun _ H' => (by kernel_rfl)) ?_
                refine h_do 6 rfl (by kernel_rfl) (wants0 rfl) (fun K394 hK394 => ?_)
                refine d_pure (d := 132) (v := (.int .i64 ((lookM (bumps ((onE (3 * F + 1) ls (startD D0).1 (startD D0).2 k) ++ ((onP (startD D0).2 k) ++ A2).take i)) (⟨x357.kind, x357.round⟩ : Turn)).getD 0))) rfl (e_lookup (kt := 66) (et := 3) arr2K (by kernel_rfl) (fun w => by kernel_rfl) rfl (⟨x357.kind, x357.round⟩ : Turn) rfl (EntryAt.map (H392.at 5 rfl)) (look_put_same' (z := (Value.int .i64) (0 : Int)) _ _ _)) ?_
                have S395 := H392.pick [0, 1, 2, 3, 4, 6, 7, 8] (by decide)
                refine hK394 _ _ S395 ?_
                clear hK394 K394
                refine h_val 7 rfl (by kernel_rfl) (by kernel_rfl) (by kernel_rfl) (fun _ _ _ h => h) S395 (wants0 rfl) (d := 133) (v := (.int .i64 (((lookM (bumps ((onE (3 * F + 1) ls (startD D0).1 (startD D0).2 k) ++ ((onP (startD D0).2 k) ++ A2).take i)) (⟨x357.kind, x357.round⟩ : Turn)).getD 0) + 1))) rfl (fun _ H' => (e_int (z := ((lookM (bumps ((onE (3 * F + 1) ls (startD D0).1 (startD D0).2 k) ++ ((onP (startD D0).2 k) ++ A2).take i)) (⟨x357.kind, x357.round⟩ : Turn)).getD 0) + 1) (by kernel_rfl) (IntWalk.i64_in _ (by omega)))) ?_
                refine h_do 10 rfl (by kernel_rfl) (wants0 rfl) (fun K396 hK396 => ?_)
                refine d_entryStore rfl H392 5 rfl rfl rfl (((lookM (bumps ((onE (3 * F + 1) ls (startD D0).1 (startD D0).2 k) ++ ((onP (startD D0).2 k) ++ A2).take i)) (⟨x357.kind, x357.round⟩ : Turn)).getD 0) + 1) rfl ?_
                intro w397 (H398 : Sat w [restC w (fun _ => False), cellC b6 25 ([(.int .i64 (F)), (.int .i64 (1))] : List Value), cellC k31 92 (([(.int .i64 (D2.f)), (.int .i64 (D2.c)), (.int .i64 (D2.epoch)), (.int .i64 (D2.replica)), (.int .i64 (D2.s.round)), (.int .i64 (D2.s.step)), (.int .i64 (D2.s.lr)), (.int .i64 (D2.s.vr))] : List Value) ++ hc D2.s.locked ++ hc D2.s.valid ++ ([(.bool (D2.s.decided))] : List Value) ++ hc D2.s.decision ++ ([(.pointer (some ⟨t32, 0, none⟩)), (.map (some pb37)), (.bool (D2.wv)), (.bool (D2.sp)), (.bool (D2.sc))] : List Value)), talC t32 hb33 cb34 ab35 lb36 D2.f D2.c D2.L, mapC pb37 (Value.int .i64) propV D2.P, mapC b41 turnV (Value.int .i64) (putM (bumps ((onE (3 * F + 1) ls (startD D0).1 (startD D0).2 k) ++ ((onP (startD D0).2 k) ++ A2).take i)) (⟨x357.kind, x357.round⟩ : Turn) (((lookM (bumps ((onE (3 * F + 1) ls (startD D0).1 (startD D0).2 k) ++ ((onP (startD D0).2 k) ++ A2).take i)) (⟨x357.kind, x357.round⟩ : Turn)).getD 0) + 1)), rowC 45 35 (.slice a2 ((onP (startD D0).2 k) ++ A2).length q2) (((onP (startD D0).2 k) ++ A2).length) (((onP (startD D0).2 k) ++ A2).flatMap encA), cellC b81 57 (([(.int .i64 (x75.doo)), (.int .i64 (x75.kind)), (.int .i64 (x75.round)), (.int .i64 (x75.valid)), (.int .i64 (x75.replica))] : List Value) ++ hc x75.h ++ ([(.bool (x75.ok)), (.bool (x75.raw))] : List Value)), cellC b360 45 (([(.int .i64 (x357.kind)), (.int .i64 (x357.round)), (.int .i64 (x357.valid))] : List Value) ++ hc x357.h)] w397)
                have S399 := H398.pick [0, 1, 2, 3, 4, 6, 7, 8] (by decide)
                refine hK396 _ _ S399 ?_
                clear hK396 K396
                refine h_fin (by kernel_rfl) ?_
                refine then_normal ?_
                refine w_seq ?_
                refine w_lit ?_
                refine wl_pure (wants0 rfl) (d := 136) (v := (.map (some b41))) rfl (by kernel_rfl) ?_
                refine wl_pure (wants0 rfl) (d := 137) (v := (.pointer (some ⟨b360, 0, none⟩))) rfl (by kernel_rfl) ?_
                refine wl_pure (wants0 rfl) (d := 138) (v := (.int .i64 (x357.kind))) rfl (e_load1 rfl (by kernel_rfl) (H398.cell 8 rfl (by kernel_rfl))) ?_
                refine wl_pure (wants0 rfl) (d := 139) (v := (.pointer (some ⟨b360, 1, none⟩))) rfl (by kernel_rfl) ?_
                refine wl_pure (wants0 rfl) (d := 140) (v := (.int .i64 (x357.round))) rfl (e_load1 rfl (by kernel_rfl) (H398.cell 8 rfl (by kernel_rfl))) ?_
                refine wl_pure (wants0 rfl) (d := 141) (v := (.agg ⟨([(.int .i64 (x357.kind)), (.int .i64 (x357.round))] : List Value)⟩)) rfl (by kernel_rfl) ?_
                refine wl_pure (wants0 rfl) (d := 142) (v := (.int .i64 ((lookM (putM (bumps ((onE (3 * F + 1) ls (startD D0).1 (startD D0).2 k) ++ ((onP (startD D0).2 k) ++ A2).take i)) (⟨x357.kind, x357.round⟩ : Turn) (((lookM (bumps ((onE (3 * F + 1) ls (startD D0).1 (startD D0).2 k) ++ ((onP (startD D0).2 k) ++ A2).take i)) (⟨x357.kind, x357.round⟩ : Turn)).getD 0) + 1)) (⟨x357.kind, x357.round⟩ : Turn)).getD 0))) rfl (e_lookup (kt := 66) (et := 3) arr2K (by kernel_rfl) (fun w => by kernel_rfl) rfl (⟨x357.kind, x357.round⟩ : Turn) rfl (H398.at 5 rfl) (optD (Value.int .i64) _ _)) ?_
                refine wl_pure (wants0 rfl) (d := 143) (v := (.bool (decide (((lookM (putM (bumps ((onE (3 * F + 1) ls (startD D0).1 (startD D0).2 k) ++ ((onP (startD D0).2 k) ++ A2).take i)) (⟨x357.kind, x357.round⟩ : Turn) (((lookM (bumps ((onE (3 * F + 1) ls (startD D0).1 (startD D0).2 k) ++ ((onP (startD D0).2 k) ++ A2).take i)) (⟨x357.kind, x357.round⟩ : Turn)).getD 0) + 1)) (⟨x357.kind, x357.round⟩ : Turn)).getD 0) > 1)))) rfl (by kernel_rfl) ?_
                refine wl_pure (wants0 rfl) (d := 144) (v := (.bool (decide (((lookM (putM (bumps ((onE (3 * F + 1) ls (startD D0).1 (startD D0).2 k) ++ ((onP (startD D0).2 k) ++ A2).take i)) (⟨x357.kind, x357.round⟩ : Turn) (((lookM (bumps ((onE (3 * F + 1) ls (startD D0).1 (startD D0).2 k) ++ ((onP (startD D0).2 k) ++ A2).take i)) (⟨x357.kind, x357.round⟩ : Turn)).getD 0) + 1)) (⟨x357.kind, x357.round⟩ : Turn)).getD 0) > 1)))) rfl (by kernel_rfl) ?_
                have b400 : (decide (((lookM (putM (bumps ((onE (3 * F + 1) ls (startD D0).1 (startD D0).2 k) ++ ((onP (startD D0).2 k) ++ A2).take i)) (⟨x357.kind, x357.round⟩ : Turn) (((lookM (bumps ((onE (3 * F + 1) ls (startD D0).1 (startD D0).2 k) ++ ((onP (startD D0).2 k) ++ A2).take i)) (⟨x357.kind, x357.round⟩ : Turn)).getD 0) + 1)) (⟨x357.kind, x357.round⟩ : Turn)).getD 0) > 1)) = false := by (exact decide_eq_false (by omega))
                refine wl_know 144 (.bool false) (congrArg Value.bool b400) ?_
                refine wl_pure (wantsY 8 144 false rfl (by kernel_rfl) rfl (by kernel_rfl)) (d := 145) (v := (.pointer (some ⟨b360, 1, none⟩))) rfl (by kernel_rfl) ?_
                refine wl_pure (wantsY 8 144 false rfl (by kernel_rfl) rfl (by kernel_rfl)) (d := 146) (v := (.int .i64 (x357.round))) rfl (e_load1 rfl (by kernel_rfl) (H398.cell 8 rfl (by kernel_rfl))) ?_
                refine wl_pure (wantsY 8 144 false rfl (by kernel_rfl) rfl (by kernel_rfl)) (d := 147) (v := (.int .i64 (onR (3 * F + 1) ls (startD D0).1 k))) rfl (by kernel_rfl) ?_
                refine wl_pure (wantsY 8 144 false rfl (by kernel_rfl) rfl (by kernel_rfl)) (d := 148) (v := (.bool (decide (x357.round < (onR (3 * F + 1) ls (startD D0).1 k))))) rfl (by kernel_rfl) ?_
                refine wl_pure (wants0 rfl) (d := 149) (v := (.bool (decide (x357.round < (onR (3 * F + 1) ls (startD D0).1 k))))) rfl (by kernel_rfl) ?_
                refine w_nil ?_
                refine then_normal ?_
                have b401 : (decide (x357.round < (onR (3 * F + 1) ls (startD D0).1 k))) = false := by (exact decide_eq_false (by have := hO.rds _ (List.mem_of_getElem? h358) (by intro q5; first | (have q2 := (by assumption : (decide (x357.kind = 1)) = true); rw [q5] at q2; cases q2) | (unfold voteK at hv; omega)); omega))
                refine wp_know 149 (.bool false) (congrArg Value.bool b401) ?_
                have g402 := of_decide_eq_false b401
                refine wp_iff rfl ?_
                refine w_skip ?_
                refine blk_normal ?_
                refine blk_normal ?_
                refine then_normal ?_
                refine w_lit ?_
                refine wl_pure (wants0 rfl) (d := 166) (v := (.int .i64 ((i : Int) + 1))) rfl (e_int (z := (i : Int) + 1) (by kernel_rfl) (IntWalk.i64_in _ (by omega))) ?_
                refine wl_pure (wants0 rfl) (d := 117) (v := (.int .i64 ((i : Int) + 1))) rfl (by kernel_rfl) ?_
                refine w_nil ?_
                have H403 : Sat w [restC w (fun _ => False), cellC b6 25 ([(.int .i64 (F)), (.int .i64 (1))] : List Value), cellC k31 92 (([(.int .i64 (D2.f)), (.int .i64 (D2.c)), (.int .i64 (D2.epoch)), (.int .i64 (D2.replica)), (.int .i64 (D2.s.round)), (.int .i64 (D2.s.step)), (.int .i64 (D2.s.lr)), (.int .i64 (D2.s.vr))] : List Value) ++ hc D2.s.locked ++ hc D2.s.valid ++ ([(.bool (D2.s.decided))] : List Value) ++ hc D2.s.decision ++ ([(.pointer (some ⟨t32, 0, none⟩)), (.map (some pb37)), (.bool (D2.wv)), (.bool (D2.sp)), (.bool (D2.sc))] : List Value)), talC t32 hb33 cb34 ab35 lb36 D2.f D2.c D2.L, mapC pb37 (Value.int .i64) propV D2.P, mapC b41 turnV (Value.int .i64) (bumps ((onE (3 * F + 1) ls (startD D0).1 (startD D0).2 k) ++ ((onP (startD D0).2 k) ++ A2).take (i + 1))), rowC 45 35 (.slice a2 ((onP (startD D0).2 k) ++ A2).length q2) (((onP (startD D0).2 k) ++ A2).length) (((onP (startD D0).2 k) ++ A2).flatMap encA), cellC b81 57 (([(.int .i64 (x75.doo)), (.int .i64 (x75.kind)), (.int .i64 (x75.round)), (.int .i64 (x75.valid)), (.int .i64 (x75.replica))] : List Value) ++ hc x75.h ++ ([(.bool (x75.ok)), (.bool (x75.raw))] : List Value))] w397 := (H398.pick [0, 1, 2, 3, 4, 5, 6, 7] (by decide)).cast (by rw [hbm]; rfl)
                refine round_back ?_ _ ⟨(i + 1), (show ((.int .i64 ((i : Int) + 1)) : Value) = _ by first | rfl | go_num), (by omega), H403, rfl⟩ (by omega)
                exact (same_upd rfl (same_upd rfl (same_upd rfl (same_upd rfl (same_upd rfl (same_upd rfl (same_upd rfl (same_upd rfl (same_upd rfl (same_upd rfl (same_upd rfl (same_upd rfl (same_upd rfl (same_upd rfl (same_upd rfl (same_upd rfl (same_upd rfl (same_upd rfl (same_upd rfl (same_upd rfl (same_upd rfl (same_upd rfl (same_upd rfl (same_upd rfl (same_upd rfl (same_upd rfl (same_upd rfl (same_upd rfl (same_upd rfl (same_upd rfl (same_upd rfl (same_upd rfl (same_upd rfl (same_upd rfl (same_upd rfl (same_upd rfl (same_upd rfl (same_upd rfl (same_upd rfl (same_ovr))))))))))))))))))))))))))))))))))))))))
            · have g404 := of_decide_eq_false b367
              refine wp_know 123 (.bool false) (congrArg Value.bool b367) ?_
              have g405 := of_decide_eq_false b367
              refine wp_iff rfl ?_
              refine w_lit ?_
              refine wl_pure (wants0 rfl) (d := 125) (v := (.bool (decide (x357.kind = 3)))) rfl (by kernel_rfl) ?_
              refine wl_pure (wants0 rfl) (d := 123) (v := (.bool (decide (x357.kind = 3)))) rfl (by kernel_rfl) ?_
              refine w_nil ?_
              refine then_normal ?_
              refine (bsplit (decide (x357.kind = 3))).elim (fun b406 => ?_) (fun b406 => ?_)
              · have g407 := of_decide_eq_true b406
                refine wp_know 123 (.bool true) (congrArg Value.bool b406) ?_
                have g408 := of_decide_eq_true b406
                refine wp_ift rfl ?_
                refine w_seq ?_
                have hv : voteK x357.kind := .inr (of_decide_eq_true b406)
                have hbm : bumps ((onE (3 * F + 1) ls (startD D0).1 (startD D0).2 k) ++ ((onP (startD D0).2 k) ++ A2).take (i + 1)) = putM (bumps ((onE (3 * F + 1) ls (startD D0).1 (startD D0).2 k) ++ ((onP (startD D0).2 k) ++ A2).take i)) (⟨x357.kind, x357.round⟩ : Turn) ((lookM (bumps ((onE (3 * F + 1) ls (startD D0).1 (startD D0).2 k) ++ ((onP (startD D0).2 k) ++ A2).take i)) (⟨x357.kind, x357.round⟩ : Turn)).getD 0 + 1) := by rw [show ((onP (startD D0).2 k) ++ A2).take (i + 1) = ((onP (startD D0).2 k) ++ A2).take i ++ [x357] by rw [List.take_add_one, h358]; rfl, ← List.append_assoc, bumps_snoc]; unfold bumpM; rw [show (decide (x357.kind = 2) || decide (x357.kind = 3)) = true by rcases hv with q | q <;> rw [q] <;> rfl]; rfl
                have hb0 := bumps_look ((onE (3 * F + 1) ls (startD D0).1 (startD D0).2 k) ++ ((onP (startD D0).2 k) ++ A2).take i) (⟨x357.kind, x357.round⟩ : Turn) hv
                have hb1 := bumps_look ((onE (3 * F + 1) ls (startD D0).1 (startD D0).2 k) ++ ((onP (startD D0).2 k) ++ A2).take (i + 1)) (⟨x357.kind, x357.round⟩ : Turn) hv
                have hb2 := Nat.le_trans (cnt_take (onE (3 * F + 1) ls (startD D0).1 (startD D0).2 k) ((onP (startD D0).2 k) ++ A2) (i + 1) x357.kind x357.round) (hO.cnt _ _ hv)
                have hb3 := Nat.le_trans (cnt_take (onE (3 * F + 1) ls (startD D0).1 (startD D0).2 k) ((onP (startD D0).2 k) ++ A2) i x357.kind x357.round) (hO.cnt _ _ hv)
                rw [hbm] at hb1
                dsimp only at hb0 hb1
                refine h_start H365 [restC w (fun _ => False), cellC b6 25 ([(.int .i64 (F)), (.int .i64 (1))] : List Value), cellC k31 92 (([(.int .i64 (D2.f)), (.int .i64 (D2.c)), (.int .i64 (D2.epoch)), (.int .i64 (D2.replica)), (.int .i64 (D2.s.round)), (.int .i64 (D2.s.step)), (.int .i64 (D2.s.lr)), (.int .i64 (D2.s.vr))] : List Value) ++ hc D2.s.locked ++ hc D2.s.valid ++ ([(.bool (D2.s.decided))] : List Value) ++ hc D2.s.decision ++ ([(.pointer (some ⟨t32, 0, none⟩)), (.map (some pb37)), (.bool (D2.wv)), (.bool (D2.sp)), (.bool (D2.sc))] : List Value)), talC t32 hb33 cb34 ab35 lb36 D2.f D2.c D2.L, mapC pb37 (Value.int .i64) propV D2.P, rowC 45 35 (.slice a2 ((onP (startD D0).2 k) ++ A2).length q2) (((onP (startD D0).2 k) ++ A2).length) (((onP (startD D0).2 k) ++ A2).flatMap encA), cellC b81 57 (([(.int .i64 (x75.doo)), (.int .i64 (x75.kind)), (.int .i64 (x75.round)), (.int .i64 (x75.valid)), (.int .i64 (x75.replica))] : List Value) ++ hc x75.h ++ ([(.bool (x75.ok)), (.bool (x75.raw))] : List Value)), cellC b360 45 (([(.int .i64 (x357.kind)), (.int .i64 (x357.round)), (.int .i64 (x357.valid))] : List Value) ++ hc x357.h)] 11 rfl (by kernel_rfl) (fun Hx => (Hx.pick [0, 1, 2, 3, 4, 6, 7, 8] (by decide))) ?_
                intro w409 H410 S411
                refine h_val 0 rfl (by kernel_rfl) (by kernel_rfl) (by kernel_rfl) (fun _ _ _ h => h) S411 (wants0 rfl) (d := 126) (v := (.map (some b41))) rfl (fun _ H' => (by kernel_rfl)) ?_
                refine h_val 1 rfl (by kernel_rfl) (by kernel_rfl) (by kernel_rfl) (fun _ _ _ h => h) S411 (wants0 rfl) (d := 127) (v := (.pointer (some ⟨b360, 0, none⟩))) rfl (fun _ H' => (by kernel_rfl)) ?_
                refine h_val 2 rfl (by kernel_rfl) (by kernel_rfl) (by kernel_rfl) (fun _ _ _ h => h) S411 (wants0 rfl) (d := 128) (v := (.int .i64 (x357.kind))) rfl (fun _ H' => (e_load1 rfl (by kernel_rfl) (H'.cell 7 rfl (by kernel_rfl)))) ?_
                refine h_val 3 rfl (by kernel_rfl) (by kernel_rfl) (by kernel_rfl) (fun _ _ _ h => h) S411 (wants0 rfl) (d := 129) (v := (.pointer (some ⟨b360, 1, none⟩))) rfl (fun _ H' => (by kernel_rfl)) ?_
                refine h_val 4 rfl (by kernel_rfl) (by kernel_rfl) (by kernel_rfl) (fun _ _ _ h => h) S411 (wants0 rfl) (d := 130) (v := (.int .i64 (x357.round))) rfl (fun _ H' => (e_load1 rfl (by kernel_rfl) (H'.cell 7 rfl (by kernel_rfl)))) ?_
                refine h_val 5 rfl (by kernel_rfl) (by kernel_rfl) (by kernel_rfl) (fun _ _ _ h => h) S411 (wants0 rfl) (d := 131) (v := (.agg ⟨([(.int .i64 (x357.kind)), (.int .i64 (x357.round))] : List Value)⟩)) rfl (fun _ H' => (by kernel_rfl)) ?_
                refine h_do2 6 8 rfl rfl (by kernel_rfl) (wants0 rfl) (wants0 rfl) (fun K412 hK412 => ?_) (fun K412 hK412 => ?_)
                · refine d_pure (d := 132) (v := (.int .i64 ((lookM (bumps ((onE (3 * F + 1) ls (startD D0).1 (startD D0).2 k) ++ ((onP (startD D0).2 k) ++ A2).take i)) (⟨x357.kind, x357.round⟩ : Turn)).getD 0))) rfl (e_lookup (kt := 66) (et := 3) arr2K (by kernel_rfl) (fun w => by kernel_rfl) rfl (⟨x357.kind, x357.round⟩ : Turn) rfl (H410.at 5 rfl) (optD (Value.int .i64) _ _)) ?_
                  have S413 := H410.pick [0, 1, 2, 3, 4, 6, 7, 8] (by decide)
                  refine hK412 _ _ S413 ?_
                  clear hK412 K412
                  refine h_val 7 rfl (by kernel_rfl) (by kernel_rfl) (by kernel_rfl) (fun _ _ _ h => h) S413 (wants0 rfl) (d := 133) (v := (.int .i64 (((lookM (bumps ((onE (3 * F + 1) ls (startD D0).1 (startD D0).2 k) ++ ((onP (startD D0).2 k) ++ A2).take i)) (⟨x357.kind, x357.round⟩ : Turn)).getD 0) + 1))) rfl (fun _ H' => (e_int (z := ((lookM (bumps ((onE (3 * F + 1) ls (startD D0).1 (startD D0).2 k) ++ ((onP (startD D0).2 k) ++ A2).take i)) (⟨x357.kind, x357.round⟩ : Turn)).getD 0) + 1) (by kernel_rfl) (IntWalk.i64_in _ (by omega)))) ?_
                  refine h_do 8 rfl (by kernel_rfl) (wants0 rfl) (fun K414 hK414 => ?_)
                  refine d_mapEntry (kt := 66) (et := 3) rfl H410 5 rfl arr2K (by kernel_rfl) (0 : Int) (fun w => by kernel_rfl) rfl (⟨x357.kind, x357.round⟩ : Turn) rfl ?_
                  intro v415 t416 w417 (H418 : Sat w [restC w (fun _ => False), cellC b6 25 ([(.int .i64 (F)), (.int .i64 (1))] : List Value), cellC k31 92 (([(.int .i64 (D2.f)), (.int .i64 (D2.c)), (.int .i64 (D2.epoch)), (.int .i64 (D2.replica)), (.int .i64 (D2.s.round)), (.int .i64 (D2.s.step)), (.int .i64 (D2.s.lr)), (.int .i64 (D2.s.vr))] : List Value) ++ hc D2.s.locked ++ hc D2.s.valid ++ ([(.bool (D2.s.decided))] : List Value) ++ hc D2.s.decision ++ ([(.pointer (some ⟨t32, 0, none⟩)), (.map (some pb37)), (.bool (D2.wv)), (.bool (D2.sp)), (.bool (D2.sc))] : List Value)), talC t32 hb33 cb34 ab35 lb36 D2.f D2.c D2.L, mapC pb37 (Value.int .i64) propV D2.P, entryC b41 turnV (Value.int .i64) (bumps ((onE (3 * F + 1) ls (startD D0).1 (startD D0).2 k) ++ ((onP (startD D0).2 k) ++ A2).take i)) (⟨x357.kind, x357.round⟩ : Turn) ((lookM (bumps ((onE (3 * F + 1) ls (startD D0).1 (startD D0).2 k) ++ ((onP (startD D0).2 k) ++ A2).take i)) (⟨x357.kind, x357.round⟩ : Turn)).getD (0 : Int)) t416, rowC 45 35 (.slice a2 ((onP (startD D0).2 k) ++ A2).length q2) (((onP (startD D0).2 k) ++ A2).length) (((onP (startD D0).2 k) ++ A2).flatMap encA), cellC b81 57 (([(.int .i64 (x75.doo)), (.int .i64 (x75.kind)), (.int .i64 (x75.round)), (.int .i64 (x75.valid)), (.int .i64 (x75.replica))] : List Value) ++ hc x75.h ++ ([(.bool (x75.ok)), (.bool (x75.raw))] : List Value)), cellC b360 45 (([(.int .i64 (x357.kind)), (.int .i64 (x357.round)), (.int .i64 (x357.valid))] : List Value) ++ hc x357.h)] w417)
                  have S419 := H418.pick [0, 1, 2, 3, 4, 6, 7, 8] (by decide)
                  refine hK414 _ _ S419 ?_
                  clear hK414 K414
                  refine h_val 9 rfl (by kernel_rfl) (by kernel_rfl) (by kernel_rfl) (fun _ _ _ h => h) S419 (wants0 rfl) (d := 135) (v := (.int .i64 (t416))) rfl (fun _ H' => (by kernel_rfl)) ?_
                  refine h_do 10 rfl (by kernel_rfl) (wants0 rfl) (fun K420 hK420 => ?_)
                  refine d_entryStore rfl H418 5 rfl rfl rfl (((lookM (bumps ((onE (3 * F + 1) ls (startD D0).1 (startD D0).2 k) ++ ((onP (startD D0).2 k) ++ A2).take i)) (⟨x357.kind, x357.round⟩ : Turn)).getD 0) + 1) rfl ?_
                  intro w421 (H422 : Sat w [restC w (fun _ => False), cellC b6 25 ([(.int .i64 (F)), (.int .i64 (1))] : List Value), cellC k31 92 (([(.int .i64 (D2.f)), (.int .i64 (D2.c)), (.int .i64 (D2.epoch)), (.int .i64 (D2.replica)), (.int .i64 (D2.s.round)), (.int .i64 (D2.s.step)), (.int .i64 (D2.s.lr)), (.int .i64 (D2.s.vr))] : List Value) ++ hc D2.s.locked ++ hc D2.s.valid ++ ([(.bool (D2.s.decided))] : List Value) ++ hc D2.s.decision ++ ([(.pointer (some ⟨t32, 0, none⟩)), (.map (some pb37)), (.bool (D2.wv)), (.bool (D2.sp)), (.bool (D2.sc))] : List Value)), talC t32 hb33 cb34 ab35 lb36 D2.f D2.c D2.L, mapC pb37 (Value.int .i64) propV D2.P, mapC b41 turnV (Value.int .i64) (putM (bumps ((onE (3 * F + 1) ls (startD D0).1 (startD D0).2 k) ++ ((onP (startD D0).2 k) ++ A2).take i)) (⟨x357.kind, x357.round⟩ : Turn) (((lookM (bumps ((onE (3 * F + 1) ls (startD D0).1 (startD D0).2 k) ++ ((onP (startD D0).2 k) ++ A2).take i)) (⟨x357.kind, x357.round⟩ : Turn)).getD 0) + 1)), rowC 45 35 (.slice a2 ((onP (startD D0).2 k) ++ A2).length q2) (((onP (startD D0).2 k) ++ A2).length) (((onP (startD D0).2 k) ++ A2).flatMap encA), cellC b81 57 (([(.int .i64 (x75.doo)), (.int .i64 (x75.kind)), (.int .i64 (x75.round)), (.int .i64 (x75.valid)), (.int .i64 (x75.replica))] : List Value) ++ hc x75.h ++ ([(.bool (x75.ok)), (.bool (x75.raw))] : List Value)), cellC b360 45 (([(.int .i64 (x357.kind)), (.int .i64 (x357.round)), (.int .i64 (x357.valid))] : List Value) ++ hc x357.h)] w421)
                  have S423 := H422.pick [0, 1, 2, 3, 4, 6, 7, 8] (by decide)
                  refine hK420 _ _ S423 ?_
                  clear hK420 K420
                  refine h_fin (by kernel_rfl) ?_
                  refine then_normal ?_
                  refine w_seq ?_
                  refine w_lit ?_
                  refine wl_pure (wants0 rfl) (d := 136) (v := (.map (some b41))) rfl (by kernel_rfl) ?_
                  refine wl_pure (wants0 rfl) (d := 137) (v := (.pointer (some ⟨b360, 0, none⟩))) rfl (by kernel_rfl) ?_
                  refine wl_pure (wants0 rfl) (d := 138) (v := (.int .i64 (x357.kind))) rfl (e_load1 rfl (by kernel_rfl) (H422.cell 8 rfl (by kernel_rfl))) ?_
                  refine wl_pure (wants0 rfl) (d := 139) (v := (.pointer (some ⟨b360, 1, none⟩))) rfl (by kernel_rfl) ?_
                  refine wl_pure (wants0 rfl) (d := 140) (v := (.int .i64 (x357.round))) rfl (e_load1 rfl (by kernel_rfl) (H422.cell 8 rfl (by kernel_rfl))) ?_
                  refine wl_pure (wants0 rfl) (d := 141) (v := (.agg ⟨([(.int .i64 (x357.kind)), (.int .i64 (x357.round))] : List Value)⟩)) rfl (by kernel_rfl) ?_
                  refine wl_pure (wants0 rfl) (d := 142) (v := (.int .i64 ((lookM (putM (bumps ((onE (3 * F + 1) ls (startD D0).1 (startD D0).2 k) ++ ((onP (startD D0).2 k) ++ A2).take i)) (⟨x357.kind, x357.round⟩ : Turn) (((lookM (bumps ((onE (3 * F + 1) ls (startD D0).1 (startD D0).2 k) ++ ((onP (startD D0).2 k) ++ A2).take i)) (⟨x357.kind, x357.round⟩ : Turn)).getD 0) + 1)) (⟨x357.kind, x357.round⟩ : Turn)).getD 0))) rfl (e_lookup (kt := 66) (et := 3) arr2K (by kernel_rfl) (fun w => by kernel_rfl) rfl (⟨x357.kind, x357.round⟩ : Turn) rfl (H422.at 5 rfl) (optD (Value.int .i64) _ _)) ?_
                  refine wl_pure (wants0 rfl) (d := 143) (v := (.bool (decide (((lookM (putM (bumps ((onE (3 * F + 1) ls (startD D0).1 (startD D0).2 k) ++ ((onP (startD D0).2 k) ++ A2).take i)) (⟨x357.kind, x357.round⟩ : Turn) (((lookM (bumps ((onE (3 * F + 1) ls (startD D0).1 (startD D0).2 k) ++ ((onP (startD D0).2 k) ++ A2).take i)) (⟨x357.kind, x357.round⟩ : Turn)).getD 0) + 1)) (⟨x357.kind, x357.round⟩ : Turn)).getD 0) > 1)))) rfl (by kernel_rfl) ?_
                  refine wl_pure (wants0 rfl) (d := 144) (v := (.bool (decide (((lookM (putM (bumps ((onE (3 * F + 1) ls (startD D0).1 (startD D0).2 k) ++ ((onP (startD D0).2 k) ++ A2).take i)) (⟨x357.kind, x357.round⟩ : Turn) (((lookM (bumps ((onE (3 * F + 1) ls (startD D0).1 (startD D0).2 k) ++ ((onP (startD D0).2 k) ++ A2).take i)) (⟨x357.kind, x357.round⟩ : Turn)).getD 0) + 1)) (⟨x357.kind, x357.round⟩ : Turn)).getD 0) > 1)))) rfl (by kernel_rfl) ?_
                  have b424 : (decide (((lookM (putM (bumps ((onE (3 * F + 1) ls (startD D0).1 (startD D0).2 k) ++ ((onP (startD D0).2 k) ++ A2).take i)) (⟨x357.kind, x357.round⟩ : Turn) (((lookM (bumps ((onE (3 * F + 1) ls (startD D0).1 (startD D0).2 k) ++ ((onP (startD D0).2 k) ++ A2).take i)) (⟨x357.kind, x357.round⟩ : Turn)).getD 0) + 1)) (⟨x357.kind, x357.round⟩ : Turn)).getD 0) > 1)) = false := by (exact decide_eq_false (by omega))
                  refine wl_know 144 (.bool false) (congrArg Value.bool b424) ?_
                  refine wl_pure (wantsY 8 144 false rfl (by kernel_rfl) rfl (by kernel_rfl)) (d := 145) (v := (.pointer (some ⟨b360, 1, none⟩))) rfl (by kernel_rfl) ?_
                  refine wl_pure (wantsY 8 144 false rfl (by kernel_rfl) rfl (by kernel_rfl)) (d := 146) (v := (.int .i64 (x357.round))) rfl (e_load1 rfl (by kernel_rfl) (H422.cell 8 rfl (by kernel_rfl))) ?_
                  refine wl_pure (wantsY 8 144 false rfl (by kernel_rfl) rfl (by kernel_rfl)) (d := 147) (v := (.int .i64 (onR (3 * F + 1) ls (startD D0).1 k))) rfl (by kernel_rfl) ?_
                  refine wl_pure (wantsY 8 144 false rfl (by kernel_rfl) rfl (by kernel_rfl)) (d := 148) (v := (.bool (decide (x357.round < (onR (3 * F + 1) ls (startD D0).1 k))))) rfl (by kernel_rfl) ?_
                  refine wl_pure (wants0 rfl) (d := 149) (v := (.bool (decide (x357.round < (onR (3 * F + 1) ls (startD D0).1 k))))) rfl (by kernel_rfl) ?_
                  refine w_nil ?_
                  refine then_normal ?_
                  have b425 : (decide (x357.round < (onR (3 * F + 1) ls (startD D0).1 k))) = false := by (exact decide_eq_false (by have := hO.rds _ (List.mem_of_getElem? h358) (by intro q5; first | (have q2 := (by assumption : (decide (x357.kind = 1)) = true); rw [q5] at q2; cases q2) | (unfold voteK at hv; omega)); omega))
                  refine wp_know 149 (.bool false) (congrArg Value.bool b425) ?_
                  have g426 := of_decide_eq_false b425
                  refine wp_iff rfl ?_
                  refine w_skip ?_
                  refine blk_normal ?_
                  refine blk_normal ?_
                  refine then_normal ?_
                  refine w_lit ?_
                  refine wl_pure (wants0 rfl) (d := 166) (v := (.int .i64 ((i : Int) + 1))) rfl (e_int (z := (i : Int) + 1) (by kernel_rfl) (IntWalk.i64_in _ (by omega))) ?_
                  refine wl_pure (wants0 rfl) (d := 117) (v := (.int .i64 ((i : Int) + 1))) rfl (by kernel_rfl) ?_
                  refine w_nil ?_
                  have H427 : Sat w [restC w (fun _ => False), cellC b6 25 ([(.int .i64 (F)), (.int .i64 (1))] : List Value), cellC k31 92 (([(.int .i64 (D2.f)), (.int .i64 (D2.c)), (.int .i64 (D2.epoch)), (.int .i64 (D2.replica)), (.int .i64 (D2.s.round)), (.int .i64 (D2.s.step)), (.int .i64 (D2.s.lr)), (.int .i64 (D2.s.vr))] : List Value) ++ hc D2.s.locked ++ hc D2.s.valid ++ ([(.bool (D2.s.decided))] : List Value) ++ hc D2.s.decision ++ ([(.pointer (some ⟨t32, 0, none⟩)), (.map (some pb37)), (.bool (D2.wv)), (.bool (D2.sp)), (.bool (D2.sc))] : List Value)), talC t32 hb33 cb34 ab35 lb36 D2.f D2.c D2.L, mapC pb37 (Value.int .i64) propV D2.P, mapC b41 turnV (Value.int .i64) (bumps ((onE (3 * F + 1) ls (startD D0).1 (startD D0).2 k) ++ ((onP (startD D0).2 k) ++ A2).take (i + 1))), rowC 45 35 (.slice a2 ((onP (startD D0).2 k) ++ A2).length q2) (((onP (startD D0).2 k) ++ A2).length) (((onP (startD D0).2 k) ++ A2).flatMap encA), cellC b81 57 (([(.int .i64 (x75.doo)), (.int .i64 (x75.kind)), (.int .i64 (x75.round)), (.int .i64 (x75.valid)), (.int .i64 (x75.replica))] : List Value) ++ hc x75.h ++ ([(.bool (x75.ok)), (.bool (x75.raw))] : List Value))] w421 := (H422.pick [0, 1, 2, 3, 4, 5, 6, 7] (by decide)).cast (by rw [hbm]; rfl)
                  refine round_back ?_ _ ⟨(i + 1), (show ((.int .i64 ((i : Int) + 1)) : Value) = _ by first | rfl | go_num), (by omega), H427, rfl⟩ (by omega)
                  exact (same_upd rfl (same_upd rfl (same_upd rfl (same_upd rfl (same_upd rfl (same_upd rfl (same_upd rfl (same_upd rfl (same_upd rfl (same_upd rfl (same_upd rfl (same_upd rfl (same_upd rfl (same_upd rfl (same_upd rfl (same_upd rfl (same_upd rfl (same_upd rfl (same_upd rfl (same_upd rfl (same_upd rfl (same_upd rfl (same_upd rfl (same_upd rfl (same_upd rfl (same_upd rfl (same_upd rfl (same_upd rfl (same_upd rfl (same_upd rfl (same_upd rfl (same_upd rfl (same_upd rfl (same_upd rfl (same_upd rfl (same_upd rfl (same_upd rfl (same_upd rfl (same_upd rfl (same_upd rfl (same_upd rfl (same_upd rfl (same_ovr)))))))))))))))))))))))))))))))))))))))))))
                · refine d_mapEntry (kt := 66) (et := 3) rfl H410 5 rfl arr2K (by kernel_rfl) (0 : Int) (fun w => by kernel_rfl) rfl (⟨x357.kind, x357.round⟩ : Turn) rfl ?_
                  intro v428 t429 w430 (H431 : Sat w [restC w (fun _ => False), cellC b6 25 ([(.int .i64 (F)), (.int .i64 (1))] : List Value), cellC k31 92 (([(.int .i64 (D2.f)), (.int .i64 (D2.c)), (.int .i64 (D2.epoch)), (.int .i64 (D2.replica)), (.int .i64 (D2.s.round)), (.int .i64 (D2.s.step)), (.int .i64 (D2.s.lr)), (.int .i64 (D2.s.vr))] : List Value) ++ hc D2.s.locked ++ hc D2.s.valid ++ ([(.bool (D2.s.decided))] : List Value) ++ hc D2.s.decision ++ ([(.pointer (some ⟨t32, 0, none⟩)), (.map (some pb37)), (.bool (D2.wv)), (.bool (D2.sp)), (.bool (D2.sc))] : List Value)), talC t32 hb33 cb34 ab35 lb36 D2.f D2.c D2.L, mapC pb37 (Value.int .i64) propV D2.P, entryC b41 turnV (Value.int .i64) (bumps ((onE (3 * F + 1) ls (startD D0).1 (startD D0).2 k) ++ ((onP (startD D0).2 k) ++ A2).take i)) (⟨x357.kind, x357.round⟩ : Turn) ((lookM (bumps ((onE (3 * F + 1) ls (startD D0).1 (startD D0).2 k) ++ ((onP (startD D0).2 k) ++ A2).take i)) (⟨x357.kind, x357.round⟩ : Turn)).getD (0 : Int)) t429, rowC 45 35 (.slice a2 ((onP (startD D0).2 k) ++ A2).length q2) (((onP (startD D0).2 k) ++ A2).length) (((onP (startD D0).2 k) ++ A2).flatMap encA), cellC b81 57 (([(.int .i64 (x75.doo)), (.int .i64 (x75.kind)), (.int .i64 (x75.round)), (.int .i64 (x75.valid)), (.int .i64 (x75.replica))] : List Value) ++ hc x75.h ++ ([(.bool (x75.ok)), (.bool (x75.raw))] : List Value)), cellC b360 45 (([(.int .i64 (x357.kind)), (.int .i64 (x357.round)), (.int .i64 (x357.valid))] : List Value) ++ hc x357.h)] w430)
                  have S432 := H431.pick [0, 1, 2, 3, 4, 6, 7, 8] (by decide)
                  refine hK412 _ _ S432 ?_
                  clear hK412 K412
                  refine h_val 9 rfl (by kernel_rfl) (by kernel_rfl) (by kernel_rfl) (fun _ _ _ h => h) S432 (wants0 rfl) (d := 135) (v := (.int .i64 (t429))) rfl (fun _ H' => (by kernel_rfl)) ?_
                  refine h_do 6 rfl (by kernel_rfl) (wants0 rfl) (fun K433 hK433 => ?_)
                  refine d_pure (d := 132) (v := (.int .i64 ((lookM (bumps ((onE (3 * F + 1) ls (startD D0).1 (startD D0).2 k) ++ ((onP (startD D0).2 k) ++ A2).take i)) (⟨x357.kind, x357.round⟩ : Turn)).getD 0))) rfl (e_lookup (kt := 66) (et := 3) arr2K (by kernel_rfl) (fun w => by kernel_rfl) rfl (⟨x357.kind, x357.round⟩ : Turn) rfl (EntryAt.map (H431.at 5 rfl)) (look_put_same' (z := (Value.int .i64) (0 : Int)) _ _ _)) ?_
                  have S434 := H431.pick [0, 1, 2, 3, 4, 6, 7, 8] (by decide)
                  refine hK433 _ _ S434 ?_
                  clear hK433 K433
                  refine h_val 7 rfl (by kernel_rfl) (by kernel_rfl) (by kernel_rfl) (fun _ _ _ h => h) S434 (wants0 rfl) (d := 133) (v := (.int .i64 (((lookM (bumps ((onE (3 * F + 1) ls (startD D0).1 (startD D0).2 k) ++ ((onP (startD D0).2 k) ++ A2).take i)) (⟨x357.kind, x357.round⟩ : Turn)).getD 0) + 1))) rfl (fun _ H' => (e_int (z := ((lookM (bumps ((onE (3 * F + 1) ls (startD D0).1 (startD D0).2 k) ++ ((onP (startD D0).2 k) ++ A2).take i)) (⟨x357.kind, x357.round⟩ : Turn)).getD 0) + 1) (by kernel_rfl) (IntWalk.i64_in _ (by omega)))) ?_
                  refine h_do 10 rfl (by kernel_rfl) (wants0 rfl) (fun K435 hK435 => ?_)
                  refine d_entryStore rfl H431 5 rfl rfl rfl (((lookM (bumps ((onE (3 * F + 1) ls (startD D0).1 (startD D0).2 k) ++ ((onP (startD D0).2 k) ++ A2).take i)) (⟨x357.kind, x357.round⟩ : Turn)).getD 0) + 1) rfl ?_
                  intro w436 (H437 : Sat w [restC w (fun _ => False), cellC b6 25 ([(.int .i64 (F)), (.int .i64 (1))] : List Value), cellC k31 92 (([(.int .i64 (D2.f)), (.int .i64 (D2.c)), (.int .i64 (D2.epoch)), (.int .i64 (D2.replica)), (.int .i64 (D2.s.round)), (.int .i64 (D2.s.step)), (.int .i64 (D2.s.lr)), (.int .i64 (D2.s.vr))] : List Value) ++ hc D2.s.locked ++ hc D2.s.valid ++ ([(.bool (D2.s.decided))] : List Value) ++ hc D2.s.decision ++ ([(.pointer (some ⟨t32, 0, none⟩)), (.map (some pb37)), (.bool (D2.wv)), (.bool (D2.sp)), (.bool (D2.sc))] : List Value)), talC t32 hb33 cb34 ab35 lb36 D2.f D2.c D2.L, mapC pb37 (Value.int .i64) propV D2.P, mapC b41 turnV (Value.int .i64) (putM (bumps ((onE (3 * F + 1) ls (startD D0).1 (startD D0).2 k) ++ ((onP (startD D0).2 k) ++ A2).take i)) (⟨x357.kind, x357.round⟩ : Turn) (((lookM (bumps ((onE (3 * F + 1) ls (startD D0).1 (startD D0).2 k) ++ ((onP (startD D0).2 k) ++ A2).take i)) (⟨x357.kind, x357.round⟩ : Turn)).getD 0) + 1)), rowC 45 35 (.slice a2 ((onP (startD D0).2 k) ++ A2).length q2) (((onP (startD D0).2 k) ++ A2).length) (((onP (startD D0).2 k) ++ A2).flatMap encA), cellC b81 57 (([(.int .i64 (x75.doo)), (.int .i64 (x75.kind)), (.int .i64 (x75.round)), (.int .i64 (x75.valid)), (.int .i64 (x75.replica))] : List Value) ++ hc x75.h ++ ([(.bool (x75.ok)), (.bool (x75.raw))] : List Value)), cellC b360 45 (([(.int .i64 (x357.kind)), (.int .i64 (x357.round)), (.int .i64 (x357.valid))] : List Value) ++ hc x357.h)] w436)
                  have S438 := H437.pick [0, 1, 2, 3, 4, 6, 7, 8] (by decide)
                  refine hK435 _ _ S438 ?_
                  clear hK435 K435
                  refine h_fin (by kernel_rfl) ?_
                  refine then_normal ?_
                  refine w_seq ?_
                  refine w_lit ?_
                  refine wl_pure (wants0 rfl) (d := 136) (v := (.map (some b41))) rfl (by kernel_rfl) ?_
                  refine wl_pure (wants0 rfl) (d := 137) (v := (.pointer (some ⟨b360, 0, none⟩))) rfl (by kernel_rfl) ?_
                  refine wl_pure (wants0 rfl) (d := 138) (v := (.int .i64 (x357.kind))) rfl (e_load1 rfl (by kernel_rfl) (H437.cell 8 rfl (by kernel_rfl))) ?_
                  refine wl_pure (wants0 rfl) (d := 139) (v := (.pointer (some ⟨b360, 1, none⟩))) rfl (by kernel_rfl) ?_
                  refine wl_pure (wants0 rfl) (d := 140) (v := (.int .i64 (x357.round))) rfl (e_load1 rfl (by kernel_rfl) (H437.cell 8 rfl (by kernel_rfl))) ?_
                  refine wl_pure (wants0 rfl) (d := 141) (v := (.agg ⟨([(.int .i64 (x357.kind)), (.int .i64 (x357.round))] : List Value)⟩)) rfl (by kernel_rfl) ?_
                  refine wl_pure (wants0 rfl) (d := 142) (v := (.int .i64 ((lookM (putM (bumps ((onE (3 * F + 1) ls (startD D0).1 (startD D0).2 k) ++ ((onP (startD D0).2 k) ++ A2).take i)) (⟨x357.kind, x357.round⟩ : Turn) (((lookM (bumps ((onE (3 * F + 1) ls (startD D0).1 (startD D0).2 k) ++ ((onP (startD D0).2 k) ++ A2).take i)) (⟨x357.kind, x357.round⟩ : Turn)).getD 0) + 1)) (⟨x357.kind, x357.round⟩ : Turn)).getD 0))) rfl (e_lookup (kt := 66) (et := 3) arr2K (by kernel_rfl) (fun w => by kernel_rfl) rfl (⟨x357.kind, x357.round⟩ : Turn) rfl (H437.at 5 rfl) (optD (Value.int .i64) _ _)) ?_
                  refine wl_pure (wants0 rfl) (d := 143) (v := (.bool (decide (((lookM (putM (bumps ((onE (3 * F + 1) ls (startD D0).1 (startD D0).2 k) ++ ((onP (startD D0).2 k) ++ A2).take i)) (⟨x357.kind, x357.round⟩ : Turn) (((lookM (bumps ((onE (3 * F + 1) ls (startD D0).1 (startD D0).2 k) ++ ((onP (startD D0).2 k) ++ A2).take i)) (⟨x357.kind, x357.round⟩ : Turn)).getD 0) + 1)) (⟨x357.kind, x357.round⟩ : Turn)).getD 0) > 1)))) rfl (by kernel_rfl) ?_
                  refine wl_pure (wants0 rfl) (d := 144) (v := (.bool (decide (((lookM (putM (bumps ((onE (3 * F + 1) ls (startD D0).1 (startD D0).2 k) ++ ((onP (startD D0).2 k) ++ A2).take i)) (⟨x357.kind, x357.round⟩ : Turn) (((lookM (bumps ((onE (3 * F + 1) ls (startD D0).1 (startD D0).2 k) ++ ((onP (startD D0).2 k) ++ A2).take i)) (⟨x357.kind, x357.round⟩ : Turn)).getD 0) + 1)) (⟨x357.kind, x357.round⟩ : Turn)).getD 0) > 1)))) rfl (by kernel_rfl) ?_
                  have b439 : (decide (((lookM (putM (bumps ((onE (3 * F + 1) ls (startD D0).1 (startD D0).2 k) ++ ((onP (startD D0).2 k) ++ A2).take i)) (⟨x357.kind, x357.round⟩ : Turn) (((lookM (bumps ((onE (3 * F + 1) ls (startD D0).1 (startD D0).2 k) ++ ((onP (startD D0).2 k) ++ A2).take i)) (⟨x357.kind, x357.round⟩ : Turn)).getD 0) + 1)) (⟨x357.kind, x357.round⟩ : Turn)).getD 0) > 1)) = false := by (exact decide_eq_false (by omega))
                  refine wl_know 144 (.bool false) (congrArg Value.bool b439) ?_
                  refine wl_pure (wantsY 8 144 false rfl (by kernel_rfl) rfl (by kernel_rfl)) (d := 145) (v := (.pointer (some ⟨b360, 1, none⟩))) rfl (by kernel_rfl) ?_
                  refine wl_pure (wantsY 8 144 false rfl (by kernel_rfl) rfl (by kernel_rfl)) (d := 146) (v := (.int .i64 (x357.round))) rfl (e_load1 rfl (by kernel_rfl) (H437.cell 8 rfl (by kernel_rfl))) ?_
                  refine wl_pure (wantsY 8 144 false rfl (by kernel_rfl) rfl (by kernel_rfl)) (d := 147) (v := (.int .i64 (onR (3 * F + 1) ls (startD D0).1 k))) rfl (by kernel_rfl) ?_
                  refine wl_pure (wantsY 8 144 false rfl (by kernel_rfl) rfl (by kernel_rfl)) (d := 148) (v := (.bool (decide (x357.round < (onR (3 * F + 1) ls (startD D0).1 k))))) rfl (by kernel_rfl) ?_
                  refine wl_pure (wants0 rfl) (d := 149) (v := (.bool (decide (x357.round < (onR (3 * F + 1) ls (startD D0).1 k))))) rfl (by kernel_rfl) ?_
                  refine w_nil ?_
                  refine then_normal ?_
                  have b440 : (decide (x357.round < (onR (3 * F + 1) ls (startD D0).1 k))) = false := by (exact decide_eq_false (by have := hO.rds _ (List.mem_of_getElem? h358) (by intro q5; first | (have q2 := (by assumption : (decide (x357.kind = 1)) = true); rw [q5] at q2; cases q2) | (unfold voteK at hv; omega)); omega))
                  refine wp_know 149 (.bool false) (congrArg Value.bool b440) ?_
                  have g441 := of_decide_eq_false b440
                  refine wp_iff rfl ?_
                  refine w_skip ?_
                  refine blk_normal ?_
                  refine blk_normal ?_
                  refine then_normal ?_
                  refine w_lit ?_
                  refine wl_pure (wants0 rfl) (d := 166) (v := (.int .i64 ((i : Int) + 1))) rfl (e_int (z := (i : Int) + 1) (by kernel_rfl) (IntWalk.i64_in _ (by omega))) ?_
                  refine wl_pure (wants0 rfl) (d := 117) (v := (.int .i64 ((i : Int) + 1))) rfl (by kernel_rfl) ?_
                  refine w_nil ?_
                  have H442 : Sat w [restC w (fun _ => False), cellC b6 25 ([(.int .i64 (F)), (.int .i64 (1))] : List Value), cellC k31 92 (([(.int .i64 (D2.f)), (.int .i64 (D2.c)), (.int .i64 (D2.epoch)), (.int .i64 (D2.replica)), (.int .i64 (D2.s.round)), (.int .i64 (D2.s.step)), (.int .i64 (D2.s.lr)), (.int .i64 (D2.s.vr))] : List Value) ++ hc D2.s.locked ++ hc D2.s.valid ++ ([(.bool (D2.s.decided))] : List Value) ++ hc D2.s.decision ++ ([(.pointer (some ⟨t32, 0, none⟩)), (.map (some pb37)), (.bool (D2.wv)), (.bool (D2.sp)), (.bool (D2.sc))] : List Value)), talC t32 hb33 cb34 ab35 lb36 D2.f D2.c D2.L, mapC pb37 (Value.int .i64) propV D2.P, mapC b41 turnV (Value.int .i64) (bumps ((onE (3 * F + 1) ls (startD D0).1 (startD D0).2 k) ++ ((onP (startD D0).2 k) ++ A2).take (i + 1))), rowC 45 35 (.slice a2 ((onP (startD D0).2 k) ++ A2).length q2) (((onP (startD D0).2 k) ++ A2).length) (((onP (startD D0).2 k) ++ A2).flatMap encA), cellC b81 57 (([(.int .i64 (x75.doo)), (.int .i64 (x75.kind)), (.int .i64 (x75.round)), (.int .i64 (x75.valid)), (.int .i64 (x75.replica))] : List Value) ++ hc x75.h ++ ([(.bool (x75.ok)), (.bool (x75.raw))] : List Value))] w436 := (H437.pick [0, 1, 2, 3, 4, 5, 6, 7] (by decide)).cast (by rw [hbm]; rfl)
                  refine round_back ?_ _ ⟨(i + 1), (show ((.int .i64 ((i : Int) + 1)) : Value) = _ by first | rfl | go_num), (by omega), H442, rfl⟩ (by omega)
                  exact (same_upd rfl (same_upd rfl (same_upd rfl (same_upd rfl (same_upd rfl (same_upd rfl (same_upd rfl (same_upd rfl (same_upd rfl (same_upd rfl (same_upd rfl (same_upd rfl (same_upd rfl (same_upd rfl (same_upd rfl (same_upd rfl (same_upd rfl (same_upd rfl (same_upd rfl (same_upd rfl (same_upd rfl (same_upd rfl (same_upd rfl (same_upd rfl (same_upd rfl (same_upd rfl (same_upd rfl (same_upd rfl (same_upd rfl (same_upd rfl (same_upd rfl (same_upd rfl (same_upd rfl (same_upd rfl (same_upd rfl (same_upd rfl (same_upd rfl (same_upd rfl (same_upd rfl (same_upd rfl (same_upd rfl (same_upd rfl (same_ovr)))))))))))))))))))))))))))))))))))))))))))
              · have g443 := of_decide_eq_false b406
                refine wp_know 123 (.bool false) (congrArg Value.bool b406) ?_
                have g444 := of_decide_eq_false b406
                refine wp_iff rfl ?_
                refine w_seq ?_
                refine w_lit ?_
                refine wl_pure (wants0 rfl) (d := 151) (v := (.bool (decide (x357.kind = 1)))) rfl (by kernel_rfl) ?_
                refine wl_pure (wants0 rfl) (d := 150) (v := (.bool (decide (x357.kind = 1)))) rfl (by kernel_rfl) ?_
                refine w_nil ?_
                refine then_normal ?_
                refine (bsplit (decide (x357.kind = 1))).elim (fun b445 => ?_) (fun b445 => ?_)
                · have g446 := of_decide_eq_true b445
                  refine wp_know 150 (.bool true) (congrArg Value.bool b445) ?_
                  have g447 := of_decide_eq_true b445
                  refine wp_ift rfl ?_
                  refine w_seq ?_
                  refine w_lit ?_
                  refine wl_pure (wants0 rfl) (d := 152) (v := (.pointer (some ⟨b360, 1, none⟩))) rfl (by kernel_rfl) ?_
                  refine wl_pure (wants0 rfl) (d := 153) (v := (.int .i64 (x357.round))) rfl (e_load1 rfl (by kernel_rfl) (H365.cell 8 rfl (by kernel_rfl))) ?_
                  refine wl_pure (wants0 rfl) (d := 154) (v := (.int .i64 (onR (3 * F + 1) ls (startD D0).1 k))) rfl (by kernel_rfl) ?_
                  refine wl_pure (wants0 rfl) (d := 155) (v := (.bool (decide (x357.round < (onR (3 * F + 1) ls (startD D0).1 k))))) rfl (by kernel_rfl) ?_
                  refine wl_pure (wants0 rfl) (d := 156) (v := (.bool (decide (x357.round < (onR (3 * F + 1) ls (startD D0).1 k))))) rfl (by kernel_rfl) ?_
                  have b448 : (decide (x357.round < (onR (3 * F + 1) ls (startD D0).1 k))) = false := by (exact decide_eq_false (by have := hO.rds _ (List.mem_of_getElem? h358) (by intro q5; first | (have q2 := (by assumption : (decide (x357.kind = 1)) = true); rw [q5] at q2; cases q2) | (unfold voteK at hv; omega)); omega))
                  refine wl_know 156 (.bool false) (congrArg Value.bool b448) ?_
                  refine wl_pure (wantsY 4 156 false rfl (by kernel_rfl) rfl (by kernel_rfl)) (d := 157) (v := (.agg ⟨([(.int .i64 (F)), (.int .i64 (1))] : List Value)⟩)) rfl (e_loadN (vs := ([(.int .i64 (F)), (.int .i64 (1))] : List Value)) rfl (by kernel_rfl) (by kernel_rfl) (by exact Nat.le_of_ble_eq_true (by kernel_rfl)) (H365.at 1 rfl) (by kernel_rfl)) ?_
                  refine wl_pure (wantsY 4 156 false rfl (by kernel_rfl) rfl (by kernel_rfl)) (d := 158) (v := (.pointer (some ⟨b360, 1, none⟩))) rfl (by kernel_rfl) ?_
                  refine wl_pure (wantsY 4 156 false rfl (by kernel_rfl) rfl (by kernel_rfl)) (d := 159) (v := (.int .i64 (x357.round))) rfl (e_load1 rfl (by kernel_rfl) (H365.cell 8 rfl (by kernel_rfl))) ?_
                  refine wl_do (wantsY 4 156 false rfl (by kernel_rfl) rfl (by kernel_rfl)) (fun K449 hK449 => ?_)
                  refine d_call (d := 160) rfl (by kernel_rfl) (coreProposer_any w364 F 1 (by omega) 0 x357.round) ?_
                  rintro _ w450 ⟨rfl, u452⟩
                  have H451 := H365.keepU u452
                  refine ⟨_, rfl, ?_⟩
                  refine hK449 _ _ ?_
                  clear hK449 K449
                  refine wl_pure (wantsY 4 156 false rfl (by kernel_rfl) rfl (by kernel_rfl)) (d := 161) (v := (.int .i64 (replica))) rfl (by kernel_rfl) ?_
                  refine wl_pure (wantsY 4 156 false rfl (by kernel_rfl) rfl (by kernel_rfl)) (d := 162) (v := (.int .i64 (3 * F + 1))) rfl (by kernel_rfl) ?_
                  refine wl_do (wantsY 4 156 false rfl (by kernel_rfl) rfl (by kernel_rfl)) (fun K453 hK453 => ?_)
                  refine d_call (d := 163) rfl (by kernel_rfl) (within_any w450 replica (3 * F + 1) (by omega)) ?_
                  rintro _ w454 ⟨rfl, u456⟩
                  have H455 := H451.keepU u456
                  refine ⟨_, rfl, ?_⟩
                  refine hK453 _ _ ?_
                  clear hK453 K453
                  refine wl_pure (wantsY 4 156 false rfl (by kernel_rfl) rfl (by kernel_rfl)) (d := 164) (v := (.bool (!(decide ((proposerV F 0 x357.round) = (withinV replica (3 * F + 1))))))) rfl (by kernel_rfl) ?_
                  refine wl_pure (wants0 rfl) (d := 165) (v := (.bool (!(decide ((proposerV F 0 x357.round) = (withinV replica (3 * F + 1))))))) rfl (by kernel_rfl) ?_
                  refine w_nil ?_
                  refine then_normal ?_
                  have b457 : (!(decide ((proposerV F 0 x357.round) = (withinV replica (3 * F + 1))))) = false := by (have q := hO.prop _ (List.mem_of_getElem? h358) (of_decide_eq_true (by assumption)); simp [q])
                  refine wp_know 165 (.bool false) (congrArg Value.bool b457) ?_
                  have g458 := bnot_false b457
                  have g459 := of_decide_eq_true g458
                  refine wp_iff rfl ?_
                  refine w_skip ?_
                  refine blk_normal ?_
                  refine blk_normal ?_
                  refine then_normal ?_
                  refine w_lit ?_
                  refine wl_pure (wants0 rfl) (d := 166) (v := (.int .i64 ((i : Int) + 1))) rfl (e_int (z := (i : Int) + 1) (by kernel_rfl) (IntWalk.i64_in _ (by omega))) ?_
                  refine wl_pure (wants0 rfl) (d := 117) (v := (.int .i64 ((i : Int) + 1))) rfl (by kernel_rfl) ?_
                  refine w_nil ?_
                  have H460 : Sat w [restC w (fun _ => False), cellC b6 25 ([(.int .i64 (F)), (.int .i64 (1))] : List Value), cellC k31 92 (([(.int .i64 (D2.f)), (.int .i64 (D2.c)), (.int .i64 (D2.epoch)), (.int .i64 (D2.replica)), (.int .i64 (D2.s.round)), (.int .i64 (D2.s.step)), (.int .i64 (D2.s.lr)), (.int .i64 (D2.s.vr))] : List Value) ++ hc D2.s.locked ++ hc D2.s.valid ++ ([(.bool (D2.s.decided))] : List Value) ++ hc D2.s.decision ++ ([(.pointer (some ⟨t32, 0, none⟩)), (.map (some pb37)), (.bool (D2.wv)), (.bool (D2.sp)), (.bool (D2.sc))] : List Value)), talC t32 hb33 cb34 ab35 lb36 D2.f D2.c D2.L, mapC pb37 (Value.int .i64) propV D2.P, mapC b41 turnV (Value.int .i64) (bumps ((onE (3 * F + 1) ls (startD D0).1 (startD D0).2 k) ++ ((onP (startD D0).2 k) ++ A2).take (i + 1))), rowC 45 35 (.slice a2 ((onP (startD D0).2 k) ++ A2).length q2) (((onP (startD D0).2 k) ++ A2).length) (((onP (startD D0).2 k) ++ A2).flatMap encA), cellC b81 57 (([(.int .i64 (x75.doo)), (.int .i64 (x75.kind)), (.int .i64 (x75.round)), (.int .i64 (x75.valid)), (.int .i64 (x75.replica))] : List Value) ++ hc x75.h ++ ([(.bool (x75.ok)), (.bool (x75.raw))] : List Value))] w454 := (H455.pick [0, 1, 2, 3, 4, 5, 6, 7] (by decide)).cast (by rw [show ((onP (startD D0).2 k) ++ A2).take (i + 1) = ((onP (startD D0).2 k) ++ A2).take i ++ [x357] by rw [List.take_add_one, h358]; rfl, ← List.append_assoc, bumps_snoc, bumpM_no b367 b406] <;> rfl)
                  refine round_back ?_ _ ⟨(i + 1), (show ((.int .i64 ((i : Int) + 1)) : Value) = _ by first | rfl | go_num), (by omega), H460, rfl⟩ (by omega)
                  exact (same_upd rfl (same_upd rfl (same_upd rfl (same_upd rfl (same_upd rfl (same_upd rfl (same_upd rfl (same_upd rfl (same_upd rfl (same_upd rfl (same_upd rfl (same_upd rfl (same_upd rfl (same_upd rfl (same_upd rfl (same_upd rfl (same_upd rfl (same_upd rfl (same_upd rfl (same_upd rfl (same_upd rfl (same_upd rfl (same_upd rfl (same_upd rfl (same_upd rfl (same_upd rfl (same_upd rfl (same_upd rfl (same_upd rfl (same_upd rfl (same_upd rfl (same_upd rfl (same_upd rfl (same_upd rfl (same_upd rfl (same_ovr))))))))))))))))))))))))))))))))))))
                · have g461 := of_decide_eq_false b445
                  refine wp_know 150 (.bool false) (congrArg Value.bool b445) ?_
                  have g462 := of_decide_eq_false b445
                  refine wp_iff rfl ?_
                  refine w_skip ?_
                  refine blk_normal ?_
                  refine blk_normal ?_
                  refine then_normal ?_
                  refine w_lit ?_
                  refine wl_pure (wants0 rfl) (d := 166) (v := (.int .i64 ((i : Int) + 1))) rfl (e_int (z := (i : Int) + 1) (by kernel_rfl) (IntWalk.i64_in _ (by omega))) ?_
                  refine wl_pure (wants0 rfl) (d := 117) (v := (.int .i64 ((i : Int) + 1))) rfl (by kernel_rfl) ?_
                  refine w_nil ?_
                  have H463 : Sat w [restC w (fun _ => False), cellC b6 25 ([(.int .i64 (F)), (.int .i64 (1))] : List Value), cellC k31 92 (([(.int .i64 (D2.f)), (.int .i64 (D2.c)), (.int .i64 (D2.epoch)), (.int .i64 (D2.replica)), (.int .i64 (D2.s.round)), (.int .i64 (D2.s.step)), (.int .i64 (D2.s.lr)), (.int .i64 (D2.s.vr))] : List Value) ++ hc D2.s.locked ++ hc D2.s.valid ++ ([(.bool (D2.s.decided))] : List Value) ++ hc D2.s.decision ++ ([(.pointer (some ⟨t32, 0, none⟩)), (.map (some pb37)), (.bool (D2.wv)), (.bool (D2.sp)), (.bool (D2.sc))] : List Value)), talC t32 hb33 cb34 ab35 lb36 D2.f D2.c D2.L, mapC pb37 (Value.int .i64) propV D2.P, mapC b41 turnV (Value.int .i64) (bumps ((onE (3 * F + 1) ls (startD D0).1 (startD D0).2 k) ++ ((onP (startD D0).2 k) ++ A2).take (i + 1))), rowC 45 35 (.slice a2 ((onP (startD D0).2 k) ++ A2).length q2) (((onP (startD D0).2 k) ++ A2).length) (((onP (startD D0).2 k) ++ A2).flatMap encA), cellC b81 57 (([(.int .i64 (x75.doo)), (.int .i64 (x75.kind)), (.int .i64 (x75.round)), (.int .i64 (x75.valid)), (.int .i64 (x75.replica))] : List Value) ++ hc x75.h ++ ([(.bool (x75.ok)), (.bool (x75.raw))] : List Value))] w364 := (H365.pick [0, 1, 2, 3, 4, 5, 6, 7] (by decide)).cast (by rw [show ((onP (startD D0).2 k) ++ A2).take (i + 1) = ((onP (startD D0).2 k) ++ A2).take i ++ [x357] by rw [List.take_add_one, h358]; rfl, ← List.append_assoc, bumps_snoc, bumpM_no b367 b406] <;> rfl)
                  refine round_back ?_ _ ⟨(i + 1), (show ((.int .i64 ((i : Int) + 1)) : Value) = _ by first | rfl | go_num), (by omega), H463, rfl⟩ (by omega)
                  exact (same_upd rfl (same_upd rfl (same_upd rfl (same_upd rfl (same_upd rfl (same_upd rfl (same_upd rfl (same_upd rfl (same_upd rfl (same_upd rfl (same_upd rfl (same_upd rfl (same_upd rfl (same_upd rfl (same_upd rfl (same_upd rfl (same_upd rfl (same_upd rfl (same_upd rfl (same_ovr))))))))))))))))))))
          · have g464 := of_decide_eq_false b351
            refine wp_know 118 (.bool false) (congrArg Value.bool b351) ?_
            have g465 := of_decide_eq_false b351
            refine wp_iff rfl ?_
            refine w_exit ?_
            refine then_exit ?_
            refine back_exit ?_
            refine blk_hit ?_
            refine then_normal ?_
            refine w_seq ?_
            have hM : bumps ((onE (3 * F + 1) ls (startD D0).1 (startD D0).2 k) ++ ((onP (startD D0).2 k) ++ A2).take i) = bumps (onE (3 * F + 1) ls (startD D0).1 (startD D0).2 (k + 1)) := by rw [show i = ((onP (startD D0).2 k) ++ A2).length by have := of_decide_eq_false b351; omega, List.take_of_length_le (Nat.le_refl _)]; simp only [onE, hA2]
            refine w_lit ?_
            refine wl_pure (wants0 rfl) (d := 13) (v := (.slice none 0 0)) rfl (by kernel_rfl) ?_
            refine w_nil ?_
            refine then_normal ?_
            refine w_seq ?_
            refine w_lit ?_
            refine wl_pure (wants0 rfl) (d := 167) (v := (.pointer (some ⟨k31, 0, none⟩))) rfl (by kernel_rfl) ?_
            refine wl_do (wants0 rfl) (fun K466 hK466 => ?_)
            refine d_call (d := 168) rfl (by kernel_rfl) (coreState_any w347 k31 t32 hb33 cb34 ab35 lb36 pb37 D2 (ok_of (by kernel_rfl) (H348.fin [2, 3, 4] (by decide) rfl)) hC2) ?_
            rintro _ w467 ⟨rfl, u469⟩
            have H468 := H348.keepU u469
            refine ⟨_, rfl, ?_⟩
            refine hK466 _ _ ?_
            clear hK466 K466
            refine wl_do (wants0 rfl) (fun K470 hK470 => ?_)
            refine d_alloc (zs := (([(.int .i64 (0)), (.int .i64 (0)), (.int .i64 (0)), (.int .i64 (0))] : List Value) ++ hc hash0 ++ hc hash0 ++ ([(.bool false)] : List Value) ++ hc hash0)) (z := (.agg ⟨(([(.int .i64 (0)), (.int .i64 (0)), (.int .i64 (0)), (.int .i64 (0))] : List Value) ++ hc hash0 ++ hc hash0 ++ ([(.bool false)] : List Value) ++ hc hash0)⟩)) rfl H468 (by kernel_rfl) (by kernel_rfl) ?_
            intro b471 w472 (H473 : Sat w [restC w (fun _ => False), cellC b6 25 ([(.int .i64 (F)), (.int .i64 (1))] : List Value), cellC k31 92 (([(.int .i64 (D2.f)), (.int .i64 (D2.c)), (.int .i64 (D2.epoch)), (.int .i64 (D2.replica)), (.int .i64 (D2.s.round)), (.int .i64 (D2.s.step)), (.int .i64 (D2.s.lr)), (.int .i64 (D2.s.vr))] : List Value) ++ hc D2.s.locked ++ hc D2.s.valid ++ ([(.bool (D2.s.decided))] : List Value) ++ hc D2.s.decision ++ ([(.pointer (some ⟨t32, 0, none⟩)), (.map (some pb37)), (.bool (D2.wv)), (.bool (D2.sp)), (.bool (D2.sc))] : List Value)), talC t32 hb33 cb34 ab35 lb36 D2.f D2.c D2.L, mapC pb37 (Value.int .i64) propV D2.P, mapC b41 turnV (Value.int .i64) (bumps ((onE (3 * F + 1) ls (startD D0).1 (startD D0).2 k) ++ ((onP (startD D0).2 k) ++ A2).take i)), rowC 45 35 (.slice a2 ((onP (startD D0).2 k) ++ A2).length q2) (((onP (startD D0).2 k) ++ A2).length) (((onP (startD D0).2 k) ++ A2).flatMap encA), cellC b81 57 (([(.int .i64 (x75.doo)), (.int .i64 (x75.kind)), (.int .i64 (x75.round)), (.int .i64 (x75.valid)), (.int .i64 (x75.replica))] : List Value) ++ hc x75.h ++ ([(.bool (x75.ok)), (.bool (x75.raw))] : List Value)), cellC b471 38 (([(.int .i64 (0)), (.int .i64 (0)), (.int .i64 (0)), (.int .i64 (0))] : List Value) ++ hc hash0 ++ hc hash0 ++ ([(.bool false)] : List Value) ++ hc hash0)] w472)
            refine hK470 _ _ ?_
            clear hK470 K470
            refine wl_do (wants0 rfl) (fun K474 hK474 => ?_)
            refine d_storeX (vs := (([(.int .i64 (D2.s.round)), (.int .i64 (D2.s.step)), (.int .i64 (D2.s.lr)), (.int .i64 (D2.s.vr))] : List Value) ++ hc D2.s.locked ++ hc D2.s.valid ++ ([(.bool (D2.s.decided))] : List Value) ++ hc D2.s.decision)) (cs' := (([(.int .i64 (D2.s.round)), (.int .i64 (D2.s.step)), (.int .i64 (D2.s.lr)), (.int .i64 (D2.s.vr))] : List Value) ++ hc D2.s.locked ++ hc D2.s.valid ++ ([(.bool (D2.s.decided))] : List Value) ++ hc D2.s.decision)) rfl H473 8 rfl rfl rfl rfl (by kernel_rfl) (Nat.le_of_ble_eq_true (by kernel_rfl)) (Nat.le_of_ble_eq_true (by kernel_rfl)) (by kernel_rfl) (by kernel_rfl) ?_
            intro w475 (H476 : Sat w [restC w (fun _ => False), cellC b6 25 ([(.int .i64 (F)), (.int .i64 (1))] : List Value), cellC k31 92 (([(.int .i64 (D2.f)), (.int .i64 (D2.c)), (.int .i64 (D2.epoch)), (.int .i64 (D2.replica)), (.int .i64 (D2.s.round)), (.int .i64 (D2.s.step)), (.int .i64 (D2.s.lr)), (.int .i64 (D2.s.vr))] : List Value) ++ hc D2.s.locked ++ hc D2.s.valid ++ ([(.bool (D2.s.decided))] : List Value) ++ hc D2.s.decision ++ ([(.pointer (some ⟨t32, 0, none⟩)), (.map (some pb37)), (.bool (D2.wv)), (.bool (D2.sp)), (.bool (D2.sc))] : List Value)), talC t32 hb33 cb34 ab35 lb36 D2.f D2.c D2.L, mapC pb37 (Value.int .i64) propV D2.P, mapC b41 turnV (Value.int .i64) (bumps ((onE (3 * F + 1) ls (startD D0).1 (startD D0).2 k) ++ ((onP (startD D0).2 k) ++ A2).take i)), rowC 45 35 (.slice a2 ((onP (startD D0).2 k) ++ A2).length q2) (((onP (startD D0).2 k) ++ A2).length) (((onP (startD D0).2 k) ++ A2).flatMap encA), cellC b81 57 (([(.int .i64 (x75.doo)), (.int .i64 (x75.kind)), (.int .i64 (x75.round)), (.int .i64 (x75.valid)), (.int .i64 (x75.replica))] : List Value) ++ hc x75.h ++ ([(.bool (x75.ok)), (.bool (x75.raw))] : List Value)), cellC b471 38 (([(.int .i64 (D2.s.round)), (.int .i64 (D2.s.step)), (.int .i64 (D2.s.lr)), (.int .i64 (D2.s.vr))] : List Value) ++ hc D2.s.locked ++ hc D2.s.valid ++ ([(.bool (D2.s.decided))] : List Value) ++ hc D2.s.decision)] w475)
            refine hK474 _ _ ?_
            clear hK474 K474
            refine w_nil ?_
            refine then_normal ?_
            refine w_seq ?_
            refine w_seq ?_
            refine w_lit ?_
            refine wl_pure (wants0 rfl) (d := 169) (v := (.pointer (some ⟨b471, 0, none⟩))) rfl (by kernel_rfl) ?_
            refine wl_pure (wants0 rfl) (d := 170) (v := (.int .i64 (D2.s.round))) rfl (e_load1 rfl (by kernel_rfl) (H476.cell 8 rfl (by kernel_rfl))) ?_
            refine wl_pure (wants0 rfl) (d := 171) (v := (.int .i64 (onR (3 * F + 1) ls (startD D0).1 k))) rfl (by kernel_rfl) ?_
            refine wl_pure (wants0 rfl) (d := 172) (v := (.bool (decide (D2.s.round < (onR (3 * F + 1) ls (startD D0).1 k))))) rfl (by kernel_rfl) ?_
            refine wl_pure (wants0 rfl) (d := 173) (v := (.bool (decide (D2.s.round < (onR (3 * F + 1) ls (startD D0).1 k))))) rfl (by kernel_rfl) ?_
            have b478 : (decide (D2.s.round < (onR (3 * F + 1) ls (startD D0).1 k))) = false := by (exact decide_eq_false (by have := hO.rd; omega))
            refine wl_know 173 (.bool false) (congrArg Value.bool b478) ?_
            refine wl_pure (wantsY 4 173 false rfl (by kernel_rfl) rfl (by kernel_rfl)) (d := 174) (v := (.pointer (some ⟨b471, 1, none⟩))) rfl (by kernel_rfl) ?_
            refine wl_pure (wantsY 4 173 false rfl (by kernel_rfl) rfl (by kernel_rfl)) (d := 175) (v := (.int .i64 (D2.s.step))) rfl (e_load1 rfl (by kernel_rfl) (H476.cell 8 rfl (by kernel_rfl))) ?_
            refine wl_pure (wantsY 4 173 false rfl (by kernel_rfl) rfl (by kernel_rfl)) (d := 176) (v := (.bool (decide (D2.s.step < 1)))) rfl (by kernel_rfl) ?_
            refine wl_pure (wants0 rfl) (d := 177) (v := (.bool (decide (D2.s.step < 1)))) rfl (by kernel_rfl) ?_
            refine wl_pure (wants0 rfl) (d := 178) (v := (.bool (decide (D2.s.step < 1)))) rfl (by kernel_rfl) ?_
            have b479 : (decide (D2.s.step < 1)) = false := by (exact decide_eq_false (by have := hO.st; omega))
            refine wl_know 178 (.bool false) (congrArg Value.bool b479) ?_
            refine wl_pure (wantsY 9 178 false rfl (by kernel_rfl) rfl (by kernel_rfl)) (d := 179) (v := (.pointer (some ⟨b471, 1, none⟩))) rfl (by kernel_rfl) ?_
            refine wl_pure (wantsY 9 178 false rfl (by kernel_rfl) rfl (by kernel_rfl)) (d := 180) (v := (.int .i64 (D2.s.step))) rfl (e_load1 rfl (by kernel_rfl) (H476.cell 8 rfl (by kernel_rfl))) ?_
            refine wl_pure (wantsY 9 178 false rfl (by kernel_rfl) rfl (by kernel_rfl)) (d := 181) (v := (.bool (decide (D2.s.step > 3)))) rfl (by kernel_rfl) ?_
            refine wl_pure (wants0 rfl) (d := 182) (v := (.bool (decide (D2.s.step > 3)))) rfl (by kernel_rfl) ?_
            refine wl_pure (wants0 rfl) (d := 183) (v := (.bool (decide (D2.s.step > 3)))) rfl (by kernel_rfl) ?_
            have b480 : (decide (D2.s.step > 3)) = false := by (exact decide_eq_false (by have := hO.st; omega))
            refine wl_know 183 (.bool false) (congrArg Value.bool b480) ?_
            refine wl_pure (wantsY 14 183 false rfl (by kernel_rfl) rfl (by kernel_rfl)) (d := 184) (v := (.pointer (some ⟨b471, 2, none⟩))) rfl (by kernel_rfl) ?_
            refine wl_pure (wantsY 14 183 false rfl (by kernel_rfl) rfl (by kernel_rfl)) (d := 185) (v := (.int .i64 (D2.s.lr))) rfl (e_load1 rfl (by kernel_rfl) (H476.cell 8 rfl (by kernel_rfl))) ?_
            refine wl_pure (wantsY 14 183 false rfl (by kernel_rfl) rfl (by kernel_rfl)) (d := 186) (v := (.pointer (some ⟨b471, 0, none⟩))) rfl (by kernel_rfl) ?_
            refine wl_pure (wantsY 14 183 false rfl (by kernel_rfl) rfl (by kernel_rfl)) (d := 187) (v := (.int .i64 (D2.s.round))) rfl (e_load1 rfl (by kernel_rfl) (H476.cell 8 rfl (by kernel_rfl))) ?_
            refine wl_pure (wantsY 14 183 false rfl (by kernel_rfl) rfl (by kernel_rfl)) (d := 188) (v := (.bool (decide (D2.s.lr > D2.s.round)))) rfl (by kernel_rfl) ?_
            refine wl_pure (wants0 rfl) (d := 189) (v := (.bool (decide (D2.s.lr > D2.s.round)))) rfl (by kernel_rfl) ?_
            refine wl_pure (wants0 rfl) (d := 190) (v := (.bool (decide (D2.s.lr > D2.s.round)))) rfl (by kernel_rfl) ?_
            have b481 : (decide (D2.s.lr > D2.s.round)) = false := by (exact decide_eq_false (by have := hO.lv; omega))
            refine wl_know 190 (.bool false) (congrArg Value.bool b481) ?_
            refine wl_pure (wantsY 21 190 false rfl (by kernel_rfl) rfl (by kernel_rfl)) (d := 191) (v := (.pointer (some ⟨b471, 3, none⟩))) rfl (by kernel_rfl) ?_
            refine wl_pure (wantsY 21 190 false rfl (by kernel_rfl) rfl (by kernel_rfl)) (d := 192) (v := (.int .i64 (D2.s.vr))) rfl (e_load1 rfl (by kernel_rfl) (H476.cell 8 rfl (by kernel_rfl))) ?_
            refine wl_pure (wantsY 21 190 false rfl (by kernel_rfl) rfl (by kernel_rfl)) (d := 193) (v := (.pointer (some ⟨b471, 0, none⟩))) rfl (by kernel_rfl) ?_
            refine wl_pure (wantsY 21 190 false rfl (by kernel_rfl) rfl (by kernel_rfl)) (d := 194) (v := (.int .i64 (D2.s.round))) rfl (e_load1 rfl (by kernel_rfl) (H476.cell 8 rfl (by kernel_rfl))) ?_
            refine wl_pure (wantsY 21 190 false rfl (by kernel_rfl) rfl (by kernel_rfl)) (d := 195) (v := (.bool (decide (D2.s.vr > D2.s.round)))) rfl (by kernel_rfl) ?_
            refine wl_pure (wants0 rfl) (d := 196) (v := (.bool (decide (D2.s.vr > D2.s.round)))) rfl (by kernel_rfl) ?_
            refine wl_pure (wants0 rfl) (d := 197) (v := (.bool (decide (D2.s.vr > D2.s.round)))) rfl (by kernel_rfl) ?_
            have b482 : (decide (D2.s.vr > D2.s.round)) = false := by (exact decide_eq_false (by have := hO.lv; omega))
            refine wl_know 197 (.bool false) (congrArg Value.bool b482) ?_
            refine wl_pure (wantsY 28 197 false rfl (by kernel_rfl) rfl (by kernel_rfl)) (d := 198) (v := (.pointer (some ⟨b471, 2, none⟩))) rfl (by kernel_rfl) ?_
            refine wl_pure (wantsY 28 197 false rfl (by kernel_rfl) rfl (by kernel_rfl)) (d := 199) (v := (.int .i64 (D2.s.lr))) rfl (e_load1 rfl (by kernel_rfl) (H476.cell 8 rfl (by kernel_rfl))) ?_
            refine wl_pure (wantsY 28 197 false rfl (by kernel_rfl) rfl (by kernel_rfl)) (d := 200) (v := (.pointer (some ⟨b471, 3, none⟩))) rfl (by kernel_rfl) ?_
            refine wl_pure (wantsY 28 197 false rfl (by kernel_rfl) rfl (by kernel_rfl)) (d := 201) (v := (.int .i64 (D2.s.vr))) rfl (e_load1 rfl (by kernel_rfl) (H476.cell 8 rfl (by kernel_rfl))) ?_
            refine wl_pure (wantsY 28 197 false rfl (by kernel_rfl) rfl (by kernel_rfl)) (d := 202) (v := (.bool (decide (D2.s.lr > D2.s.vr)))) rfl (by kernel_rfl) ?_
            refine wl_pure (wants0 rfl) (d := 203) (v := (.bool (decide (D2.s.lr > D2.s.vr)))) rfl (by kernel_rfl) ?_
            refine w_nil ?_
            refine then_normal ?_
            have b483 : (decide (D2.s.lr > D2.s.vr)) = false := by (exact decide_eq_false (by have := hO.lv; omega))
            refine wp_know 203 (.bool false) (congrArg Value.bool b483) ?_
            have g484 := of_decide_eq_false b483
            refine wp_iff rfl ?_
            refine w_skip ?_
            refine then_normal ?_
            refine w_lit ?_
            refine wl_pure (wants0 rfl) (d := 204) (v := (.pointer (some ⟨b471, 0, none⟩))) rfl (by kernel_rfl) ?_
            refine wl_pure (wants0 rfl) (d := 205) (v := (.int .i64 (D2.s.round))) rfl (e_load1 rfl (by kernel_rfl) (H476.cell 8 rfl (by kernel_rfl))) ?_
            refine wl_pure (wants0 rfl) (d := 12) (v := (.int .i64 (D2.s.round))) rfl (by kernel_rfl) ?_
            refine w_nil ?_
            refine blk_normal ?_
            refine then_normal ?_
            refine w_lit ?_
            refine wl_pure (wants0 rfl) (d := 51) (v := (.int .i64 ((k : Int)))) rfl (by kernel_rfl) ?_
            refine wl_pure (wants0 rfl) (d := 52) (v := (.int .i64 ((k : Int) + 1))) rfl (e_int (z := (k : Int) + 1) (by kernel_rfl) (IntWalk.i64_in _ (by omega))) ?_
            refine wl_pure (wants0 rfl) (d := 14) (v := (.int .i64 ((k : Int) + 1))) rfl (by kernel_rfl) ?_
            refine w_nil ?_
            have Hn := H476.addNil 45 35
            have H485 : Sat w [restC w (fun _ => False), cellC b6 25 ([(.int .i64 (F)), (.int .i64 (1))] : List Value), cellC k31 92 (([(.int .i64 ((onD (3 * F + 1) ls (startD D0).1 (k + 1)).f)), (.int .i64 ((onD (3 * F + 1) ls (startD D0).1 (k + 1)).c)), (.int .i64 ((onD (3 * F + 1) ls (startD D0).1 (k + 1)).epoch)), (.int .i64 ((onD (3 * F + 1) ls (startD D0).1 (k + 1)).replica)), (.int .i64 ((onD (3 * F + 1) ls (startD D0).1 (k + 1)).s.round)), (.int .i64 ((onD (3 * F + 1) ls (startD D0).1 (k + 1)).s.step)), (.int .i64 ((onD (3 * F + 1) ls (startD D0).1 (k + 1)).s.lr)), (.int .i64 ((onD (3 * F + 1) ls (startD D0).1 (k + 1)).s.vr))] : List Value) ++ hc (onD (3 * F + 1) ls (startD D0).1 (k + 1)).s.locked ++ hc (onD (3 * F + 1) ls (startD D0).1 (k + 1)).s.valid ++ ([(.bool ((onD (3 * F + 1) ls (startD D0).1 (k + 1)).s.decided))] : List Value) ++ hc (onD (3 * F + 1) ls (startD D0).1 (k + 1)).s.decision ++ ([(.pointer (some ⟨t32, 0, none⟩)), (.map (some pb37)), (.bool ((onD (3 * F + 1) ls (startD D0).1 (k + 1)).wv)), (.bool ((onD (3 * F + 1) ls (startD D0).1 (k + 1)).sp)), (.bool ((onD (3 * F + 1) ls (startD D0).1 (k + 1)).sc))] : List Value)), talC t32 hb33 cb34 ab35 lb36 (onD (3 * F + 1) ls (startD D0).1 (k + 1)).f (onD (3 * F + 1) ls (startD D0).1 (k + 1)).c (onD (3 * F + 1) ls (startD D0).1 (k + 1)).L, mapC pb37 (Value.int .i64) propV (onD (3 * F + 1) ls (startD D0).1 (k + 1)).P, mapC b41 turnV (Value.int .i64) (bumps (onE (3 * F + 1) ls (startD D0).1 (startD D0).2 (k + 1))), rowC 45 35 (.slice none (onP (startD D0).2 (k + 1)).length 0) ((onP (startD D0).2 (k + 1)).length) ((onP (startD D0).2 (k + 1)).flatMap encA)] w475 := (Hn.pick [0, 1, 2, 3, 4, 5, 9] (by decide)).cast (by rw [hM, ← hD2]; rfl)
            refine round_back ?_ _ ⟨(k + 1), none, 0, (show ((.int .i64 ((k : Int) + 1)) : Value) = _ by first | rfl | (simp only [onR, hD2])), (show ((.int .i64 (D2.s.round)) : Value) = _ by first | rfl | (simp only [onR, hD2])), (show ((.slice none 0 0) : Value) = _ by first | rfl | (simp only [onR, hD2])), (by omega), H485, rfl⟩ (by omega)
            exact (same_upd rfl (same_upd rfl (same_upd rfl (same_upd rfl (same_upd rfl (same_upd rfl (same_upd rfl (same_upd rfl (same_upd rfl (same_upd rfl (same_upd rfl (same_upd rfl (same_upd rfl (same_upd rfl (same_upd rfl (same_upd rfl (same_upd rfl (same_upd rfl (same_upd rfl (same_upd rfl (same_upd rfl (same_upd rfl (same_upd rfl (same_upd rfl (same_upd rfl (same_upd rfl (same_upd rfl (same_upd rfl (same_upd rfl (same_upd rfl (same_upd rfl (same_upd rfl (same_upd rfl (same_upd rfl (same_upd rfl (same_upd rfl (same_upd rfl (same_upd rfl (same_upd rfl (same_upd rfl (same_upd rfl (same_upd rfl (same_upd rfl (same_upd rfl (same_upd rfl (same_upd rfl (same_upd rfl (same_upd rfl (same_upd rfl (same_upd rfl (same_upd rfl (same_upd rfl (same_upd rfl (same_upd rfl (same_ovr2 rfl (same_upd rfl (same_upd rfl (same_upd rfl (same_upd rfl (same_upd rfl (same_upd rfl (same_upd rfl (same_upd rfl (same_upd rfl (same_upd rfl (same_upd rfl (same_ovr2 rfl (same_upd rfl (same_upd rfl (same_upd rfl (same_upd rfl (same_upd rfl (same_upd rfl (same_upd rfl (same_upd rfl (same_upd rfl (same_upd rfl (same_upd rfl (same_upd rfl (same_upd rfl (same_ovr2 rfl (same_upd rfl (same_upd rfl (same_upd rfl (same_ovr)))))))))))))))))))))))))))))))))))))))))))))))))))))))))))))))))))))))))))))))))))))
    · refine wp_know 50 (.bool false) (congrArg Value.bool b68) ?_
      refine wp_iff rfl ?_
      refine w_exit ?_
      refine then_exit ?_
      refine back_exit ?_
      refine blk_hit ?_
      refine then_normal ?_
      refine w_seq ?_
      refine w_lit ?_
      refine wl_do (wants0 rfl) (fun K486 hK486 => ?_)
      refine d_call (d := 206) rfl (by kernel_rfl) (wakes_any w65) ?_
      rintro _ w487 ⟨rfl, u489⟩
      have H488 := H66.keepU u489
      refine ⟨_, rfl, ?_⟩
      refine hK486 _ _ ?_
      clear hK486 K486
      refine wl_pure (wants0 rfl) (d := 6) (v := (.bool true)) rfl (by kernel_rfl) ?_
      refine w_nil ?_
      refine then_normal ?_
      refine w_ret ?_
      refine end1 rfl (res_tmp (v := (.bool true)) rfl) ?_
      exact ⟨rfl, H488.upd 0 rfl [] (fun _ h => h.elim)⟩

end Go.Proofs.Ythjmbhneifjeeaa
