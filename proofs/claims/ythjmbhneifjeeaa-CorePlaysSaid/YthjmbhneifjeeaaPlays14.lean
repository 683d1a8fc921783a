/- WHAT IS PROVED: the walk of CorePlays. Conditions: stated with each. -/
import Derived.Test.YthjmbhneifjeeaaShort
import Derived.Test.YthjmbhneifjeeaaGive14
import Derived.Test.YthjmbhneifjeeaaWakes14
import Derived.Test.YthjmbhneifjeeaaCut14
namespace Go.Proofs.Ythjmbhneifjeeaa
open Go.RowKit

set_option maxRecDepth 100000 in
set_option maxHeartbeats 2000000 in
theorem plays14_walk (w : World) (f epoch replica F : Int) (va : Option Addr) (vc : Nat) (ls : List InputD) (hls : InputsAt w (.slice va ls.length vc) ls) (vb : Option Addr) (vd : Nat) (ms : List InputD) (hms : InputsAt w (.slice vb ms.length vd) ms) (start : Bool) (hF : F = 1 + withinV f 2) (hf : 1 ≤ F ∧ F ≤ 2) :
  Calls Try.prog 12 #[(.int .i64 (f)), (.int .i64 (epoch)), (.int .i64 (replica)), (.slice va ls.length vc), (.slice vb ms.length vd), (.bool (start))] w fun e w' => e = .returned (.bool true) ∧ Upd [] w w' := by
 cases hok : newOk F 1 epoch replica
 rotate_left
 ·obtain ⟨D0, hD0⟩ : ∃ D, newD F 1 epoch replica = D := ⟨_, rfl⟩
  have C0 : CI D0 := hD0 ▸ CI.new hok
  have H := Sat.start0 w
  refine calls_fr Try.func12 rfl 127 rfl (Nat.le_of_ble_eq_true rfl) ?_
  refine w_seq ?_
  refine w_lit ?_
  refine wv 12 (.bool false) ?_
  refine w_nil ?_
  refine then_normal ?_
  refine w_seq ?_
  refine w_lit ?_
  refine wv 23 (.int .i64 (f)) ?_
  refine wl_do (wants0 rfl) (fun K1 hK1 => ?_)
  refine d_call (d := 24) rfl (by kernel_rfl) (within_any w f 2 (by omega)) ?_
  rintro _ w2 ⟨rfl, u4⟩
  have H3 := H.keepU u4
  refine ⟨_, rfl, ?_⟩
  refine hK1 _ _ ?_
  clear hK1 K1
  refine wv 25 (.int .i64 (F)) ?_ (hr := e_int (z := 1 + (withinV f 2)) (by kernel_rfl) ((by rw [IntWalk.i64_in _ (by omega)]; exact hF.symm)))
  refine wv 26 (.agg ⟨([(.int .i64 (F)), (.int .i64 (1))] : List Value)⟩) ?_
  refine wl_do (wants0 rfl) (fun K5 hK5 => ?_)
  refine d_alloc (zs := ([(.int .i64 (0)), (.int .i64 (0))] : List Value)) (z := (.agg ⟨([(.int .i64 (0)), (.int .i64 (0))] : List Value)⟩)) rfl H3 (by kernel_rfl) (by kernel_rfl) ?_
  intro b6 w7 (H8 : Sat w [restC w (fun _ => False), cellC b6 25 ([(.int .i64 (0)), (.int .i64 (0))] : List Value)] w7)
  refine hK5 _ _ ?_
  clear hK5 K5
  refine wl_do (wants0 rfl) (fun K9 hK9 => ?_)
  refine d_storeX (vs := ([(.int .i64 (F)), (.int .i64 (1))] : List Value)) (cs' := ([(.int .i64 (F)), (.int .i64 (1))] : List Value)) rfl H8 1 rfl rfl rfl rfl (by kernel_rfl) (Nat.le_of_ble_eq_true (by kernel_rfl)) (Nat.le_of_ble_eq_true (by kernel_rfl)) (by kernel_rfl) (by kernel_rfl) ?_
  intro w10 (H11 : Sat w [restC w (fun _ => False), cellC b6 25 ([(.int .i64 (F)), (.int .i64 (1))] : List Value)] w10)
  refine hK9 _ _ ?_
  clear hK9 K9
  refine w_nil ?_
  refine then_normal ?_
  refine w_seq ?_
  refine w_lit ?_
  refine wv 28 (.agg ⟨([(.int .i64 (F)), (.int .i64 (1))] : List Value)⟩) ?_ (hr := e_loadN (vs := ([(.int .i64 (F)), (.int .i64 (1))] : List Value)) rfl (by kernel_rfl) (by kernel_rfl) (by exact Nat.le_of_ble_eq_true (by kernel_rfl)) (H11.at 1 rfl) (by kernel_rfl))
  refine wv 29 (.int .i64 (epoch)) ?_
  refine wv 30 (.int .i64 (replica)) ?_
  refine wl_do (wants0 rfl) (fun K13 hK13 => ?_)
  refine d_call (d := 31) rfl (by kernel_rfl) (coreNew_any w10 F 1 epoch replica (by omega)) ?_
  rintro _ w14 (⟨_, k19, t20, hb21, cb22, ab23, lb24, pb25, rfl, k17, u16, q18⟩ | ⟨hno, _⟩)
  rotate_left
  ·exact absurd hno (by rw [hok]; simp)
  rw [hD0] at k17 q18
  have H26 : Sat w [restC w (fun _ => False), cellC b6 25 ([(.int .i64 (F)), (.int .i64 (1))] : List Value), coreC k19 t20 hb21 cb22 ab23 lb24 pb25 D0] w14 := H11.addU u16 k17 q18
  have H15 : Sat w [restC w (fun _ => False), cellC b6 25 ([(.int .i64 (F)), (.int .i64 (1))] : List Value), cellC k19 92 (coreL t20 pb25 D0), talC t20 hb21 cb22 ab23 lb24 D0.f D0.c D0.L, mapC pb25 (Value.int .i64) propV D0.P] w14 := H26.open 2 rfl
  refine ⟨_, rfl, ?_⟩
  refine hK13 _ _ ?_
  clear hK13 K13
  refine wv 27 (.tuple #[(pt k19 0), (.int .i64 (0))]) ?_
  refine wv 32 (pt k19 0) ?_
  refine wv 33 (.int .i64 (0)) ?_
  refine wv 14 (pt k19 0) ?_
  refine wv 15 (.int .i64 (0)) ?_
  refine w_nil ?_
  refine then_normal ?_
  refine w_seq ?_
  refine w_lit ?_
  refine wv 35 (.agg ⟨([(.int .i64 (F)), (.int .i64 (1))] : List Value)⟩) ?_ (hr := e_loadN (vs := ([(.int .i64 (F)), (.int .i64 (1))] : List Value)) rfl (by kernel_rfl) (by kernel_rfl) (by exact Nat.le_of_ble_eq_true (by kernel_rfl)) (H15.at 1 rfl) (by kernel_rfl))
  refine wv 36 (.int .i64 (epoch)) ?_
  refine wv 37 (.int .i64 (replica)) ?_
  refine wl_do (wants0 rfl) (fun K27 hK27 => ?_)
  refine d_call (d := 38) rfl (by kernel_rfl) (rcNew_any w14 F 1 epoch replica (by omega)) ?_
  rintro _ w28 (⟨_, p33, t34, v35, u36, rfl, k31, u30, q32⟩ | ⟨hno, _⟩)
  rotate_left
  ·exact absurd hno (by rw [hok]; simp)
  rw [hD0] at k31 q32
  have H37 : Sat w [restC w (fun _ => False), cellC b6 25 ([(.int .i64 (F)), (.int .i64 (1))] : List Value), cellC k19 92 (coreL t20 pb25 D0), talC t20 hb21 cb22 ab23 lb24 D0.f D0.c D0.L, mapC pb25 (Value.int .i64) propV D0.P, rcC p33 t34 v35 u36 D0] w28 := H15.addU u30 k31 q32
  have H29 : Sat w [restC w (fun _ => False), cellC b6 25 ([(.int .i64 (F)), (.int .i64 (1))] : List Value), cellC k19 92 (coreL t20 pb25 D0), talC t20 hb21 cb22 ab23 lb24 D0.f D0.c D0.L, mapC pb25 (Value.int .i64) propV D0.P, cellC p33 83 (rcL t34 u36 D0), cellC t34 101 ([(.int .i64 (D0.f)), (.int .i64 (D0.c)), v35] : List Value), rowC 143 35 v35 D0.L.length (D0.L.flatMap encV), rowC 129 35 u36 D0.P.length (D0.P.flatMap encQ)] w28 := H37.open 5 rfl
  refine ⟨_, rfl, ?_⟩
  obtain ⟨a38, c39, rfl⟩ := ownsRow_shape (H29.at 7 rfl)
  obtain ⟨a40, c41, rfl⟩ := ownsRow_shape (H29.at 8 rfl)
  refine hK27 _ _ ?_
  clear hK27 K27
  refine wv 34 (.tuple #[(pt p33 0), (.bool true)]) ?_
  refine wv 39 (pt p33 0) ?_
  refine wv 40 (.bool true) ?_
  refine wv 16 (pt p33 0) ?_
  refine wv 17 (.bool true) ?_
  refine w_nil ?_
  refine then_normal ?_
  iterate 2 refine w_seq ?_
  refine w_lit ?_
  refine wv 41 (.bool true) ?_
  refine wv 42 (.bool false) ?_
  refine w_nil ?_
  refine then_normal ?_
  refine wp_iff rfl ?_
  refine w_skip ?_
  refine then_normal ?_
  iterate 2 refine w_seq ?_
  refine w_lit ?_
  refine wv 52 (.int .i64 (0)) ?_
  refine wv 53 (.bool false) ?_
  refine wv 54 (.bool false) ?_
  refine wy 2 54 false 55 (pt k19 0) ?_
  refine wy 2 54 false 56 (.bool false) ?_
  refine wv 57 (.bool false) ?_
  refine wv 58 (.bool false) ?_
  refine wy 6 58 false 59 (.bool (start)) ?_
  refine wy 6 58 false 60 (.bool (start)) ?_
  refine (bsplit (start)).elim (fun b42 => ?_) (fun b42 => ?_)
  ·refine wl_know 60 (.bool true) (congrArg Value.bool b42) ?_
   refine wy 8 60 true 61 (pt k19 0) ?_
   refine wl_do (wantsY 8 60 true rfl (by kernel_rfl) rfl (by kernel_rfl)) (fun K43 hK43 => ?_)
   refine d_call (d := 62) rfl (by kernel_rfl) (coreStart_any w28 k19 t20 hb21 cb22 ab23 lb24 pb25 D0 (ok_of (by kernel_rfl) (H29.fin [2, 3, 4] (by decide) rfl)) ((RelC.refl C0).ci) ) ?_
   rintro _ w45 ⟨v44, rfl, S46⟩
   replace S46 := Sat.cast (G' := [cellC k19 92 (coreL t20 pb25 ((startD D0).1)), talC t20 hb21 cb22 ab23 lb24 ((startD D0).1).f ((startD D0).1).c ((startD D0).1).L, mapC pb25 (Value.int .i64) propV ((startD D0).1).P, rowC 45 35 v44 (((startD D0).2).length) (((startD D0).2).flatMap encA), restC w28 (coreC k19 t20 hb21 cb22 ab23 lb24 pb25 D0).fp]) S46 (by kernel_rfl)
   have H48 : Sat w [restC w (fun _ => False), cellC b6 25 ([(.int .i64 (F)), (.int .i64 (1))] : List Value), cellC k19 92 (coreL t20 pb25 ((startD D0).1)), talC t20 hb21 cb22 ab23 lb24 ((startD D0).1).f ((startD D0).1).c ((startD D0).1).L, mapC pb25 (Value.int .i64) propV ((startD D0).1).P, cellC p33 83 (rcL t34 (.slice a40 D0.P.length c41) D0), cellC t34 101 ([(.int .i64 (D0.f)), (.int .i64 (D0.c)), (.slice a38 D0.L.length c39)] : List Value), rowC 143 35 (.slice a38 D0.L.length c39) D0.L.length (D0.L.flatMap encV), rowC 129 35 (.slice a40 D0.P.length c41) D0.P.length (D0.P.flatMap encQ), rowC 45 35 v44 (((startD D0).2).length) (((startD D0).2).flatMap encA)] w45 := (Sat.turnL (L' := [cellC k19 92 (coreL t20 pb25 ((startD D0).1)), talC t20 hb21 cb22 ab23 lb24 ((startD D0).1).f ((startD D0).1).c ((startD D0).1).L, mapC pb25 (Value.int .i64) propV ((startD D0).1).P, rowC 45 35 v44 (((startD D0).2).length) (((startD D0).2).flatMap encA)]) (R := [restC w (fun _ => False), cellC b6 25 ([(.int .i64 (F)), (.int .i64 (1))] : List Value), cellC p33 83 (rcL t34 (.slice a40 D0.P.length c41) D0), cellC t34 101 ([(.int .i64 (D0.f)), (.int .i64 (D0.c)), (.slice a38 D0.L.length c39)] : List Value), rowC 143 35 (.slice a38 D0.L.length c39) D0.L.length (D0.L.flatMap encV), rowC 129 35 (.slice a40 D0.P.length c41) D0.P.length (D0.P.flatMap encQ)]) H29 [2, 3, 4] [0, 1, 5, 6, 7, 8] (by decide) (by kernel_rfl) rfl S46).pick [4, 5, 0, 1, 2, 6, 7, 8, 9, 3] (by decide)
   obtain ⟨a49, c50, rfl⟩ := ownsRow_shape (H48.at 9 rfl)
   refine ⟨_, rfl, ?_⟩
   refine hK43 _ _ ?_
   clear hK43 K43
   refine wy 8 60 true 63 (pt p33 0) ?_
   refine wl_do (wantsY 8 60 true rfl (by kernel_rfl) rfl (by kernel_rfl)) (fun K51 hK51 => ?_)
   refine d_call (d := 64) rfl (by kernel_rfl) (rcStart_any w45 p33 t34 (.slice a38 D0.L.length c39) (.slice a40 D0.P.length c41) D0 (ok_of (by kernel_rfl) (H48.fin [5, 6, 7, 8] (by decide) rfl)) ((RelC.refl C0).ci) ) ?_
   rintro _ w55 ⟨v52, u53, x54, rfl, S56⟩
   have H57 : Sat w [restC w (fun _ => False), cellC b6 25 ([(.int .i64 (F)), (.int .i64 (1))] : List Value), cellC k19 92 (coreL t20 pb25 ((startD D0).1)), talC t20 hb21 cb22 ab23 lb24 ((startD D0).1).f ((startD D0).1).c ((startD D0).1).L, mapC pb25 (Value.int .i64) propV ((startD D0).1).P, cellC p33 83 (rcL t34 u53 ((startD D0).1)), cellC t34 101 ([(.int .i64 (((startD D0).1).f)), (.int .i64 (((startD D0).1).c)), v52] : List Value), rowC 143 35 v52 ((((startD D0).1).L).length) ((((startD D0).1).L).flatMap encV), rowC 129 35 u53 ((((startD D0).1).P).length) ((((startD D0).1).P).flatMap encQ), rowC 45 35 (.slice a49 (((startD D0).2).length) c50) (((startD D0).2).length) (((startD D0).2).flatMap encA), rowC 102 35 x54 (((startD D0).2).length) (((startD D0).2).flatMap encA)] w55 := (Sat.turnL (L' := [cellC p33 83 (rcL t34 u53 ((startD D0).1)), cellC t34 101 ([(.int .i64 (((startD D0).1).f)), (.int .i64 (((startD D0).1).c)), v52] : List Value), rowC 143 35 v52 ((((startD D0).1).L).length) ((((startD D0).1).L).flatMap encV), rowC 129 35 u53 ((((startD D0).1).P).length) ((((startD D0).1).P).flatMap encQ), rowC 102 35 x54 (((startD D0).2).length) (((startD D0).2).flatMap encA)]) (R := [restC w (fun _ => False), cellC b6 25 ([(.int .i64 (F)), (.int .i64 (1))] : List Value), cellC k19 92 (coreL t20 pb25 ((startD D0).1)), talC t20 hb21 cb22 ab23 lb24 ((startD D0).1).f ((startD D0).1).c ((startD D0).1).L, mapC pb25 (Value.int .i64) propV ((startD D0).1).P, rowC 45 35 (.slice a49 (((startD D0).2).length) c50) (((startD D0).2).length) (((startD D0).2).flatMap encA)]) H48 [5, 6, 7, 8] [0, 1, 2, 3, 4, 9] (by decide) (by kernel_rfl) rfl S56).pick [5, 6, 7, 8, 9, 0, 1, 2, 3, 10, 4] (by decide)
   obtain ⟨a58, c59, rfl⟩ := ownsRow_shape (H57.at 7 rfl)
   obtain ⟨a60, c61, rfl⟩ := ownsRow_shape (H57.at 8 rfl)
   obtain ⟨a62, c63, rfl⟩ := ownsRow_shape (H57.at 10 rfl)
   refine ⟨_, rfl, ?_⟩
   refine hK51 _ _ ?_
   clear hK51 K51
   refine wl_do (wantsY 8 60 true rfl (by kernel_rfl) rfl (by kernel_rfl)) (fun K64 hK64 => ?_)
   refine d_call (d := 65) rfl (by kernel_rfl) (acts_any w55 (.slice a49 (((startD D0).2).length) c50) (.slice a62 (((startD D0).2).length) c63) _ _ (H57.at 9 rfl) (H57.at 10 rfl) ((RelC.refl C0).start).1 (Nat.le_trans (start_le (RelC.refl C0).ci) (by decide))) ?_
   rintro _ w65 ⟨rfl, u67⟩
   have H66 := H57.keepU u67
   refine ⟨_, rfl, ?_⟩
   refine hK64 _ _ ?_
   clear hK64 K64
   refine wy 8 60 true 66 (.bool false) ?_
   refine wy 6 58 false 67 (.bool false) ?_
   refine wv 68 (.bool false) ?_
   refine w_nil ?_
   refine then_normal ?_
   refine wp_iff rfl ?_
   refine w_skip ?_
   refine then_normal ?_
   refine w_seq ?_
   refine w_lit ?_
   refine wv 69 (.agg ⟨([(.int .i64 (F)), (.int .i64 (1))] : List Value)⟩) ?_ (hr := e_loadN (vs := ([(.int .i64 (F)), (.int .i64 (1))] : List Value)) rfl (by kernel_rfl) (by kernel_rfl) (by exact Nat.le_of_ble_eq_true (by kernel_rfl)) (H66.at 1 rfl) (by kernel_rfl))
   refine wl_do (wants0 rfl) (fun K68 hK68 => ?_)
   refine d_call (d := 70) rfl (by kernel_rfl) (refN_any w65 F 1 (by omega)) ?_
   rintro _ w69 ⟨rfl, u71⟩
   have H70 := H66.keepU u71
   refine ⟨_, rfl, ?_⟩
   refine hK68 _ _ ?_
   clear hK68 K68
   refine wv 18 (.int .i64 (3 * F + 1)) ?_
   refine w_nil ?_
   refine then_normal ?_
   iterate 2 refine w_seq ?_
   refine w_lit ?_
   refine wv 19 (.int .i64 (0)) ?_
   refine w_nil ?_
   refine then_normal ?_
   refine w_block ?_
   have H72 : Sat w [rcC p33 t34 (.slice a58 ((((startD D0).1).L).length) c59) (.slice a60 ((((startD D0).1).P).length) c61) ((startD D0).1), cellC k19 92 (coreL t20 pb25 ((startD D0).1)), talC t20 hb21 cb22 ab23 lb24 ((startD D0).1).f ((startD D0).1).c ((startD D0).1).L, mapC pb25 (Value.int .i64) propV ((startD D0).1).P, restC w (fun _ => False), cellC b6 25 ([(.int .i64 (F)), (.int .i64 (1))] : List Value), rowC 45 35 (.slice a49 (((startD D0).2).length) c50) (((startD D0).2).length) (((startD D0).2).flatMap encA), rowC 102 35 (.slice a62 (((startD D0).2).length) c63) (((startD D0).2).length) (((startD D0).2).flatMap encA)] w69 := Sat.closeL (L := [cellC p33 83 (rcL t34 (.slice a60 ((((startD D0).1).P).length) c61) ((startD D0).1)), cellC t34 101 ([(.int .i64 (((startD D0).1).f)), (.int .i64 (((startD D0).1).c)), (.slice a58 ((((startD D0).1).L).length) c59)] : List Value), rowC 143 35 (.slice a58 ((((startD D0).1).L).length) c59) ((((startD D0).1).L).length) ((((startD D0).1).L).flatMap encV), rowC 129 35 (.slice a60 ((((startD D0).1).P).length) c61) ((((startD D0).1).P).length) ((((startD D0).1).P).flatMap encQ)]) (R := [cellC k19 92 (coreL t20 pb25 ((startD D0).1)), talC t20 hb21 cb22 ab23 lb24 ((startD D0).1).f ((startD D0).1).c ((startD D0).1).L, mapC pb25 (Value.int .i64) propV ((startD D0).1).P, restC w (fun _ => False), cellC b6 25 ([(.int .i64 (F)), (.int .i64 (1))] : List Value), rowC 45 35 (.slice a49 (((startD D0).2).length) c50) (((startD D0).2).length) (((startD D0).2).flatMap encA), rowC 102 35 (.slice a62 (((startD D0).2).length) c63) (((startD D0).2).length) (((startD D0).2).flatMap encA)]) (H70.pick [5, 6, 7, 8, 2, 3, 4, 0, 1, 9, 10] (by decide))
   have H73 : Sat w [coreC k19 t20 hb21 cb22 ab23 lb24 pb25 ((startD D0).1), rcC p33 t34 (.slice a58 ((((startD D0).1).L).length) c59) (.slice a60 ((((startD D0).1).P).length) c61) ((startD D0).1), restC w (fun _ => False), cellC b6 25 ([(.int .i64 (F)), (.int .i64 (1))] : List Value), rowC 45 35 (.slice a49 (((startD D0).2).length) c50) (((startD D0).2).length) (((startD D0).2).flatMap encA), rowC 102 35 (.slice a62 (((startD D0).2).length) c63) (((startD D0).2).length) (((startD D0).2).flatMap encA)] w69 := Sat.closeL (L := [cellC k19 92 (coreL t20 pb25 ((startD D0).1)), talC t20 hb21 cb22 ab23 lb24 ((startD D0).1).f ((startD D0).1).c ((startD D0).1).L, mapC pb25 (Value.int .i64) propV ((startD D0).1).P]) (R := [rcC p33 t34 (.slice a58 ((((startD D0).1).L).length) c59) (.slice a60 ((((startD D0).1).P).length) c61) ((startD D0).1), restC w (fun _ => False), cellC b6 25 ([(.int .i64 (F)), (.int .i64 (1))] : List Value), rowC 45 35 (.slice a49 (((startD D0).2).length) c50) (((startD D0).2).length) (((startD D0).2).flatMap encA), rowC 102 35 (.slice a62 (((startD D0).2).length) c63) (((startD D0).2).length) (((startD D0).2).flatMap encA)]) (H72.pick [1, 2, 3, 0, 4, 5, 6, 7] (by decide))
   have H74 : Sat w [sepC [coreC k19 t20 hb21 cb22 ab23 lb24 pb25 ((startD D0).1), rcC p33 t34 (.slice a58 ((((startD D0).1).L).length) c59) (.slice a60 ((((startD D0).1).P).length) c61) ((startD D0).1)], restC w (fun _ => False), cellC b6 25 ([(.int .i64 (F)), (.int .i64 (1))] : List Value), rowC 45 35 (.slice a49 (((startD D0).2).length) c50) (((startD D0).2).length) (((startD D0).2).flatMap encA), rowC 102 35 (.slice a62 (((startD D0).2).length) c63) (((startD D0).2).length) (((startD D0).2).flatMap encA)] w69 := Sat.closeL (L := [coreC k19 t20 hb21 cb22 ab23 lb24 pb25 ((startD D0).1), rcC p33 t34 (.slice a58 ((((startD D0).1).L).length) c59) (.slice a60 ((((startD D0).1).P).length) c61) ((startD D0).1)]) (R := [restC w (fun _ => False), cellC b6 25 ([(.int .i64 (F)), (.int .i64 (1))] : List Value), rowC 45 35 (.slice a49 (((startD D0).2).length) c50) (((startD D0).2).length) (((startD D0).2).flatMap encA), rowC 102 35 (.slice a62 (((startD D0).2).length) c63) (((startD D0).2).length) (((startD D0).2).flatMap encA)]) H73
   refine wp_round [12, 19, 71, 72, 73, 74, 75, 76, 77, 78, 79, 80, 81, 82, 83, 84, 85, 86, 87, 88, 89, 90] (fun F_ W_ m_ => ∃ (i : Nat) (D R : CoreD) (v u : Value), F_ 19 = (.int .i64 ((i : Int))) ∧ (i ≤ 40) ∧ (RelC D R) ∧ Sat w [sepC [coreC k19 t20 hb21 cb22 ab23 lb24 pb25 D, rcC p33 t34 v u R], restC w (fun _ => False), cellC b6 25 ([(.int .i64 (F)), (.int .i64 (1))] : List Value), rowC 45 35 (.slice a49 (((startD D0).2).length) c50) (((startD D0).2).length) (((startD D0).2).flatMap encA), rowC 102 35 (.slice a62 (((startD D0).2).length) c63) (((startD D0).2).length) (((startD D0).2).flatMap encA)] W_ ∧ m_ = 40 - i) _ ⟨0, ((startD D0).1), ((startD D0).1), (.slice a58 ((((startD D0).1).L).length) c59), (.slice a60 ((((startD D0).1).P).length) c61), (show ((.int .i64 (0)) : Value) = _ by first | rfl | go_num), (Nat.zero_le _), (RelC.refl C0).start.2, H74, rfl⟩ ?_
   rintro g75 w76 _ ⟨i, D, R, v, u, v78, hi, hRel, H77, rfl⟩
   refine wp_know 19 _ v78 ?_
   refine w_seq ?_
   refine wp_meetR [71, 72, 73, 74, 75, 76, 77, 78] (fun G_ W_ => G_ 78 = (.bool (decide ((i : Int) < ls.length) && decide ((i : Int) < 40))) ∧ Sat w [sepC [coreC k19 t20 hb21 cb22 ab23 lb24 pb25 D, rcC p33 t34 v u R], restC w (fun _ => False), cellC b6 25 ([(.int .i64 (F)), (.int .i64 (1))] : List Value), rowC 45 35 (.slice a49 (((startD D0).2).length) c50) (((startD D0).2).length) (((startD D0).2).flatMap encA), rowC 102 35 (.slice a62 (((startD D0).2).length) c63) (((startD D0).2).length) (((startD D0).2).flatMap encA)] W_) ?_ ?_
   ·refine w_lit ?_
    refine wv 71 (.int .i64 ((i : Int))) ?_
    refine wv 72 (.slice va ls.length vc) ?_
    refine wv 73 (.int .i64 ((ls.length : Int))) ?_
    refine wv 74 (.bool (decide ((i : Int) < (ls.length : Int)))) ?_
    refine wv 75 (.bool (decide ((i : Int) < (ls.length : Int)))) ?_
    refine (bsplit (decide ((i : Int) < (ls.length : Int)))).elim (fun b81 => ?_) (fun b81 => ?_)
    ·have g82 := of_decide_eq_true b81
     refine wl_know 75 (.bool true) (congrArg Value.bool b81) ?_
     have g83 := of_decide_eq_true b81
     refine wy 4 75 true 76 (.int .i64 ((i : Int))) ?_
     refine wy 4 75 true 77 (.bool (decide ((i : Int) < 40))) ?_
     refine wv 78 (.bool (decide ((i : Int) < 40))) ?_
     refine w_nil ?_
     refine meetR_at ?_ ⟨(congrArg Value.bool (show (decide ((i : Int) < 40)) = (decide ((i : Int) < ls.length) && decide ((i : Int) < 40)) by (simp <;> omega))), H77⟩
     exact (same_upd rfl (same_upd rfl (same_upd rfl (same_upd rfl (same_upd rfl (same_upd rfl (same_upd rfl (same_upd rfl (same_upd rfl (same_refl))))))))))
    ·have g84 := of_decide_eq_false b81
     refine wl_know 75 (.bool false) (congrArg Value.bool b81) ?_
     have g85 := of_decide_eq_false b81
     iterate 2 refine wn 4 75 true ?_
     refine wv 78 (.bool false) ?_
     refine w_nil ?_
     refine meetR_at ?_ ⟨(congrArg Value.bool (show false = (decide ((i : Int) < ls.length) && decide ((i : Int) < 40)) by (simp <;> omega))), H77⟩
     exact (same_upd rfl (same_upd rfl (same_upd rfl (same_upd rfl (same_upd rfl (same_upd rfl (same_upd rfl (same_upd rfl (same_upd rfl (same_refl))))))))))
   ·rintro f86 w87 ⟨v89, H88⟩
    refine wp_know 78 _ v89 ?_
    refine (bsplit (decide ((i : Int) < ls.length) && decide ((i : Int) < 40))).elim (fun b90 => ?_) (fun b90 => ?_)
    ·refine wp_know 78 (.bool true) (congrArg Value.bool b90) ?_
     refine wp_ift rfl ?_
     refine w_skip ?_
     refine then_normal ?_
     refine w_seq ?_
     refine w_block ?_
     refine w_seq ?_
     have hil : (i : Int) < ls.length ∧ (i : Int) < 40 := by simpa using b90
     refine w_lit ?_
     refine wv 81 (pt k19 0) ?_
     refine wv 82 (pt p33 0) ?_
     refine wv 83 (.slice va ls.length vc) ?_
     refine wv 84 (.int .i64 ((i : Int))) ?_
     obtain ⟨g91, o92, c93, e94, R95⟩ := SliceOf.atD hls inD0 (show i < ls.length by omega)
     refine wv 85 (.pointer (some ⟨g91, o92 + ((i : Int)).toNat * 39, none⟩)) ?_ (hr := e_indexAddrW (E := 57) (by kernel_rfl) (by kernel_rfl) (Nat.le_of_ble_eq_true rfl) rfl e94 rfl (by omega) (by omega))
     refine wv 86 (.agg ⟨(([(.int .i64 ((ls.getD i inD0).doo)), (.int .i64 ((ls.getD i inD0).kind)), (.int .i64 ((ls.getD i inD0).round)), (.int .i64 ((ls.getD i inD0).valid)), (.int .i64 ((ls.getD i inD0).replica))] : List Value) ++ hc (ls.getD i inD0).h ++ ([(.bool ((ls.getD i inD0).ok)), (.bool ((ls.getD i inD0).raw))] : List Value))⟩) ?_ (hr := e_loadRun (vs := (([(.int .i64 ((ls.getD i inD0).doo)), (.int .i64 ((ls.getD i inD0).kind)), (.int .i64 ((ls.getD i inD0).round)), (.int .i64 ((ls.getD i inD0).valid)), (.int .i64 ((ls.getD i inD0).replica))] : List Value) ++ hc (ls.getD i inD0).h ++ ([(.bool ((ls.getD i inD0).ok)), (.bool ((ls.getD i inD0).raw))] : List Value))) rfl (by kernel_rfl) (by kernel_rfl) (Nat.le_of_ble_eq_true (by kernel_rfl)) (H88.runR 1 rfl (cells_run R95 0 (by kernel_rfl) (show o92 + ((i : Int)).toNat * 39 = o92 + i * 39 + 0 by omega)) (fun h => h)))
     refine wv 87 (.int .i64 (3 * F + 1)) ?_
     refine wl_do (wants0 rfl) (fun K96 hK96 => ?_)
     obtain ⟨x97, hx98⟩ : ∃ x, cutI (3 * F + 1) (ls.getD i inD0) = x := ⟨_, rfl⟩
     refine d_call (d := 88) rfl (by kernel_rfl) (cutI_any w87 (ls.getD i inD0) (3 * F + 1) (by omega)) ?_
     rw [hx98]
     rintro _ w99 ⟨rfl, u101⟩
     have H100 := H88.keepU u101
     refine ⟨_, rfl, ?_⟩
     refine hK96 _ _ ?_
     clear hK96 K96
     refine wl_do (wants0 rfl) (fun K102 hK102 => ?_)
     refine d_call (d := 89) rfl (by kernel_rfl) (give_any w99 k19 t20 hb21 cb22 ab23 lb24 pb25 p33 t34 v u D R (H100.at 0 rfl) hRel x97) ?_
     rintro _ w103 ⟨rfl, v104, u105, D106, R107, hr108, S109⟩
     have H110 : Sat w [sepC [coreC k19 t20 hb21 cb22 ab23 lb24 pb25 D106, rcC p33 t34 v104 u105 R107], restC w (fun _ => False), cellC b6 25 ([(.int .i64 (F)), (.int .i64 (1))] : List Value), rowC 45 35 (.slice a49 (((startD D0).2).length) c50) (((startD D0).2).length) (((startD D0).2).flatMap encA), rowC 102 35 (.slice a62 (((startD D0).2).length) c63) (((startD D0).2).length) (((startD D0).2).flatMap encA)] w103 := (Sat.turned2 (A := coreC k19 t20 hb21 cb22 ab23 lb24 pb25 D106) (B := rcC p33 t34 v104 u105 R107) (R := [restC w (fun _ => False), cellC b6 25 ([(.int .i64 (F)), (.int .i64 (1))] : List Value), rowC 45 35 (.slice a49 (((startD D0).2).length) c50) (((startD D0).2).length) (((startD D0).2).flatMap encA), rowC 102 35 (.slice a62 (((startD D0).2).length) c63) (((startD D0).2).length) (((startD D0).2).flatMap encA)]) H100 0 [1, 2, 3, 4] (by decide) rfl rfl S109).pick [0, 1, 2, 3, 4] (by decide)
     refine ⟨_, rfl, ?_⟩
     refine hK102 _ _ ?_
     clear hK102 K102
     refine wv 90 (.bool false) ?_
     refine w_nil ?_
     refine then_normal ?_
     refine wp_iff rfl ?_
     refine w_skip ?_
     refine blk_normal ?_
     refine then_normal ?_
     refine w_lit ?_
     refine wv 79 (.int .i64 ((i : Int))) ?_
     refine wv 80 (.int .i64 ((i : Int) + 1)) ?_ (hr := e_int (z := (i : Int) + 1) (by kernel_rfl) (IntWalk.i64_in _ (by omega)))
     refine wv 19 (.int .i64 ((i : Int) + 1)) ?_
     refine w_nil ?_
     refine round_back ?_ _ ⟨(i + 1), D106, R107, v104, u105, (show ((.int .i64 ((i : Int) + 1)) : Value) = _ by first | rfl | go_num), (by omega), hr108, H110, rfl⟩ (by omega)
     exact (same_upd rfl (same_upd rfl (same_upd rfl (same_upd rfl (same_upd rfl (same_upd rfl (same_upd rfl (same_upd rfl (same_upd rfl (same_upd rfl (same_upd rfl (same_upd rfl (same_upd rfl (same_upd rfl (same_upd rfl (same_ovr2 rfl (same_upd rfl (same_ovr))))))))))))))))))
    ·refine wp_know 78 (.bool false) (congrArg Value.bool b90) ?_
     refine wp_iff rfl ?_
     refine w_exit ?_
     refine then_exit ?_
     refine back_exit ?_
     refine blk_hit ?_
     refine then_normal ?_
     refine w_seq ?_
     refine w_lit ?_
     refine wv 91 (pt k19 0) ?_
     refine wl_do (wants0 rfl) (fun K111 hK111 => ?_)
     refine d_call (d := 92) rfl (by kernel_rfl) (coreClone_any w87 k19 t20 hb21 cb22 ab23 lb24 pb25 D ((H88.at 0 rfl).1 _ (List.mem_cons_self ..)) hRel.ci) ?_
     rintro _ w119 ⟨k112, t113, hb114, cb115, ab116, lb117, pb118, rfl, k122, u121, q123⟩
     have H120 : Sat w [sepC [coreC k19 t20 hb21 cb22 ab23 lb24 pb25 D, rcC p33 t34 v u R], restC w (fun _ => False), cellC b6 25 ([(.int .i64 (F)), (.int .i64 (1))] : List Value), rowC 45 35 (.slice a49 (((startD D0).2).length) c50) (((startD D0).2).length) (((startD D0).2).flatMap encA), rowC 102 35 (.slice a62 (((startD D0).2).length) c63) (((startD D0).2).length) (((startD D0).2).flatMap encA), coreC k112 t113 hb114 cb115 ab116 lb117 pb118 D] w119 := H88.addU u121 k122 q123
     refine ⟨_, rfl, ?_⟩
     refine hK111 _ _ ?_
     clear hK111 K111
     refine wv 93 (pt p33 0) ?_
     refine wl_do (wants0 rfl) (fun K124 hK124 => ?_)
     refine d_call (d := 94) rfl (by kernel_rfl) (rcCopy_any w119 p33 t34 v u R ((H120.at 0 rfl).1 _ (List.mem_cons_of_mem _ (List.mem_cons_self ..))) hRel.cr) ?_
     rintro _ w129 ⟨p125, t126, v127, u128, rfl, k132, u131, q133⟩
     have H130 : Sat w [sepC [coreC k19 t20 hb21 cb22 ab23 lb24 pb25 D, rcC p33 t34 v u R], restC w (fun _ => False), cellC b6 25 ([(.int .i64 (F)), (.int .i64 (1))] : List Value), rowC 45 35 (.slice a49 (((startD D0).2).length) c50) (((startD D0).2).length) (((startD D0).2).flatMap encA), rowC 102 35 (.slice a62 (((startD D0).2).length) c63) (((startD D0).2).length) (((startD D0).2).flatMap encA), coreC k112 t113 hb114 cb115 ab116 lb117 pb118 D, rcC p125 t126 v127 u128 R] w129 := H120.addU u131 k132 q133
     have H134 : Sat w [sepC [coreC k112 t113 hb114 cb115 ab116 lb117 pb118 D, rcC p125 t126 v127 u128 R], sepC [coreC k19 t20 hb21 cb22 ab23 lb24 pb25 D, rcC p33 t34 v u R], restC w (fun _ => False), cellC b6 25 ([(.int .i64 (F)), (.int .i64 (1))] : List Value), rowC 45 35 (.slice a49 (((startD D0).2).length) c50) (((startD D0).2).length) (((startD D0).2).flatMap encA), rowC 102 35 (.slice a62 (((startD D0).2).length) c63) (((startD D0).2).length) (((startD D0).2).flatMap encA)] w129 := Sat.closeL (L := [coreC k112 t113 hb114 cb115 ab116 lb117 pb118 D, rcC p125 t126 v127 u128 R]) (R := [sepC [coreC k19 t20 hb21 cb22 ab23 lb24 pb25 D, rcC p33 t34 v u R], restC w (fun _ => False), cellC b6 25 ([(.int .i64 (F)), (.int .i64 (1))] : List Value), rowC 45 35 (.slice a49 (((startD D0).2).length) c50) (((startD D0).2).length) (((startD D0).2).flatMap encA), rowC 102 35 (.slice a62 (((startD D0).2).length) c63) (((startD D0).2).length) (((startD D0).2).flatMap encA)]) (H130.pick [5, 6, 0, 1, 2, 3, 4] (by decide))
     refine ⟨_, rfl, ?_⟩
     refine hK124 _ _ ?_
     clear hK124 K124
     refine wv 20 (pt k112 0) ?_
     refine wv 21 (pt p125 0) ?_
     refine w_nil ?_
     refine then_normal ?_
     iterate 2 refine w_seq ?_
     refine w_lit ?_
     refine wv 95 (pt k112 0) ?_
     refine wv 96 (.bool false) ?_
     refine w_nil ?_
     refine then_normal ?_
     refine wp_iff rfl ?_
     refine w_skip ?_
     refine then_normal ?_
     iterate 2 refine w_seq ?_
     refine w_lit ?_
     refine wv 22 (.int .i64 (0)) ?_
     refine w_nil ?_
     refine then_normal ?_
     refine w_block ?_
     refine wp_round [12, 22, 97, 98, 99, 100, 101, 102, 103, 104, 105, 106, 107, 108, 109, 110, 111, 112, 113, 114, 115, 116] (fun F_ W_ m_ => ∃ (i : Nat) (E S : CoreD) (v2 u2 : Value), F_ 22 = (.int .i64 ((i : Int))) ∧ (i ≤ 15) ∧ (RelC E S) ∧ Sat w [sepC [coreC k112 t113 hb114 cb115 ab116 lb117 pb118 E, rcC p125 t126 v2 u2 S], sepC [coreC k19 t20 hb21 cb22 ab23 lb24 pb25 D, rcC p33 t34 v u R], restC w (fun _ => False), cellC b6 25 ([(.int .i64 (F)), (.int .i64 (1))] : List Value), rowC 45 35 (.slice a49 (((startD D0).2).length) c50) (((startD D0).2).length) (((startD D0).2).flatMap encA), rowC 102 35 (.slice a62 (((startD D0).2).length) c63) (((startD D0).2).length) (((startD D0).2).flatMap encA)] W_ ∧ m_ = 15 - i) _ ⟨0, D, R, v127, u128, (show ((.int .i64 (0)) : Value) = _ by first | rfl | go_num), (Nat.zero_le _), hRel, H134, rfl⟩ ?_
     rintro g135 w136 _ ⟨i, E, S, v2, u2, v138, hi, hRel2, H137, rfl⟩
     refine wp_know 22 _ v138 ?_
     refine w_seq ?_
     refine wp_meetR [97, 98, 99, 100, 101, 102, 103, 104] (fun G_ W_ => G_ 104 = (.bool (decide ((i : Int) < ms.length) && decide ((i : Int) < 15))) ∧ Sat w [sepC [coreC k112 t113 hb114 cb115 ab116 lb117 pb118 E, rcC p125 t126 v2 u2 S], sepC [coreC k19 t20 hb21 cb22 ab23 lb24 pb25 D, rcC p33 t34 v u R], restC w (fun _ => False), cellC b6 25 ([(.int .i64 (F)), (.int .i64 (1))] : List Value), rowC 45 35 (.slice a49 (((startD D0).2).length) c50) (((startD D0).2).length) (((startD D0).2).flatMap encA), rowC 102 35 (.slice a62 (((startD D0).2).length) c63) (((startD D0).2).length) (((startD D0).2).flatMap encA)] W_) ?_ ?_
     ·refine w_lit ?_
      refine wv 97 (.int .i64 ((i : Int))) ?_
      refine wv 98 (.slice vb ms.length vd) ?_
      refine wv 99 (.int .i64 ((ms.length : Int))) ?_
      refine wv 100 (.bool (decide ((i : Int) < (ms.length : Int)))) ?_
      refine wv 101 (.bool (decide ((i : Int) < (ms.length : Int)))) ?_
      refine (bsplit (decide ((i : Int) < (ms.length : Int)))).elim (fun b141 => ?_) (fun b141 => ?_)
      ·have g142 := of_decide_eq_true b141
       refine wl_know 101 (.bool true) (congrArg Value.bool b141) ?_
       have g143 := of_decide_eq_true b141
       refine wy 4 101 true 102 (.int .i64 ((i : Int))) ?_
       refine wy 4 101 true 103 (.bool (decide ((i : Int) < 15))) ?_
       refine wv 104 (.bool (decide ((i : Int) < 15))) ?_
       refine w_nil ?_
       refine meetR_at ?_ ⟨(congrArg Value.bool (show (decide ((i : Int) < 15)) = (decide ((i : Int) < ms.length) && decide ((i : Int) < 15)) by (simp <;> omega))), H137⟩
       exact (same_upd rfl (same_upd rfl (same_upd rfl (same_upd rfl (same_upd rfl (same_upd rfl (same_upd rfl (same_upd rfl (same_upd rfl (same_refl))))))))))
      ·have g144 := of_decide_eq_false b141
       refine wl_know 101 (.bool false) (congrArg Value.bool b141) ?_
       have g145 := of_decide_eq_false b141
       iterate 2 refine wn 4 101 true ?_
       refine wv 104 (.bool false) ?_
       refine w_nil ?_
       refine meetR_at ?_ ⟨(congrArg Value.bool (show false = (decide ((i : Int) < ms.length) && decide ((i : Int) < 15)) by (simp <;> omega))), H137⟩
       exact (same_upd rfl (same_upd rfl (same_upd rfl (same_upd rfl (same_upd rfl (same_upd rfl (same_upd rfl (same_upd rfl (same_upd rfl (same_refl))))))))))
     ·rintro f146 w147 ⟨v149, H148⟩
      refine wp_know 104 _ v149 ?_
      refine (bsplit (decide ((i : Int) < ms.length) && decide ((i : Int) < 15))).elim (fun b150 => ?_) (fun b150 => ?_)
      ·refine wp_know 104 (.bool true) (congrArg Value.bool b150) ?_
       refine wp_ift rfl ?_
       refine w_skip ?_
       refine then_normal ?_
       refine w_seq ?_
       refine w_block ?_
       refine w_seq ?_
       have hil : (i : Int) < ms.length ∧ (i : Int) < 15 := by simpa using b150
       refine w_lit ?_
       refine wv 107 (pt k112 0) ?_
       refine wv 108 (pt p125 0) ?_
       refine wv 109 (.slice vb ms.length vd) ?_
       refine wv 110 (.int .i64 ((i : Int))) ?_
       obtain ⟨g151, o152, c153, e154, R155⟩ := SliceOf.atD hms inD0 (show i < ms.length by omega)
       refine wv 111 (.pointer (some ⟨g151, o152 + ((i : Int)).toNat * 39, none⟩)) ?_ (hr := e_indexAddrW (E := 57) (by kernel_rfl) (by kernel_rfl) (Nat.le_of_ble_eq_true rfl) rfl e154 rfl (by omega) (by omega))
       refine wv 112 (.agg ⟨(([(.int .i64 ((ms.getD i inD0).doo)), (.int .i64 ((ms.getD i inD0).kind)), (.int .i64 ((ms.getD i inD0).round)), (.int .i64 ((ms.getD i inD0).valid)), (.int .i64 ((ms.getD i inD0).replica))] : List Value) ++ hc (ms.getD i inD0).h ++ ([(.bool ((ms.getD i inD0).ok)), (.bool ((ms.getD i inD0).raw))] : List Value))⟩) ?_ (hr := e_loadRun (vs := (([(.int .i64 ((ms.getD i inD0).doo)), (.int .i64 ((ms.getD i inD0).kind)), (.int .i64 ((ms.getD i inD0).round)), (.int .i64 ((ms.getD i inD0).valid)), (.int .i64 ((ms.getD i inD0).replica))] : List Value) ++ hc (ms.getD i inD0).h ++ ([(.bool ((ms.getD i inD0).ok)), (.bool ((ms.getD i inD0).raw))] : List Value))) rfl (by kernel_rfl) (by kernel_rfl) (Nat.le_of_ble_eq_true (by kernel_rfl)) (H148.runR 2 rfl (cells_run R155 0 (by kernel_rfl) (show o152 + ((i : Int)).toNat * 39 = o152 + i * 39 + 0 by omega)) (fun h => h)))
       refine wv 113 (.int .i64 (3 * F + 1)) ?_
       refine wl_do (wants0 rfl) (fun K156 hK156 => ?_)
       obtain ⟨x157, hx158⟩ : ∃ x, cutI (3 * F + 1) (ms.getD i inD0) = x := ⟨_, rfl⟩
       refine d_call (d := 114) rfl (by kernel_rfl) (cutI_any w147 (ms.getD i inD0) (3 * F + 1) (by omega)) ?_
       rw [hx158]
       rintro _ w159 ⟨rfl, u161⟩
       have H160 := H148.keepU u161
       refine ⟨_, rfl, ?_⟩
       refine hK156 _ _ ?_
       clear hK156 K156
       refine wl_do (wants0 rfl) (fun K162 hK162 => ?_)
       refine d_call (d := 115) rfl (by kernel_rfl) (give_any w159 k112 t113 hb114 cb115 ab116 lb117 pb118 p125 t126 v2 u2 E S (H160.at 0 rfl) hRel2 x157) ?_
       rintro _ w163 ⟨rfl, v164, u165, D166, R167, hr168, S169⟩
       have H170 : Sat w [sepC [coreC k112 t113 hb114 cb115 ab116 lb117 pb118 D166, rcC p125 t126 v164 u165 R167], sepC [coreC k19 t20 hb21 cb22 ab23 lb24 pb25 D, rcC p33 t34 v u R], restC w (fun _ => False), cellC b6 25 ([(.int .i64 (F)), (.int .i64 (1))] : List Value), rowC 45 35 (.slice a49 (((startD D0).2).length) c50) (((startD D0).2).length) (((startD D0).2).flatMap encA), rowC 102 35 (.slice a62 (((startD D0).2).length) c63) (((startD D0).2).length) (((startD D0).2).flatMap encA)] w163 := (Sat.turned2 (A := coreC k112 t113 hb114 cb115 ab116 lb117 pb118 D166) (B := rcC p125 t126 v164 u165 R167) (R := [sepC [coreC k19 t20 hb21 cb22 ab23 lb24 pb25 D, rcC p33 t34 v u R], restC w (fun _ => False), cellC b6 25 ([(.int .i64 (F)), (.int .i64 (1))] : List Value), rowC 45 35 (.slice a49 (((startD D0).2).length) c50) (((startD D0).2).length) (((startD D0).2).flatMap encA), rowC 102 35 (.slice a62 (((startD D0).2).length) c63) (((startD D0).2).length) (((startD D0).2).flatMap encA)]) H160 0 [1, 2, 3, 4, 5] (by decide) rfl rfl S169).pick [0, 1, 2, 3, 4, 5] (by decide)
       refine ⟨_, rfl, ?_⟩
       refine hK162 _ _ ?_
       clear hK162 K162
       refine wv 116 (.bool false) ?_
       refine w_nil ?_
       refine then_normal ?_
       refine wp_iff rfl ?_
       refine w_skip ?_
       refine blk_normal ?_
       refine then_normal ?_
       refine w_lit ?_
       refine wv 105 (.int .i64 ((i : Int))) ?_
       refine wv 106 (.int .i64 ((i : Int) + 1)) ?_ (hr := e_int (z := (i : Int) + 1) (by kernel_rfl) (IntWalk.i64_in _ (by omega)))
       refine wv 22 (.int .i64 ((i : Int) + 1)) ?_
       refine w_nil ?_
       refine round_back ?_ _ ⟨(i + 1), D166, R167, v164, u165, (show ((.int .i64 ((i : Int) + 1)) : Value) = _ by first | rfl | go_num), (by omega), hr168, H170, rfl⟩ (by omega)
       exact (same_upd rfl (same_upd rfl (same_upd rfl (same_upd rfl (same_upd rfl (same_upd rfl (same_upd rfl (same_upd rfl (same_upd rfl (same_upd rfl (same_upd rfl (same_upd rfl (same_upd rfl (same_upd rfl (same_upd rfl (same_ovr2 rfl (same_upd rfl (same_ovr))))))))))))))))))
      ·refine wp_know 104 (.bool false) (congrArg Value.bool b150) ?_
       refine wp_iff rfl ?_
       refine w_exit ?_
       refine then_exit ?_
       refine back_exit ?_
       refine blk_hit ?_
       refine then_normal ?_
       refine w_seq ?_
       have H171 : Sat w [sepC [coreC k112 t113 hb114 cb115 ab116 lb117 pb118 E, rcC p125 t126 v2 u2 S], coreC k19 t20 hb21 cb22 ab23 lb24 pb25 D, rcC p33 t34 v u R, restC w (fun _ => False), cellC b6 25 ([(.int .i64 (F)), (.int .i64 (1))] : List Value), rowC 45 35 (.slice a49 (((startD D0).2).length) c50) (((startD D0).2).length) (((startD D0).2).flatMap encA), rowC 102 35 (.slice a62 (((startD D0).2).length) c63) (((startD D0).2).length) (((startD D0).2).flatMap encA)] w147 := H148.open 1 rfl
       have H172 : Sat w [sepC [coreC k112 t113 hb114 cb115 ab116 lb117 pb118 E, rcC p125 t126 v2 u2 S], cellC k19 92 (coreL t20 pb25 D), talC t20 hb21 cb22 ab23 lb24 D.f D.c D.L, mapC pb25 (Value.int .i64) propV D.P, rcC p33 t34 v u R, restC w (fun _ => False), cellC b6 25 ([(.int .i64 (F)), (.int .i64 (1))] : List Value), rowC 45 35 (.slice a49 (((startD D0).2).length) c50) (((startD D0).2).length) (((startD D0).2).flatMap encA), rowC 102 35 (.slice a62 (((startD D0).2).length) c63) (((startD D0).2).length) (((startD D0).2).flatMap encA)] w147 := H171.open 1 rfl
       have H173 : Sat w [sepC [coreC k112 t113 hb114 cb115 ab116 lb117 pb118 E, rcC p125 t126 v2 u2 S], cellC k19 92 (coreL t20 pb25 D), talC t20 hb21 cb22 ab23 lb24 D.f D.c D.L, mapC pb25 (Value.int .i64) propV D.P, cellC p33 83 (rcL t34 u R), cellC t34 101 ([(.int .i64 (R.f)), (.int .i64 (R.c)), v] : List Value), rowC 143 35 v R.L.length (R.L.flatMap encV), rowC 129 35 u R.P.length (R.P.flatMap encQ), restC w (fun _ => False), cellC b6 25 ([(.int .i64 (F)), (.int .i64 (1))] : List Value), rowC 45 35 (.slice a49 (((startD D0).2).length) c50) (((startD D0).2).length) (((startD D0).2).flatMap encA), rowC 102 35 (.slice a62 (((startD D0).2).length) c63) (((startD D0).2).length) (((startD D0).2).flatMap encA)] w147 := H172.open 4 rfl
       obtain ⟨a174, c175, rfl⟩ := ownsRow_shape (H173.at 6 rfl)
       obtain ⟨a176, c177, rfl⟩ := ownsRow_shape (H173.at 7 rfl)
       refine q_start H173 (by kernel_rfl) (by kernel_rfl) ?_
       refine qv 117 (pt k19 0) ?_
       refine q_call (wants0 rfl) (d := 118) (v := (.agg ⟨(([(.int .i64 (D.s.round)), (.int .i64 (D.s.step)), (.int .i64 (D.s.lr)), (.int .i64 (D.s.vr))] : List Value) ++ hc D.s.locked ++ hc D.s.valid ++ ([(.bool (D.s.decided))] : List Value) ++ hc D.s.decision)⟩)) rfl (fun _ _ => by kernel_rfl) (fun w' H' => (coreState_any w' k19 t20 hb21 cb22 ab23 lb24 pb25 D (ok_of (by kernel_rfl) (H'.fin [1, 2, 3] (by decide) rfl)) hRel.ci).mono fun _ _ h => ⟨h.1, H'.keepU h.2⟩) ?_
       refine qv 119 (pt p33 0) ?_
       refine qv 120 (pt p33 0) ?_
       refine qv 121 (pt p33 4) ?_
       refine qv 122 (.agg ⟨(([(.int .i64 (R.s.round)), (.int .i64 (R.s.step)), (.int .i64 (R.s.lr)), (.int .i64 (R.s.vr))] : List Value) ++ hc R.s.locked ++ hc R.s.valid ++ ([(.bool (R.s.decided))] : List Value) ++ hc R.s.decision)⟩) ?_ (hr := fun _ H' => (e_loadN (vs := (([(.int .i64 (R.s.round)), (.int .i64 (R.s.step)), (.int .i64 (R.s.lr)), (.int .i64 (R.s.vr))] : List Value) ++ hc R.s.locked ++ hc R.s.valid ++ ([(.bool (R.s.decided))] : List Value) ++ hc R.s.decision)) rfl (by kernel_rfl) (by kernel_rfl) (by exact Nat.le_of_ble_eq_true (by kernel_rfl)) (H'.at 4 rfl) (by kernel_rfl)))
       refine qv 123 (.bool (decide (D.s = R.s))) ?_ (hr := fun _ H' => (rstateF.e_eq D.s R.s rfl rfl))
       refine qv 124 (.bool (decide (D.s = R.s))) ?_
       have b178 : (decide (D.s = R.s)) = true := by (simp [hRel.s])
       refine q_know 124 (.bool true) (congrArg Value.bool b178) ?_
       have g179 := of_decide_eq_true b178
       refine q_call (wantsY 7 124 true rfl (by kernel_rfl) rfl (by kernel_rfl)) (d := 125) (v := (.bool true)) rfl (fun _ _ => by kernel_rfl) (fun w' H' => (wakes_any w').mono fun _ _ h => ⟨h.1, H'.keepU h.2⟩) ?_
       refine qv 126 (.bool true) ?_
       refine qv 12 (.bool true) ?_
       refine q_end ?_
       intro w180 H181
       refine then_normal ?_
       refine w_ret ?_
       refine end1 rfl (res_tmp (v := (.bool true)) rfl) ?_
       exact ⟨rfl, H181.upd 8 rfl [] (fun _ h => h.elim)⟩
  ·refine wl_know 60 (.bool false) (congrArg Value.bool b42) ?_
   iterate 6 refine wn 8 60 true ?_
   refine wy 6 58 false 67 (.bool false) ?_
   refine wv 68 (.bool false) ?_
   refine w_nil ?_
   refine then_normal ?_
   refine wp_iff rfl ?_
   refine w_skip ?_
   refine then_normal ?_
   refine w_seq ?_
   refine w_lit ?_
   refine wv 69 (.agg ⟨([(.int .i64 (F)), (.int .i64 (1))] : List Value)⟩) ?_ (hr := e_loadN (vs := ([(.int .i64 (F)), (.int .i64 (1))] : List Value)) rfl (by kernel_rfl) (by kernel_rfl) (by exact Nat.le_of_ble_eq_true (by kernel_rfl)) (H29.at 1 rfl) (by kernel_rfl))
   refine wl_do (wants0 rfl) (fun K182 hK182 => ?_)
   refine d_call (d := 70) rfl (by kernel_rfl) (refN_any w28 F 1 (by omega)) ?_
   rintro _ w183 ⟨rfl, u185⟩
   have H184 := H29.keepU u185
   refine ⟨_, rfl, ?_⟩
   refine hK182 _ _ ?_
   clear hK182 K182
   refine wv 18 (.int .i64 (3 * F + 1)) ?_
   refine w_nil ?_
   refine then_normal ?_
   iterate 2 refine w_seq ?_
   refine w_lit ?_
   refine wv 19 (.int .i64 (0)) ?_
   refine w_nil ?_
   refine then_normal ?_
   refine w_block ?_
   have H186 : Sat w [rcC p33 t34 (.slice a38 D0.L.length c39) (.slice a40 D0.P.length c41) D0, cellC k19 92 (coreL t20 pb25 D0), talC t20 hb21 cb22 ab23 lb24 D0.f D0.c D0.L, mapC pb25 (Value.int .i64) propV D0.P, restC w (fun _ => False), cellC b6 25 ([(.int .i64 (F)), (.int .i64 (1))] : List Value)] w183 := Sat.closeL (L := [cellC p33 83 (rcL t34 (.slice a40 D0.P.length c41) D0), cellC t34 101 ([(.int .i64 (D0.f)), (.int .i64 (D0.c)), (.slice a38 D0.L.length c39)] : List Value), rowC 143 35 (.slice a38 D0.L.length c39) D0.L.length (D0.L.flatMap encV), rowC 129 35 (.slice a40 D0.P.length c41) D0.P.length (D0.P.flatMap encQ)]) (R := [cellC k19 92 (coreL t20 pb25 D0), talC t20 hb21 cb22 ab23 lb24 D0.f D0.c D0.L, mapC pb25 (Value.int .i64) propV D0.P, restC w (fun _ => False), cellC b6 25 ([(.int .i64 (F)), (.int .i64 (1))] : List Value)]) (H184.pick [5, 6, 7, 8, 2, 3, 4, 0, 1] (by decide))
   have H187 : Sat w [coreC k19 t20 hb21 cb22 ab23 lb24 pb25 D0, rcC p33 t34 (.slice a38 D0.L.length c39) (.slice a40 D0.P.length c41) D0, restC w (fun _ => False), cellC b6 25 ([(.int .i64 (F)), (.int .i64 (1))] : List Value)] w183 := Sat.closeL (L := [cellC k19 92 (coreL t20 pb25 D0), talC t20 hb21 cb22 ab23 lb24 D0.f D0.c D0.L, mapC pb25 (Value.int .i64) propV D0.P]) (R := [rcC p33 t34 (.slice a38 D0.L.length c39) (.slice a40 D0.P.length c41) D0, restC w (fun _ => False), cellC b6 25 ([(.int .i64 (F)), (.int .i64 (1))] : List Value)]) (H186.pick [1, 2, 3, 0, 4, 5] (by decide))
   have H188 : Sat w [sepC [coreC k19 t20 hb21 cb22 ab23 lb24 pb25 D0, rcC p33 t34 (.slice a38 D0.L.length c39) (.slice a40 D0.P.length c41) D0], restC w (fun _ => False), cellC b6 25 ([(.int .i64 (F)), (.int .i64 (1))] : List Value)] w183 := Sat.closeL (L := [coreC k19 t20 hb21 cb22 ab23 lb24 pb25 D0, rcC p33 t34 (.slice a38 D0.L.length c39) (.slice a40 D0.P.length c41) D0]) (R := [restC w (fun _ => False), cellC b6 25 ([(.int .i64 (F)), (.int .i64 (1))] : List Value)]) H187
   refine wp_round [12, 19, 71, 72, 73, 74, 75, 76, 77, 78, 79, 80, 81, 82, 83, 84, 85, 86, 87, 88, 89, 90] (fun F_ W_ m_ => ∃ (i : Nat) (D R : CoreD) (v u : Value), F_ 19 = (.int .i64 ((i : Int))) ∧ (i ≤ 40) ∧ (RelC D R) ∧ Sat w [sepC [coreC k19 t20 hb21 cb22 ab23 lb24 pb25 D, rcC p33 t34 v u R], restC w (fun _ => False), cellC b6 25 ([(.int .i64 (F)), (.int .i64 (1))] : List Value)] W_ ∧ m_ = 40 - i) _ ⟨0, D0, D0, (.slice a38 D0.L.length c39), (.slice a40 D0.P.length c41), (show ((.int .i64 (0)) : Value) = _ by first | rfl | go_num), (Nat.zero_le _), (RelC.refl C0), H188, rfl⟩ ?_
   rintro g189 w190 _ ⟨i, D, R, v, u, v192, hi, hRel, H191, rfl⟩
   refine wp_know 19 _ v192 ?_
   refine w_seq ?_
   refine wp_meetR [71, 72, 73, 74, 75, 76, 77, 78] (fun G_ W_ => G_ 78 = (.bool (decide ((i : Int) < ls.length) && decide ((i : Int) < 40))) ∧ Sat w [sepC [coreC k19 t20 hb21 cb22 ab23 lb24 pb25 D, rcC p33 t34 v u R], restC w (fun _ => False), cellC b6 25 ([(.int .i64 (F)), (.int .i64 (1))] : List Value)] W_) ?_ ?_
   ·refine w_lit ?_
    refine wv 71 (.int .i64 ((i : Int))) ?_
    refine wv 72 (.slice va ls.length vc) ?_
    refine wv 73 (.int .i64 ((ls.length : Int))) ?_
    refine wv 74 (.bool (decide ((i : Int) < (ls.length : Int)))) ?_
    refine wv 75 (.bool (decide ((i : Int) < (ls.length : Int)))) ?_
    refine (bsplit (decide ((i : Int) < (ls.length : Int)))).elim (fun b195 => ?_) (fun b195 => ?_)
    ·have g196 := of_decide_eq_true b195
     refine wl_know 75 (.bool true) (congrArg Value.bool b195) ?_
     have g197 := of_decide_eq_true b195
     refine wy 4 75 true 76 (.int .i64 ((i : Int))) ?_
     refine wy 4 75 true 77 (.bool (decide ((i : Int) < 40))) ?_
     refine wv 78 (.bool (decide ((i : Int) < 40))) ?_
     refine w_nil ?_
     refine meetR_at ?_ ⟨(congrArg Value.bool (show (decide ((i : Int) < 40)) = (decide ((i : Int) < ls.length) && decide ((i : Int) < 40)) by (simp <;> omega))), H191⟩
     exact (same_upd rfl (same_upd rfl (same_upd rfl (same_upd rfl (same_upd rfl (same_upd rfl (same_upd rfl (same_upd rfl (same_upd rfl (same_refl))))))))))
    ·have g198 := of_decide_eq_false b195
     refine wl_know 75 (.bool false) (congrArg Value.bool b195) ?_
     have g199 := of_decide_eq_false b195
     iterate 2 refine wn 4 75 true ?_
     refine wv 78 (.bool false) ?_
     refine w_nil ?_
     refine meetR_at ?_ ⟨(congrArg Value.bool (show false = (decide ((i : Int) < ls.length) && decide ((i : Int) < 40)) by (simp <;> omega))), H191⟩
     exact (same_upd rfl (same_upd rfl (same_upd rfl (same_upd rfl (same_upd rfl (same_upd rfl (same_upd rfl (same_upd rfl (same_upd rfl (same_refl))))))))))
   ·rintro f200 w201 ⟨v203, H202⟩
    refine wp_know 78 _ v203 ?_
    refine (bsplit (decide ((i : Int) < ls.length) && decide ((i : Int) < 40))).elim (fun b204 => ?_) (fun b204 => ?_)
    ·refine wp_know 78 (.bool true) (congrArg Value.bool b204) ?_
     refine wp_ift rfl ?_
     refine w_skip ?_
     refine then_normal ?_
     refine w_seq ?_
     refine w_block ?_
     refine w_seq ?_
     have hil : (i : Int) < ls.length ∧ (i : Int) < 40 := by simpa using b204
     refine w_lit ?_
     refine wv 81 (pt k19 0) ?_
     refine wv 82 (pt p33 0) ?_
     refine wv 83 (.slice va ls.length vc) ?_
     refine wv 84 (.int .i64 ((i : Int))) ?_
     obtain ⟨g205, o206, c207, e208, R209⟩ := SliceOf.atD hls inD0 (show i < ls.length by omega)
     refine wv 85 (.pointer (some ⟨g205, o206 + ((i : Int)).toNat * 39, none⟩)) ?_ (hr := e_indexAddrW (E := 57) (by kernel_rfl) (by kernel_rfl) (Nat.le_of_ble_eq_true rfl) rfl e208 rfl (by omega) (by omega))
     refine wv 86 (.agg ⟨(([(.int .i64 ((ls.getD i inD0).doo)), (.int .i64 ((ls.getD i inD0).kind)), (.int .i64 ((ls.getD i inD0).round)), (.int .i64 ((ls.getD i inD0).valid)), (.int .i64 ((ls.getD i inD0).replica))] : List Value) ++ hc (ls.getD i inD0).h ++ ([(.bool ((ls.getD i inD0).ok)), (.bool ((ls.getD i inD0).raw))] : List Value))⟩) ?_ (hr := e_loadRun (vs := (([(.int .i64 ((ls.getD i inD0).doo)), (.int .i64 ((ls.getD i inD0).kind)), (.int .i64 ((ls.getD i inD0).round)), (.int .i64 ((ls.getD i inD0).valid)), (.int .i64 ((ls.getD i inD0).replica))] : List Value) ++ hc (ls.getD i inD0).h ++ ([(.bool ((ls.getD i inD0).ok)), (.bool ((ls.getD i inD0).raw))] : List Value))) rfl (by kernel_rfl) (by kernel_rfl) (Nat.le_of_ble_eq_true (by kernel_rfl)) (H202.runR 1 rfl (cells_run R209 0 (by kernel_rfl) (show o206 + ((i : Int)).toNat * 39 = o206 + i * 39 + 0 by omega)) (fun h => h)))
     refine wv 87 (.int .i64 (3 * F + 1)) ?_
     refine wl_do (wants0 rfl) (fun K210 hK210 => ?_)
     obtain ⟨x211, hx212⟩ : ∃ x, cutI (3 * F + 1) (ls.getD i inD0) = x := ⟨_, rfl⟩
     refine d_call (d := 88) rfl (by kernel_rfl) (cutI_any w201 (ls.getD i inD0) (3 * F + 1) (by omega)) ?_
     rw [hx212]
     rintro _ w213 ⟨rfl, u215⟩
     have H214 := H202.keepU u215
     refine ⟨_, rfl, ?_⟩
     refine hK210 _ _ ?_
     clear hK210 K210
     refine wl_do (wants0 rfl) (fun K216 hK216 => ?_)
     refine d_call (d := 89) rfl (by kernel_rfl) (give_any w213 k19 t20 hb21 cb22 ab23 lb24 pb25 p33 t34 v u D R (H214.at 0 rfl) hRel x211) ?_
     rintro _ w217 ⟨rfl, v218, u219, D220, R221, hr222, S223⟩
     have H224 : Sat w [sepC [coreC k19 t20 hb21 cb22 ab23 lb24 pb25 D220, rcC p33 t34 v218 u219 R221], restC w (fun _ => False), cellC b6 25 ([(.int .i64 (F)), (.int .i64 (1))] : List Value)] w217 := (Sat.turned2 (A := coreC k19 t20 hb21 cb22 ab23 lb24 pb25 D220) (B := rcC p33 t34 v218 u219 R221) (R := [restC w (fun _ => False), cellC b6 25 ([(.int .i64 (F)), (.int .i64 (1))] : List Value)]) H214 0 [1, 2] (by decide) rfl rfl S223).pick [0, 1, 2] (by decide)
     refine ⟨_, rfl, ?_⟩
     refine hK216 _ _ ?_
     clear hK216 K216
     refine wv 90 (.bool false) ?_
     refine w_nil ?_
     refine then_normal ?_
     refine wp_iff rfl ?_
     refine w_skip ?_
     refine blk_normal ?_
     refine then_normal ?_
     refine w_lit ?_
     refine wv 79 (.int .i64 ((i : Int))) ?_
     refine wv 80 (.int .i64 ((i : Int) + 1)) ?_ (hr := e_int (z := (i : Int) + 1) (by kernel_rfl) (IntWalk.i64_in _ (by omega)))
     refine wv 19 (.int .i64 ((i : Int) + 1)) ?_
     refine w_nil ?_
     refine round_back ?_ _ ⟨(i + 1), D220, R221, v218, u219, (show ((.int .i64 ((i : Int) + 1)) : Value) = _ by first | rfl | go_num), (by omega), hr222, H224, rfl⟩ (by omega)
     exact (same_upd rfl (same_upd rfl (same_upd rfl (same_upd rfl (same_upd rfl (same_upd rfl (same_upd rfl (same_upd rfl (same_upd rfl (same_upd rfl (same_upd rfl (same_upd rfl (same_upd rfl (same_upd rfl (same_upd rfl (same_ovr2 rfl (same_upd rfl (same_ovr))))))))))))))))))
    ·refine wp_know 78 (.bool false) (congrArg Value.bool b204) ?_
     refine wp_iff rfl ?_
     refine w_exit ?_
     refine then_exit ?_
     refine back_exit ?_
     refine blk_hit ?_
     refine then_normal ?_
     refine w_seq ?_
     refine w_lit ?_
     refine wv 91 (pt k19 0) ?_
     refine wl_do (wants0 rfl) (fun K225 hK225 => ?_)
     refine d_call (d := 92) rfl (by kernel_rfl) (coreClone_any w201 k19 t20 hb21 cb22 ab23 lb24 pb25 D ((H202.at 0 rfl).1 _ (List.mem_cons_self ..)) hRel.ci) ?_
     rintro _ w233 ⟨k226, t227, hb228, cb229, ab230, lb231, pb232, rfl, k236, u235, q237⟩
     have H234 : Sat w [sepC [coreC k19 t20 hb21 cb22 ab23 lb24 pb25 D, rcC p33 t34 v u R], restC w (fun _ => False), cellC b6 25 ([(.int .i64 (F)), (.int .i64 (1))] : List Value), coreC k226 t227 hb228 cb229 ab230 lb231 pb232 D] w233 := H202.addU u235 k236 q237
     refine ⟨_, rfl, ?_⟩
     refine hK225 _ _ ?_
     clear hK225 K225
     refine wv 93 (pt p33 0) ?_
     refine wl_do (wants0 rfl) (fun K238 hK238 => ?_)
     refine d_call (d := 94) rfl (by kernel_rfl) (rcCopy_any w233 p33 t34 v u R ((H234.at 0 rfl).1 _ (List.mem_cons_of_mem _ (List.mem_cons_self ..))) hRel.cr) ?_
     rintro _ w243 ⟨p239, t240, v241, u242, rfl, k246, u245, q247⟩
     have H244 : Sat w [sepC [coreC k19 t20 hb21 cb22 ab23 lb24 pb25 D, rcC p33 t34 v u R], restC w (fun _ => False), cellC b6 25 ([(.int .i64 (F)), (.int .i64 (1))] : List Value), coreC k226 t227 hb228 cb229 ab230 lb231 pb232 D, rcC p239 t240 v241 u242 R] w243 := H234.addU u245 k246 q247
     have H248 : Sat w [sepC [coreC k226 t227 hb228 cb229 ab230 lb231 pb232 D, rcC p239 t240 v241 u242 R], sepC [coreC k19 t20 hb21 cb22 ab23 lb24 pb25 D, rcC p33 t34 v u R], restC w (fun _ => False), cellC b6 25 ([(.int .i64 (F)), (.int .i64 (1))] : List Value)] w243 := Sat.closeL (L := [coreC k226 t227 hb228 cb229 ab230 lb231 pb232 D, rcC p239 t240 v241 u242 R]) (R := [sepC [coreC k19 t20 hb21 cb22 ab23 lb24 pb25 D, rcC p33 t34 v u R], restC w (fun _ => False), cellC b6 25 ([(.int .i64 (F)), (.int .i64 (1))] : List Value)]) (H244.pick [3, 4, 0, 1, 2] (by decide))
     refine ⟨_, rfl, ?_⟩
     refine hK238 _ _ ?_
     clear hK238 K238
     refine wv 20 (pt k226 0) ?_
     refine wv 21 (pt p239 0) ?_
     refine w_nil ?_
     refine then_normal ?_
     iterate 2 refine w_seq ?_
     refine w_lit ?_
     refine wv 95 (pt k226 0) ?_
     refine wv 96 (.bool false) ?_
     refine w_nil ?_
     refine then_normal ?_
     refine wp_iff rfl ?_
     refine w_skip ?_
     refine then_normal ?_
     iterate 2 refine w_seq ?_
     refine w_lit ?_
     refine wv 22 (.int .i64 (0)) ?_
     refine w_nil ?_
     refine then_normal ?_
     refine w_block ?_
     refine wp_round [12, 22, 97, 98, 99, 100, 101, 102, 103, 104, 105, 106, 107, 108, 109, 110, 111, 112, 113, 114, 115, 116] (fun F_ W_ m_ => ∃ (i : Nat) (E S : CoreD) (v2 u2 : Value), F_ 22 = (.int .i64 ((i : Int))) ∧ (i ≤ 15) ∧ (RelC E S) ∧ Sat w [sepC [coreC k226 t227 hb228 cb229 ab230 lb231 pb232 E, rcC p239 t240 v2 u2 S], sepC [coreC k19 t20 hb21 cb22 ab23 lb24 pb25 D, rcC p33 t34 v u R], restC w (fun _ => False), cellC b6 25 ([(.int .i64 (F)), (.int .i64 (1))] : List Value)] W_ ∧ m_ = 15 - i) _ ⟨0, D, R, v241, u242, (show ((.int .i64 (0)) : Value) = _ by first | rfl | go_num), (Nat.zero_le _), hRel, H248, rfl⟩ ?_
     rintro g249 w250 _ ⟨i, E, S, v2, u2, v252, hi, hRel2, H251, rfl⟩
     refine wp_know 22 _ v252 ?_
     refine w_seq ?_
     refine wp_meetR [97, 98, 99, 100, 101, 102, 103, 104] (fun G_ W_ => G_ 104 = (.bool (decide ((i : Int) < ms.length) && decide ((i : Int) < 15))) ∧ Sat w [sepC [coreC k226 t227 hb228 cb229 ab230 lb231 pb232 E, rcC p239 t240 v2 u2 S], sepC [coreC k19 t20 hb21 cb22 ab23 lb24 pb25 D, rcC p33 t34 v u R], restC w (fun _ => False), cellC b6 25 ([(.int .i64 (F)), (.int .i64 (1))] : List Value)] W_) ?_ ?_
     ·refine w_lit ?_
      refine wv 97 (.int .i64 ((i : Int))) ?_
      refine wv 98 (.slice vb ms.length vd) ?_
      refine wv 99 (.int .i64 ((ms.length : Int))) ?_
      refine wv 100 (.bool (decide ((i : Int) < (ms.length : Int)))) ?_
      refine wv 101 (.bool (decide ((i : Int) < (ms.length : Int)))) ?_
      refine (bsplit (decide ((i : Int) < (ms.length : Int)))).elim (fun b255 => ?_) (fun b255 => ?_)
      ·have g256 := of_decide_eq_true b255
       refine wl_know 101 (.bool true) (congrArg Value.bool b255) ?_
       have g257 := of_decide_eq_true b255
       refine wy 4 101 true 102 (.int .i64 ((i : Int))) ?_
       refine wy 4 101 true 103 (.bool (decide ((i : Int) < 15))) ?_
       refine wv 104 (.bool (decide ((i : Int) < 15))) ?_
       refine w_nil ?_
       refine meetR_at ?_ ⟨(congrArg Value.bool (show (decide ((i : Int) < 15)) = (decide ((i : Int) < ms.length) && decide ((i : Int) < 15)) by (simp <;> omega))), H251⟩
       exact (same_upd rfl (same_upd rfl (same_upd rfl (same_upd rfl (same_upd rfl (same_upd rfl (same_upd rfl (same_upd rfl (same_upd rfl (same_refl))))))))))
      ·have g258 := of_decide_eq_false b255
       refine wl_know 101 (.bool false) (congrArg Value.bool b255) ?_
       have g259 := of_decide_eq_false b255
       iterate 2 refine wn 4 101 true ?_
       refine wv 104 (.bool false) ?_
       refine w_nil ?_
       refine meetR_at ?_ ⟨(congrArg Value.bool (show false = (decide ((i : Int) < ms.length) && decide ((i : Int) < 15)) by (simp <;> omega))), H251⟩
       exact (same_upd rfl (same_upd rfl (same_upd rfl (same_upd rfl (same_upd rfl (same_upd rfl (same_upd rfl (same_upd rfl (same_upd rfl (same_refl))))))))))
     ·rintro f260 w261 ⟨v263, H262⟩
      refine wp_know 104 _ v263 ?_
      refine (bsplit (decide ((i : Int) < ms.length) && decide ((i : Int) < 15))).elim (fun b264 => ?_) (fun b264 => ?_)
      ·refine wp_know 104 (.bool true) (congrArg Value.bool b264) ?_
       refine wp_ift rfl ?_
       refine w_skip ?_
       refine then_normal ?_
       refine w_seq ?_
       refine w_block ?_
       refine w_seq ?_
       have hil : (i : Int) < ms.length ∧ (i : Int) < 15 := by simpa using b264
       refine w_lit ?_
       refine wv 107 (pt k226 0) ?_
       refine wv 108 (pt p239 0) ?_
       refine wv 109 (.slice vb ms.length vd) ?_
       refine wv 110 (.int .i64 ((i : Int))) ?_
       obtain ⟨g265, o266, c267, e268, R269⟩ := SliceOf.atD hms inD0 (show i < ms.length by omega)
       refine wv 111 (.pointer (some ⟨g265, o266 + ((i : Int)).toNat * 39, none⟩)) ?_ (hr := e_indexAddrW (E := 57) (by kernel_rfl) (by kernel_rfl) (Nat.le_of_ble_eq_true rfl) rfl e268 rfl (by omega) (by omega))
       refine wv 112 (.agg ⟨(([(.int .i64 ((ms.getD i inD0).doo)), (.int .i64 ((ms.getD i inD0).kind)), (.int .i64 ((ms.getD i inD0).round)), (.int .i64 ((ms.getD i inD0).valid)), (.int .i64 ((ms.getD i inD0).replica))] : List Value) ++ hc (ms.getD i inD0).h ++ ([(.bool ((ms.getD i inD0).ok)), (.bool ((ms.getD i inD0).raw))] : List Value))⟩) ?_ (hr := e_loadRun (vs := (([(.int .i64 ((ms.getD i inD0).doo)), (.int .i64 ((ms.getD i inD0).kind)), (.int .i64 ((ms.getD i inD0).round)), (.int .i64 ((ms.getD i inD0).valid)), (.int .i64 ((ms.getD i inD0).replica))] : List Value) ++ hc (ms.getD i inD0).h ++ ([(.bool ((ms.getD i inD0).ok)), (.bool ((ms.getD i inD0).raw))] : List Value))) rfl (by kernel_rfl) (by kernel_rfl) (Nat.le_of_ble_eq_true (by kernel_rfl)) (H262.runR 2 rfl (cells_run R269 0 (by kernel_rfl) (show o266 + ((i : Int)).toNat * 39 = o266 + i * 39 + 0 by omega)) (fun h => h)))
       refine wv 113 (.int .i64 (3 * F + 1)) ?_
       refine wl_do (wants0 rfl) (fun K270 hK270 => ?_)
       obtain ⟨x271, hx272⟩ : ∃ x, cutI (3 * F + 1) (ms.getD i inD0) = x := ⟨_, rfl⟩
       refine d_call (d := 114) rfl (by kernel_rfl) (cutI_any w261 (ms.getD i inD0) (3 * F + 1) (by omega)) ?_
       rw [hx272]
       rintro _ w273 ⟨rfl, u275⟩
       have H274 := H262.keepU u275
       refine ⟨_, rfl, ?_⟩
       refine hK270 _ _ ?_
       clear hK270 K270
       refine wl_do (wants0 rfl) (fun K276 hK276 => ?_)
       refine d_call (d := 115) rfl (by kernel_rfl) (give_any w273 k226 t227 hb228 cb229 ab230 lb231 pb232 p239 t240 v2 u2 E S (H274.at 0 rfl) hRel2 x271) ?_
       rintro _ w277 ⟨rfl, v278, u279, D280, R281, hr282, S283⟩
       have H284 : Sat w [sepC [coreC k226 t227 hb228 cb229 ab230 lb231 pb232 D280, rcC p239 t240 v278 u279 R281], sepC [coreC k19 t20 hb21 cb22 ab23 lb24 pb25 D, rcC p33 t34 v u R], restC w (fun _ => False), cellC b6 25 ([(.int .i64 (F)), (.int .i64 (1))] : List Value)] w277 := (Sat.turned2 (A := coreC k226 t227 hb228 cb229 ab230 lb231 pb232 D280) (B := rcC p239 t240 v278 u279 R281) (R := [sepC [coreC k19 t20 hb21 cb22 ab23 lb24 pb25 D, rcC p33 t34 v u R], restC w (fun _ => False), cellC b6 25 ([(.int .i64 (F)), (.int .i64 (1))] : List Value)]) H274 0 [1, 2, 3] (by decide) rfl rfl S283).pick [0, 1, 2, 3] (by decide)
       refine ⟨_, rfl, ?_⟩
       refine hK276 _ _ ?_
       clear hK276 K276
       refine wv 116 (.bool false) ?_
       refine w_nil ?_
       refine then_normal ?_
       refine wp_iff rfl ?_
       refine w_skip ?_
       refine blk_normal ?_
       refine then_normal ?_
       refine w_lit ?_
       refine wv 105 (.int .i64 ((i : Int))) ?_
       refine wv 106 (.int .i64 ((i : Int) + 1)) ?_ (hr := e_int (z := (i : Int) + 1) (by kernel_rfl) (IntWalk.i64_in _ (by omega)))
       refine wv 22 (.int .i64 ((i : Int) + 1)) ?_
       refine w_nil ?_
       refine round_back ?_ _ ⟨(i + 1), D280, R281, v278, u279, (show ((.int .i64 ((i : Int) + 1)) : Value) = _ by first | rfl | go_num), (by omega), hr282, H284, rfl⟩ (by omega)
       exact (same_upd rfl (same_upd rfl (same_upd rfl (same_upd rfl (same_upd rfl (same_upd rfl (same_upd rfl (same_upd rfl (same_upd rfl (same_upd rfl (same_upd rfl (same_upd rfl (same_upd rfl (same_upd rfl (same_upd rfl (same_ovr2 rfl (same_upd rfl (same_ovr))))))))))))))))))
      ·refine wp_know 104 (.bool false) (congrArg Value.bool b264) ?_
       refine wp_iff rfl ?_
       refine w_exit ?_
       refine then_exit ?_
       refine back_exit ?_
       refine blk_hit ?_
       refine then_normal ?_
       refine w_seq ?_
       have H285 : Sat w [sepC [coreC k226 t227 hb228 cb229 ab230 lb231 pb232 E, rcC p239 t240 v2 u2 S], coreC k19 t20 hb21 cb22 ab23 lb24 pb25 D, rcC p33 t34 v u R, restC w (fun _ => False), cellC b6 25 ([(.int .i64 (F)), (.int .i64 (1))] : List Value)] w261 := H262.open 1 rfl
       have H286 : Sat w [sepC [coreC k226 t227 hb228 cb229 ab230 lb231 pb232 E, rcC p239 t240 v2 u2 S], cellC k19 92 (coreL t20 pb25 D), talC t20 hb21 cb22 ab23 lb24 D.f D.c D.L, mapC pb25 (Value.int .i64) propV D.P, rcC p33 t34 v u R, restC w (fun _ => False), cellC b6 25 ([(.int .i64 (F)), (.int .i64 (1))] : List Value)] w261 := H285.open 1 rfl
       have H287 : Sat w [sepC [coreC k226 t227 hb228 cb229 ab230 lb231 pb232 E, rcC p239 t240 v2 u2 S], cellC k19 92 (coreL t20 pb25 D), talC t20 hb21 cb22 ab23 lb24 D.f D.c D.L, mapC pb25 (Value.int .i64) propV D.P, cellC p33 83 (rcL t34 u R), cellC t34 101 ([(.int .i64 (R.f)), (.int .i64 (R.c)), v] : List Value), rowC 143 35 v R.L.length (R.L.flatMap encV), rowC 129 35 u R.P.length (R.P.flatMap encQ), restC w (fun _ => False), cellC b6 25 ([(.int .i64 (F)), (.int .i64 (1))] : List Value)] w261 := H286.open 4 rfl
       obtain ⟨a288, c289, rfl⟩ := ownsRow_shape (H287.at 6 rfl)
       obtain ⟨a290, c291, rfl⟩ := ownsRow_shape (H287.at 7 rfl)
       refine q_start H287 (by kernel_rfl) (by kernel_rfl) ?_
       refine qv 117 (pt k19 0) ?_
       refine q_call (wants0 rfl) (d := 118) (v := (.agg ⟨(([(.int .i64 (D.s.round)), (.int .i64 (D.s.step)), (.int .i64 (D.s.lr)), (.int .i64 (D.s.vr))] : List Value) ++ hc D.s.locked ++ hc D.s.valid ++ ([(.bool (D.s.decided))] : List Value) ++ hc D.s.decision)⟩)) rfl (fun _ _ => by kernel_rfl) (fun w' H' => (coreState_any w' k19 t20 hb21 cb22 ab23 lb24 pb25 D (ok_of (by kernel_rfl) (H'.fin [1, 2, 3] (by decide) rfl)) hRel.ci).mono fun _ _ h => ⟨h.1, H'.keepU h.2⟩) ?_
       refine qv 119 (pt p33 0) ?_
       refine qv 120 (pt p33 0) ?_
       refine qv 121 (pt p33 4) ?_
       refine qv 122 (.agg ⟨(([(.int .i64 (R.s.round)), (.int .i64 (R.s.step)), (.int .i64 (R.s.lr)), (.int .i64 (R.s.vr))] : List Value) ++ hc R.s.locked ++ hc R.s.valid ++ ([(.bool (R.s.decided))] : List Value) ++ hc R.s.decision)⟩) ?_ (hr := fun _ H' => (e_loadN (vs := (([(.int .i64 (R.s.round)), (.int .i64 (R.s.step)), (.int .i64 (R.s.lr)), (.int .i64 (R.s.vr))] : List Value) ++ hc R.s.locked ++ hc R.s.valid ++ ([(.bool (R.s.decided))] : List Value) ++ hc R.s.decision)) rfl (by kernel_rfl) (by kernel_rfl) (by exact Nat.le_of_ble_eq_true (by kernel_rfl)) (H'.at 4 rfl) (by kernel_rfl)))
       refine qv 123 (.bool (decide (D.s = R.s))) ?_ (hr := fun _ H' => (rstateF.e_eq D.s R.s rfl rfl))
       refine qv 124 (.bool (decide (D.s = R.s))) ?_
       have b292 : (decide (D.s = R.s)) = true := by (simp [hRel.s])
       refine q_know 124 (.bool true) (congrArg Value.bool b292) ?_
       have g293 := of_decide_eq_true b292
       refine q_call (wantsY 7 124 true rfl (by kernel_rfl) rfl (by kernel_rfl)) (d := 125) (v := (.bool true)) rfl (fun _ _ => by kernel_rfl) (fun w' H' => (wakes_any w').mono fun _ _ h => ⟨h.1, H'.keepU h.2⟩) ?_
       refine qv 126 (.bool true) ?_
       refine qv 12 (.bool true) ?_
       refine q_end ?_
       intro w294 H295
       refine then_normal ?_
       refine w_ret ?_
       refine end1 rfl (res_tmp (v := (.bool true)) rfl) ?_
       exact ⟨rfl, H295.upd 8 rfl [] (fun _ h => h.elim)⟩
 ·skip
  have H := Sat.start0 w
  refine calls_fr Try.func12 rfl 127 rfl (Nat.le_of_ble_eq_true rfl) ?_
  refine w_seq ?_
  refine w_lit ?_
  refine wv 12 (.bool false) ?_
  refine w_nil ?_
  refine then_normal ?_
  refine w_seq ?_
  refine w_lit ?_
  refine wv 23 (.int .i64 (f)) ?_
  refine wl_do (wants0 rfl) (fun K1 hK1 => ?_)
  refine d_call (d := 24) rfl (by kernel_rfl) (within_any w f 2 (by omega)) ?_
  rintro _ w2 ⟨rfl, u4⟩
  have H3 := H.keepU u4
  refine ⟨_, rfl, ?_⟩
  refine hK1 _ _ ?_
  clear hK1 K1
  refine wv 25 (.int .i64 (F)) ?_ (hr := e_int (z := 1 + (withinV f 2)) (by kernel_rfl) ((by rw [IntWalk.i64_in _ (by omega)]; exact hF.symm)))
  refine wv 26 (.agg ⟨([(.int .i64 (F)), (.int .i64 (1))] : List Value)⟩) ?_
  refine wl_do (wants0 rfl) (fun K5 hK5 => ?_)
  refine d_alloc (zs := ([(.int .i64 (0)), (.int .i64 (0))] : List Value)) (z := (.agg ⟨([(.int .i64 (0)), (.int .i64 (0))] : List Value)⟩)) rfl H3 (by kernel_rfl) (by kernel_rfl) ?_
  intro b6 w7 (H8 : Sat w [restC w (fun _ => False), cellC b6 25 ([(.int .i64 (0)), (.int .i64 (0))] : List Value)] w7)
  refine hK5 _ _ ?_
  clear hK5 K5
  refine wl_do (wants0 rfl) (fun K9 hK9 => ?_)
  refine d_storeX (vs := ([(.int .i64 (F)), (.int .i64 (1))] : List Value)) (cs' := ([(.int .i64 (F)), (.int .i64 (1))] : List Value)) rfl H8 1 rfl rfl rfl rfl (by kernel_rfl) (Nat.le_of_ble_eq_true (by kernel_rfl)) (Nat.le_of_ble_eq_true (by kernel_rfl)) (by kernel_rfl) (by kernel_rfl) ?_
  intro w10 (H11 : Sat w [restC w (fun _ => False), cellC b6 25 ([(.int .i64 (F)), (.int .i64 (1))] : List Value)] w10)
  refine hK9 _ _ ?_
  clear hK9 K9
  refine w_nil ?_
  refine then_normal ?_
  refine w_seq ?_
  refine w_lit ?_
  refine wv 28 (.agg ⟨([(.int .i64 (F)), (.int .i64 (1))] : List Value)⟩) ?_ (hr := e_loadN (vs := ([(.int .i64 (F)), (.int .i64 (1))] : List Value)) rfl (by kernel_rfl) (by kernel_rfl) (by exact Nat.le_of_ble_eq_true (by kernel_rfl)) (H11.at 1 rfl) (by kernel_rfl))
  refine wv 29 (.int .i64 (epoch)) ?_
  refine wv 30 (.int .i64 (replica)) ?_
  refine wl_do (wants0 rfl) (fun K13 hK13 => ?_)
  refine d_call (d := 31) rfl (by kernel_rfl) (coreNew_any w10 F 1 epoch replica (by omega)) ?_
  rintro _ w14 (⟨hno, _⟩ | ⟨_, rfl, u16⟩)
  ·exact absurd hno (by rw [hok]; simp)
  have H15 := H11.keepU u16
  refine ⟨_, rfl, ?_⟩
  refine hK13 _ _ ?_
  clear hK13 K13
  refine wv 27 (.tuple #[(.pointer none), (.int .i64 (1))]) ?_
  refine wv 32 (.pointer none) ?_
  refine wv 33 (.int .i64 (1)) ?_
  refine wv 14 (.pointer none) ?_
  refine wv 15 (.int .i64 (1)) ?_
  refine w_nil ?_
  refine then_normal ?_
  refine w_seq ?_
  refine w_lit ?_
  refine wv 35 (.agg ⟨([(.int .i64 (F)), (.int .i64 (1))] : List Value)⟩) ?_ (hr := e_loadN (vs := ([(.int .i64 (F)), (.int .i64 (1))] : List Value)) rfl (by kernel_rfl) (by kernel_rfl) (by exact Nat.le_of_ble_eq_true (by kernel_rfl)) (H15.at 1 rfl) (by kernel_rfl))
  refine wv 36 (.int .i64 (epoch)) ?_
  refine wv 37 (.int .i64 (replica)) ?_
  refine wl_do (wants0 rfl) (fun K17 hK17 => ?_)
  refine d_call (d := 38) rfl (by kernel_rfl) (rcNew_any w14 F 1 epoch replica (by omega)) ?_
  rintro _ w18 (⟨hno, _⟩ | ⟨_, rfl, u20⟩)
  ·exact absurd hno (by rw [hok]; simp)
  have H19 := H15.keepU u20
  refine ⟨_, rfl, ?_⟩
  refine hK17 _ _ ?_
  clear hK17 K17
  refine wv 34 (.tuple #[(.pointer none), (.bool false)]) ?_
  refine wv 39 (.pointer none) ?_
  refine wv 40 (.bool false) ?_
  refine wv 16 (.pointer none) ?_
  refine wv 17 (.bool false) ?_
  refine w_nil ?_
  refine then_normal ?_
  iterate 2 refine w_seq ?_
  refine w_lit ?_
  refine wv 41 (.bool false) ?_
  refine wv 42 (.bool true) ?_
  refine w_nil ?_
  refine then_normal ?_
  refine wp_ift rfl ?_
  refine w_seq ?_
  refine w_lit ?_
  refine wv 43 (.int .i64 (1)) ?_
  refine wv 44 (.bool true) ?_
  refine wv 45 (.bool true) ?_
  refine wy 2 45 true 46 (.pointer none) ?_
  refine wy 2 45 true 47 (.bool true) ?_
  refine wv 48 (.bool true) ?_
  refine wv 49 (.bool true) ?_
  refine wl_do (wantsY 6 49 true rfl (by kernel_rfl) rfl (by kernel_rfl)) (fun K27 hK27 => ?_)
  refine d_call (d := 50) rfl (by kernel_rfl) (wakes_any w18) ?_
  rintro _ w28 ⟨rfl, u30⟩
  have H29 := H19.keepU u30
  refine ⟨_, rfl, ?_⟩
  refine hK27 _ _ ?_
  clear hK27 K27
  refine wv 51 (.bool true) ?_
  refine wv 12 (.bool true) ?_
  refine w_nil ?_
  refine then_normal ?_
  refine w_ret ?_
  refine then_ret ?_
  refine end1 rfl (res_tmp (v := (.bool true)) rfl) ?_
  exact ⟨rfl, H29.upd 0 rfl [] (fun _ h => h.elim)⟩

end Go.Proofs.Ythjmbhneifjeeaa
