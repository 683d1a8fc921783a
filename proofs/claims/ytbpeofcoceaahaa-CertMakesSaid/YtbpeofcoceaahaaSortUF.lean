/- WHAT IS PROVED: slices' sort, its functions: contracts. Conditions: stated with each. -/
import Derived.Test.YtbpeofcoceaahaaSortUE
import Derived.Test.YtbpeofcoceaahaaBitsW
namespace Go.Proofs.Ytbpeofcoceaahaa
open Go.RowKit

set_option maxRecDepth 100000 in
set_option maxHeartbeats 400000 in
theorem orderU_any (w : World) (g n c x y s : Nat) (k : Int) (A : List Int) (hT : (sepC [rowU g n c A, cellC s 3 [.int .i64 k]]).ok w) (_hn : n ≤ 1000000000000) (hx : x < n ∧ y < n) :
    Calls Try.prog 117 #[(.slice (some ⟨g, 0, none⟩) n c), (.int .i64 ((x : Int))), (.int .i64 ((y : Int))), (.pointer (some ⟨s, 0, none⟩))] w fun e w' => ∃ (p q : Nat) (k2 : Int), ((p = x ∧ q = y) ∨ (p = y ∧ q = x)) ∧ e = .returned (.tuple #[.int .i64 (p : Int), .int .i64 (q : Int)]) ∧ Sat w [rowU g n c A, cellC s 3 [.int .i64 k2], restC w (sepC [rowU g n c A, cellC s 3 [.int .i64 k]]).fp] w' := by
  have hl := rowU_len (hT.1 _ (List.mem_cons_self ..))
  have H : Sat w [rowU g n c A, cellC s 3 ([(.int .i64 (k))] : List Value), restC w (sepC [rowU g n c A, cellC s 3 ([(.int .i64 (k))] : List Value)]).fp] w := Sat.start _ hT
  refine calls_fr Try.func117 rfl 28 rfl (Nat.le_of_ble_eq_true rfl) ?_
  refine w_seq ?_
  refine w_lit ?_
  refine wl_pure (wants0 rfl) (d := 8) (v := (.int .i64 (0))) rfl (by kernel_rfl) ?_
  refine wl_pure (wants0 rfl) (d := 9) (v := (.int .i64 (0))) rfl (by kernel_rfl) ?_
  refine w_nil ?_
  refine then_normal ?_
  refine w_seq ?_
  refine w_seq ?_
  refine q_start H (by kernel_rfl) (by kernel_rfl) ?_
  refine q_val (wants0 rfl) (d := 10) (v := (.slice (some ⟨g, 0, none⟩) n c)) rfl (fun _ H' => (by kernel_rfl)) ?_
  refine q_val (wants0 rfl) (d := 11) (v := (.int .i64 ((y : Int)))) rfl (fun _ H' => (by kernel_rfl)) ?_
  refine q_val (wants0 rfl) (d := 12) (v := (.pointer (some ⟨g, 0 + ((y : Int)).toNat * 1, none⟩))) rfl (fun _ H' => (e_indexAddr (E := 23) (by kernel_rfl) (by kernel_rfl) (Nat.le_of_ble_eq_true rfl) rfl rfl (by omega) (by omega))) ?_
  obtain ⟨x1, h2⟩ := get_at (show y < A.length by omega)
  refine q_val (wants0 rfl) (d := 13) (v := (.int .u64 (x1))) rfl (fun _ H' => (e_load1 rfl (by kernel_rfl) (rowU_cell (H'.at 0 rfl) h2 (show 0 + ((y : Int)).toNat * 1 = y by omega)))) ?_
  refine q_val (wants0 rfl) (d := 14) (v := (.slice (some ⟨g, 0, none⟩) n c)) rfl (fun _ H' => (by kernel_rfl)) ?_
  refine q_val (wants0 rfl) (d := 15) (v := (.int .i64 ((x : Int)))) rfl (fun _ H' => (by kernel_rfl)) ?_
  refine q_val (wants0 rfl) (d := 16) (v := (.pointer (some ⟨g, 0 + ((x : Int)).toNat * 1, none⟩))) rfl (fun _ H' => (e_indexAddr (E := 23) (by kernel_rfl) (by kernel_rfl) (Nat.le_of_ble_eq_true rfl) rfl rfl (by omega) (by omega))) ?_
  obtain ⟨x3, h4⟩ := get_at (show x < A.length by omega)
  refine q_val (wants0 rfl) (d := 17) (v := (.int .u64 (x3))) rfl (fun _ H' => (e_load1 rfl (by kernel_rfl) (rowU_cell (H'.at 0 rfl) h4 (show 0 + ((x : Int)).toNat * 1 = x by omega)))) ?_
  refine q_call (wants0 rfl) (d := 18) (v := (.bool (ltU x1 x3))) rfl (fun _ _ => by kernel_rfl) (fun w' H' => (lessU_any w' x1 x3).mono fun _ _ h => ⟨h.1, H'.keepU h.2⟩) ?_
  refine q_end ?_
  intro w5 H6
  refine then_normal ?_
  refine (bsplit (ltU x1 x3)).elim (fun b7 => ?_) (fun b7 => ?_)
  · refine wp_know 18 (.bool true) (congrArg Value.bool b7) ?_
    refine wp_ift rfl ?_
    refine w_seq ?_
    refine w_lit ?_
    refine wl_pure (wants0 rfl) (d := 19) (v := (.pointer (some ⟨s, 0, none⟩))) rfl (by kernel_rfl) ?_
    refine wl_pure (wants0 rfl) (d := 20) (v := (.pointer (some ⟨s, 0, none⟩))) rfl (by kernel_rfl) ?_
    refine wl_pure (wants0 rfl) (d := 21) (v := (.int .i64 (k))) rfl (e_load1 rfl (by kernel_rfl) (H6.cell 1 rfl rfl)) ?_
    refine wl_pure (wants0 rfl) (d := 22) (v := (.int .i64 (IntKind.i64.wrap (k + 1)))) rfl (by kernel_rfl) ?_
    refine wl_pure (wants0 rfl) (d := 23) (v := (.pointer (some ⟨s, 0, none⟩))) rfl (by kernel_rfl) ?_
    refine wl_do (wants0 rfl) (fun K8 hK8 => ?_)
    refine d_store (vs := ([(.int .i64 (IntKind.i64.wrap (k + 1)))] : List Value)) rfl H6 1 rfl rfl rfl rfl (by kernel_rfl) (Nat.le_of_ble_eq_true (by kernel_rfl)) (Nat.le_of_ble_eq_true (by kernel_rfl)) (by kernel_rfl) ?_
    intro w9 (H10 : Sat w [rowU g n c A, cellC s 3 ([(.int .i64 (IntKind.i64.wrap (k + 1)))] : List Value), restC w (sepC [rowU g n c A, cellC s 3 ([(.int .i64 (k))] : List Value)]).fp] w9)
    refine hK8 _ _ ?_
    clear hK8 K8
    refine w_nil ?_
    refine then_normal ?_
    refine w_seq ?_
    refine w_lit ?_
    refine wl_pure (wants0 rfl) (d := 24) (v := (.int .i64 ((y : Int)))) rfl (by kernel_rfl) ?_
    refine wl_pure (wants0 rfl) (d := 25) (v := (.int .i64 ((x : Int)))) rfl (by kernel_rfl) ?_
    refine wl_pure (wants0 rfl) (d := 8) (v := (.int .i64 ((y : Int)))) rfl (by kernel_rfl) ?_
    refine wl_pure (wants0 rfl) (d := 9) (v := (.int .i64 ((x : Int)))) rfl (by kernel_rfl) ?_
    refine w_nil ?_
    refine then_normal ?_
    refine w_ret ?_
    refine then_ret ?_
    refine end2 rfl (res_tmp (v := (.int .i64 ((y : Int)))) rfl) (res_tmp (v := (.int .i64 ((x : Int)))) rfl) ?_
    exact ⟨_, _, _, .inr ⟨rfl, rfl⟩, rfl, H10⟩
  · refine wp_know 18 (.bool false) (congrArg Value.bool b7) ?_
    refine wp_iff rfl ?_
    refine w_skip ?_
    refine then_normal ?_
    refine w_seq ?_
    refine w_lit ?_
    refine wl_pure (wants0 rfl) (d := 26) (v := (.int .i64 ((x : Int)))) rfl (by kernel_rfl) ?_
    refine wl_pure (wants0 rfl) (d := 27) (v := (.int .i64 ((y : Int)))) rfl (by kernel_rfl) ?_
    refine wl_pure (wants0 rfl) (d := 8) (v := (.int .i64 ((x : Int)))) rfl (by kernel_rfl) ?_
    refine wl_pure (wants0 rfl) (d := 9) (v := (.int .i64 ((y : Int)))) rfl (by kernel_rfl) ?_
    refine w_nil ?_
    refine then_normal ?_
    refine w_ret ?_
    refine end2 rfl (res_tmp (v := (.int .i64 ((x : Int)))) rfl) (res_tmp (v := (.int .i64 ((y : Int)))) rfl) ?_
    exact ⟨_, _, _, .inl ⟨rfl, rfl⟩, rfl, H6⟩

set_option maxRecDepth 100000 in
set_option maxHeartbeats 400000 in
theorem medianU_any (w : World) (g n c x y z s : Nat) (k : Int) (A : List Int) (hT : (sepC [rowU g n c A, cellC s 3 [.int .i64 k]]).ok w) (hn : n ≤ 1000000000000) (hx : x < n ∧ y < n ∧ z < n) :
    Calls Try.prog 114 #[(.slice (some ⟨g, 0, none⟩) n c), (.int .i64 ((x : Int))), (.int .i64 ((y : Int))), (.int .i64 ((z : Int))), (.pointer (some ⟨s, 0, none⟩))] w fun e w' => ∃ (p : Nat) (k2 : Int), (p = x ∨ p = y ∨ p = z) ∧ e = .returned (.int .i64 (p : Int)) ∧ Sat w [rowU g n c A, cellC s 3 [.int .i64 k2], restC w (sepC [rowU g n c A, cellC s 3 [.int .i64 k]]).fp] w' := by
  have hl := rowU_len (hT.1 _ (List.mem_cons_self ..))
  have H : Sat w [rowU g n c A, cellC s 3 ([(.int .i64 (k))] : List Value), restC w (sepC [rowU g n c A, cellC s 3 ([(.int .i64 (k))] : List Value)]).fp] w := Sat.start _ hT
  refine calls_fr Try.func114 rfl 36 rfl (Nat.le_of_ble_eq_true rfl) ?_
  refine w_seq ?_
  refine w_lit ?_
  refine wl_pure (wants0 rfl) (d := 10) (v := (.int .i64 (0))) rfl (by kernel_rfl) ?_
  refine w_nil ?_
  refine then_normal ?_
  refine w_seq ?_
  refine w_lit ?_
  refine wl_pure (wants0 rfl) (d := 12) (v := (.slice (some ⟨g, 0, none⟩) n c)) rfl (by kernel_rfl) ?_
  refine wl_pure (wants0 rfl) (d := 13) (v := (.int .i64 ((x : Int)))) rfl (by kernel_rfl) ?_
  refine wl_pure (wants0 rfl) (d := 14) (v := (.int .i64 ((y : Int)))) rfl (by kernel_rfl) ?_
  refine wl_pure (wants0 rfl) (d := 15) (v := (.pointer (some ⟨s, 0, none⟩))) rfl (by kernel_rfl) ?_
  refine wl_do (wants0 rfl) (fun K1 hK1 => ?_)
  refine d_call (d := 16) rfl (by kernel_rfl) (orderU_any w g n c x y s k A (H.fin [0, 1] (by decide) rfl) hn (by omega)) ?_
  rintro _ w2 ⟨p5, p6, k3, r7, rfl, T4⟩
  have H8 : Sat w [rowU g n c A, cellC s 3 ([(.int .i64 (k3))] : List Value), restC w (sepC [rowU g n c A, cellC s 3 ([(.int .i64 (k))] : List Value)]).fp] w2 := (Sat.turnL (L' := [rowU g n c A, cellC s 3 ([(.int .i64 (k3))] : List Value)]) (R := [restC w (sepC [rowU g n c A, cellC s 3 ([(.int .i64 (k))] : List Value)]).fp]) H [0, 1] [2] (by decide) (by kernel_rfl) rfl T4).pick [0, 1, 2] (by decide)
  refine ⟨_, rfl, ?_⟩
  refine hK1 _ _ ?_
  clear hK1 K1
  refine wl_pure (wants0 rfl) (d := 11) (v := (.tuple #[(.int .i64 ((p5 : Int))), (.int .i64 ((p6 : Int)))])) rfl (by kernel_rfl) ?_
  refine wl_pure (wants0 rfl) (d := 17) (v := (.int .i64 ((p5 : Int)))) rfl (by kernel_rfl) ?_
  refine wl_pure (wants0 rfl) (d := 18) (v := (.int .i64 ((p6 : Int)))) rfl (by kernel_rfl) ?_
  refine wl_pure (wants0 rfl) (d := 1) (v := (.int .i64 ((p5 : Int)))) rfl (by kernel_rfl) ?_
  refine wl_pure (wants0 rfl) (d := 2) (v := (.int .i64 ((p6 : Int)))) rfl (by kernel_rfl) ?_
  refine w_nil ?_
  refine then_normal ?_
  refine w_seq ?_
  refine w_lit ?_
  refine wl_pure (wants0 rfl) (d := 20) (v := (.slice (some ⟨g, 0, none⟩) n c)) rfl (by kernel_rfl) ?_
  refine wl_pure (wants0 rfl) (d := 21) (v := (.int .i64 ((p6 : Int)))) rfl (by kernel_rfl) ?_
  refine wl_pure (wants0 rfl) (d := 22) (v := (.int .i64 ((z : Int)))) rfl (by kernel_rfl) ?_
  refine wl_pure (wants0 rfl) (d := 23) (v := (.pointer (some ⟨s, 0, none⟩))) rfl (by kernel_rfl) ?_
  refine wl_do (wants0 rfl) (fun K9 hK9 => ?_)
  refine d_call (d := 24) rfl (by kernel_rfl) (orderU_any w2 g n c p6 z s k3 A (H8.fin [0, 1] (by decide) rfl) hn (by omega)) ?_
  rintro _ w10 ⟨p13, p14, k11, r15, rfl, T12⟩
  have H16 : Sat w [rowU g n c A, cellC s 3 ([(.int .i64 (k11))] : List Value), restC w (sepC [rowU g n c A, cellC s 3 ([(.int .i64 (k))] : List Value)]).fp] w10 := (Sat.turnL (L' := [rowU g n c A, cellC s 3 ([(.int .i64 (k11))] : List Value)]) (R := [restC w (sepC [rowU g n c A, cellC s 3 ([(.int .i64 (k))] : List Value)]).fp]) H8 [0, 1] [2] (by decide) (by kernel_rfl) rfl T12).pick [0, 1, 2] (by decide)
  refine ⟨_, rfl, ?_⟩
  refine hK9 _ _ ?_
  clear hK9 K9
  refine wl_pure (wants0 rfl) (d := 19) (v := (.tuple #[(.int .i64 ((p13 : Int))), (.int .i64 ((p14 : Int)))])) rfl (by kernel_rfl) ?_
  refine wl_pure (wants0 rfl) (d := 25) (v := (.int .i64 ((p13 : Int)))) rfl (by kernel_rfl) ?_
  refine wl_pure (wants0 rfl) (d := 26) (v := (.int .i64 ((p14 : Int)))) rfl (by kernel_rfl) ?_
  refine wl_pure (wants0 rfl) (d := 2) (v := (.int .i64 ((p13 : Int)))) rfl (by kernel_rfl) ?_
  refine wl_pure (wants0 rfl) (d := 3) (v := (.int .i64 ((p14 : Int)))) rfl (by kernel_rfl) ?_
  refine w_nil ?_
  refine then_normal ?_
  refine w_seq ?_
  refine w_lit ?_
  refine wl_pure (wants0 rfl) (d := 28) (v := (.slice (some ⟨g, 0, none⟩) n c)) rfl (by kernel_rfl) ?_
  refine wl_pure (wants0 rfl) (d := 29) (v := (.int .i64 ((p5 : Int)))) rfl (by kernel_rfl) ?_
  refine wl_pure (wants0 rfl) (d := 30) (v := (.int .i64 ((p13 : Int)))) rfl (by kernel_rfl) ?_
  refine wl_pure (wants0 rfl) (d := 31) (v := (.pointer (some ⟨s, 0, none⟩))) rfl (by kernel_rfl) ?_
  refine wl_do (wants0 rfl) (fun K17 hK17 => ?_)
  refine d_call (d := 32) rfl (by kernel_rfl) (orderU_any w10 g n c p5 p13 s k11 A (H16.fin [0, 1] (by decide) rfl) hn (by omega)) ?_
  rintro _ w18 ⟨p21, p22, k19, r23, rfl, T20⟩
  have H24 : Sat w [rowU g n c A, cellC s 3 ([(.int .i64 (k19))] : List Value), restC w (sepC [rowU g n c A, cellC s 3 ([(.int .i64 (k))] : List Value)]).fp] w18 := (Sat.turnL (L' := [rowU g n c A, cellC s 3 ([(.int .i64 (k19))] : List Value)]) (R := [restC w (sepC [rowU g n c A, cellC s 3 ([(.int .i64 (k))] : List Value)]).fp]) H16 [0, 1] [2] (by decide) (by kernel_rfl) rfl T20).pick [0, 1, 2] (by decide)
  refine ⟨_, rfl, ?_⟩
  refine hK17 _ _ ?_
  clear hK17 K17
  refine wl_pure (wants0 rfl) (d := 27) (v := (.tuple #[(.int .i64 ((p21 : Int))), (.int .i64 ((p22 : Int)))])) rfl (by kernel_rfl) ?_
  refine wl_pure (wants0 rfl) (d := 33) (v := (.int .i64 ((p21 : Int)))) rfl (by kernel_rfl) ?_
  refine wl_pure (wants0 rfl) (d := 34) (v := (.int .i64 ((p22 : Int)))) rfl (by kernel_rfl) ?_
  refine wl_pure (wants0 rfl) (d := 1) (v := (.int .i64 ((p21 : Int)))) rfl (by kernel_rfl) ?_
  refine wl_pure (wants0 rfl) (d := 2) (v := (.int .i64 ((p22 : Int)))) rfl (by kernel_rfl) ?_
  refine w_nil ?_
  refine then_normal ?_
  refine w_seq ?_
  refine w_lit ?_
  refine wl_pure (wants0 rfl) (d := 35) (v := (.int .i64 ((p22 : Int)))) rfl (by kernel_rfl) ?_
  refine wl_pure (wants0 rfl) (d := 10) (v := (.int .i64 ((p22 : Int)))) rfl (by kernel_rfl) ?_
  refine w_nil ?_
  refine then_normal ?_
  refine w_ret ?_
  refine end1 rfl (res_tmp (v := (.int .i64 ((p22 : Int)))) rfl) ?_
  exact ⟨_, _, by omega, rfl, H24⟩

set_option maxRecDepth 100000 in
set_option maxHeartbeats 400000 in
theorem medadjU_any (w : World) (g n c x s : Nat) (k : Int) (A : List Int) (hT : (sepC [rowU g n c A, cellC s 3 [.int .i64 k]]).ok w) (hn : n ≤ 1000000000000) (hx : 1 ≤ x ∧ x + 1 < n) :
    Calls Try.prog 113 #[(.slice (some ⟨g, 0, none⟩) n c), (.int .i64 ((x : Int))), (.pointer (some ⟨s, 0, none⟩))] w fun e w' => ∃ (p : Nat) (k2 : Int), (x ≤ p + 1 ∧ p ≤ x + 1) ∧ e = .returned (.int .i64 (p : Int)) ∧ Sat w [rowU g n c A, cellC s 3 [.int .i64 k2], restC w (sepC [rowU g n c A, cellC s 3 [.int .i64 k]]).fp] w' := by
  have hl := rowU_len (hT.1 _ (List.mem_cons_self ..))
  have H : Sat w [rowU g n c A, cellC s 3 ([(.int .i64 (k))] : List Value), restC w (sepC [rowU g n c A, cellC s 3 ([(.int .i64 (k))] : List Value)]).fp] w := Sat.start _ hT
  refine calls_fr Try.func113 rfl 15 rfl (Nat.le_of_ble_eq_true rfl) ?_
  refine w_seq ?_
  refine w_lit ?_
  refine wl_pure (wants0 rfl) (d := 6) (v := (.int .i64 (0))) rfl (by kernel_rfl) ?_
  refine w_nil ?_
  refine then_normal ?_
  refine w_seq ?_
  refine w_lit ?_
  refine wl_pure (wants0 rfl) (d := 7) (v := (.slice (some ⟨g, 0, none⟩) n c)) rfl (by kernel_rfl) ?_
  refine wl_pure (wants0 rfl) (d := 8) (v := (.int .i64 ((x : Int)))) rfl (by kernel_rfl) ?_
  refine wl_pure (wants0 rfl) (d := 9) (v := (.int .i64 ((x : Int) - 1))) rfl (e_int (z := (x : Int) - 1) (by kernel_rfl) (IntWalk.i64_in _ (by omega))) ?_
  refine wl_pure (wants0 rfl) (d := 10) (v := (.int .i64 ((x : Int)))) rfl (by kernel_rfl) ?_
  refine wl_pure (wants0 rfl) (d := 11) (v := (.int .i64 ((x : Int)))) rfl (by kernel_rfl) ?_
  refine wl_pure (wants0 rfl) (d := 12) (v := (.int .i64 ((x : Int) + 1))) rfl (e_int (z := (x : Int) + 1) (by kernel_rfl) (IntWalk.i64_in _ (by omega))) ?_
  refine wl_pure (wants0 rfl) (d := 13) (v := (.pointer (some ⟨s, 0, none⟩))) rfl (by kernel_rfl) ?_
  refine wl_do (wants0 rfl) (fun K1 hK1 => ?_)
  refine wo_know 9 (.int .i64 (((x - 1 : Nat) : Int))) (show ((.int .i64 ((x : Int) - 1)) : Value) = _ by first | rfl | go_num) ?_
  refine wo_know 12 (.int .i64 (((x + 1 : Nat) : Int))) (show ((.int .i64 ((x : Int) + 1)) : Value) = _ by first | rfl | go_num) ?_
  refine d_call (d := 14) rfl (by kernel_rfl) (medianU_any w g n c (x - 1) x (x + 1) s k A (H.fin [0, 1] (by decide) rfl) hn (by omega)) ?_
  rintro _ w2 ⟨p5, k3, r6, rfl, T4⟩
  have H7 : Sat w [rowU g n c A, cellC s 3 ([(.int .i64 (k3))] : List Value), restC w (sepC [rowU g n c A, cellC s 3 ([(.int .i64 (k))] : List Value)]).fp] w2 := (Sat.turnL (L' := [rowU g n c A, cellC s 3 ([(.int .i64 (k3))] : List Value)]) (R := [restC w (sepC [rowU g n c A, cellC s 3 ([(.int .i64 (k))] : List Value)]).fp]) H [0, 1] [2] (by decide) (by kernel_rfl) rfl T4).pick [0, 1, 2] (by decide)
  refine ⟨_, rfl, ?_⟩
  refine hK1 _ _ ?_
  clear hK1 K1
  refine wl_pure (wants0 rfl) (d := 6) (v := (.int .i64 ((p5 : Int)))) rfl (by kernel_rfl) ?_
  refine w_nil ?_
  refine then_normal ?_
  refine w_ret ?_
  refine end1 rfl (res_tmp (v := (.int .i64 ((p5 : Int)))) rfl) ?_
  exact ⟨_, _, by omega, rfl, H7⟩

set_option maxRecDepth 100000 in
set_option maxHeartbeats 1000000 in
theorem chooseU_any (w : World) (g n c a b : Nat) (A : List Int) (hT : (rowU g n c A).ok w) (hn : n ≤ 1000000000000) (hab : a ≤ b ∧ b ≤ n) (hab2 : a + 12 < b) :
    Calls Try.prog 99 #[(.slice (some ⟨g, 0, none⟩) n c), (.int .i64 ((a : Int))), (.int .i64 ((b : Int)))] w fun e w' => ∃ (p : Nat) (q : Int), e = .returned (.tuple #[.int .i64 (p : Int), .int .i64 q]) ∧ (a ≤ p ∧ p < b) ∧ Sat w [rowU g n c A, restC w (rowU g n c A).fp] w' := by
  have H : Sat w [rowU g n c A, restC w (rowU g n c A).fp] w := Sat.start1 hT
  have hl := rowU_len hT
  have hw := swU
  obtain ⟨m, hm⟩ : ∃ m : Nat, a + m = b := ⟨b - a, by omega⟩
  refine calls_fr Try.func99 rfl 57 rfl (Nat.le_of_ble_eq_true rfl) ?_
  refine w_seq ?_
  refine w_lit ?_
  refine wl_pure (wants0 rfl) (d := 6) (v := (.int .i64 (0))) rfl (by kernel_rfl) ?_
  refine wl_pure (wants0 rfl) (d := 7) (v := (.int .i64 (0))) rfl (by kernel_rfl) ?_
  refine w_nil ?_
  refine then_normal ?_
  refine w_seq ?_
  refine w_lit ?_
  refine wl_pure (wants0 rfl) (d := 13) (v := (.int .i64 ((b : Int)))) rfl (by kernel_rfl) ?_
  refine wl_pure (wants0 rfl) (d := 14) (v := (.int .i64 ((a : Int)))) rfl (by kernel_rfl) ?_
  refine wl_pure (wants0 rfl) (d := 15) (v := (.int .i64 ((b : Int) - (a : Int)))) rfl (e_int (z := (b : Int) - (a : Int)) (by kernel_rfl) (IntWalk.i64_in _ (by omega))) ?_
  refine wl_pure (wants0 rfl) (d := 8) (v := (.int .i64 ((b : Int) - (a : Int)))) rfl (by kernel_rfl) ?_
  refine w_nil ?_
  refine then_normal ?_
  refine w_seq ?_
  refine wp_know 8 (.int .i64 ((m : Int))) (show ((.int .i64 ((b : Int) - (a : Int))) : Value) = _ by first | rfl | go_num) ?_
  refine w_lit ?_
  refine wl_do (wants0 rfl) (fun K1 hK1 => ?_)
  refine d_alloc (zs := ([(.int .i64 (0))] : List Value)) (z := (.int .i64 (0))) rfl H (by kernel_rfl) (by kernel_rfl) ?_
  intro b2 w3 (H4 : Sat w [rowU g n c A, restC w (rowU g n c A).fp, cellC b2 3 ([(.int .i64 (0))] : List Value)] w3)
  refine hK1 _ _ ?_
  clear hK1 K1
  refine w_nil ?_
  refine then_normal ?_
  refine w_seq ?_
  refine w_lit ?_
  refine wl_pure (wants0 rfl) (d := 16) (v := (.int .i64 ((a : Int)))) rfl (by kernel_rfl) ?_
  refine wl_pure (wants0 rfl) (d := 17) (v := (.int .i64 ((m : Int)))) rfl (by kernel_rfl) ?_
  refine wl_pure (wants0 rfl) (d := 18) (v := (.int .i64 ((m : Int) / 4))) rfl (e_quo (by kernel_rfl) (by omega) (by omega) (IntWalk.i64_in _ (by omega))) ?_
  refine wl_pure (wants0 rfl) (d := 19) (v := (.int .i64 (((m : Int) / 4) * 1))) rfl (e_int (z := ((m : Int) / 4) * 1) (by kernel_rfl) (IntWalk.i64_in _ (by omega))) ?_
  refine wl_pure (wants0 rfl) (d := 20) (v := (.int .i64 ((a : Int) + (((m : Int) / 4) * 1)))) rfl (e_int (z := (a : Int) + (((m : Int) / 4) * 1)) (by kernel_rfl) (IntWalk.i64_in _ (by omega))) ?_
  refine wl_pure (wants0 rfl) (d := 10) (v := (.int .i64 ((a : Int) + (((m : Int) / 4) * 1)))) rfl (by kernel_rfl) ?_
  refine w_nil ?_
  refine then_normal ?_
  refine w_seq ?_
  refine w_lit ?_
  refine wl_pure (wants0 rfl) (d := 21) (v := (.int .i64 ((a : Int)))) rfl (by kernel_rfl) ?_
  refine wl_pure (wants0 rfl) (d := 22) (v := (.int .i64 ((m : Int)))) rfl (by kernel_rfl) ?_
  refine wl_pure (wants0 rfl) (d := 23) (v := (.int .i64 ((m : Int) / 4))) rfl (e_quo (by kernel_rfl) (by omega) (by omega) (IntWalk.i64_in _ (by omega))) ?_
  refine wl_pure (wants0 rfl) (d := 24) (v := (.int .i64 (((m : Int) / 4) * 2))) rfl (e_int (z := ((m : Int) / 4) * 2) (by kernel_rfl) (IntWalk.i64_in _ (by omega))) ?_
  refine wl_pure (wants0 rfl) (d := 25) (v := (.int .i64 ((a : Int) + (((m : Int) / 4) * 2)))) rfl (e_int (z := (a : Int) + (((m : Int) / 4) * 2)) (by kernel_rfl) (IntWalk.i64_in _ (by omega))) ?_
  refine wl_pure (wants0 rfl) (d := 11) (v := (.int .i64 ((a : Int) + (((m : Int) / 4) * 2)))) rfl (by kernel_rfl) ?_
  refine w_nil ?_
  refine then_normal ?_
  refine w_seq ?_
  refine w_lit ?_
  refine wl_pure (wants0 rfl) (d := 26) (v := (.int .i64 ((a : Int)))) rfl (by kernel_rfl) ?_
  refine wl_pure (wants0 rfl) (d := 27) (v := (.int .i64 ((m : Int)))) rfl (by kernel_rfl) ?_
  refine wl_pure (wants0 rfl) (d := 28) (v := (.int .i64 ((m : Int) / 4))) rfl (e_quo (by kernel_rfl) (by omega) (by omega) (IntWalk.i64_in _ (by omega))) ?_
  refine wl_pure (wants0 rfl) (d := 29) (v := (.int .i64 (((m : Int) / 4) * 3))) rfl (e_int (z := ((m : Int) / 4) * 3) (by kernel_rfl) (IntWalk.i64_in _ (by omega))) ?_
  refine wl_pure (wants0 rfl) (d := 30) (v := (.int .i64 ((a : Int) + (((m : Int) / 4) * 3)))) rfl (e_int (z := (a : Int) + (((m : Int) / 4) * 3)) (by kernel_rfl) (IntWalk.i64_in _ (by omega))) ?_
  refine wl_pure (wants0 rfl) (d := 12) (v := (.int .i64 ((a : Int) + (((m : Int) / 4) * 3)))) rfl (by kernel_rfl) ?_
  refine w_nil ?_
  refine then_normal ?_
  refine w_seq ?_
  refine w_seq ?_
  refine wp_know 10 (.int .i64 (((a + m / 4 * 1 : Nat) : Int))) (show ((.int .i64 ((a : Int) + (((m : Int) / 4) * 1))) : Value) = _ by first | rfl | go_num) ?_
  refine wp_know 11 (.int .i64 (((a + m / 4 * 2 : Nat) : Int))) (show ((.int .i64 ((a : Int) + (((m : Int) / 4) * 2))) : Value) = _ by first | rfl | go_num) ?_
  refine wp_know 12 (.int .i64 (((a + m / 4 * 3 : Nat) : Int))) (show ((.int .i64 ((a : Int) + (((m : Int) / 4) * 3))) : Value) = _ by first | rfl | go_num) ?_
  refine w_lit ?_
  refine wl_pure (wants0 rfl) (d := 31) (v := (.int .i64 ((m : Int)))) rfl (by kernel_rfl) ?_
  refine wl_pure (wants0 rfl) (d := 32) (v := (.bool (decide ((m : Int) ≥ 8)))) rfl (by kernel_rfl) ?_
  refine w_nil ?_
  refine then_normal ?_
  have b5 : (decide ((m : Int) ≥ 8)) = true := by exact decide_eq_true (by omega)
  refine wp_know 32 (.bool true) (congrArg Value.bool b5) ?_
  have g6 := of_decide_eq_true b5
  refine wp_ift rfl ?_
  refine w_seq ?_
  refine w_seq ?_
  refine w_lit ?_
  refine wl_pure (wants0 rfl) (d := 33) (v := (.int .i64 ((m : Int)))) rfl (by kernel_rfl) ?_
  refine wl_pure (wants0 rfl) (d := 34) (v := (.bool (decide ((m : Int) ≥ 50)))) rfl (by kernel_rfl) ?_
  refine w_nil ?_
  refine then_normal ?_
  refine (bsplit (decide ((m : Int) ≥ 50))).elim (fun b7 => ?_) (fun b7 => ?_)
  · have g8 := of_decide_eq_true b7
    refine wp_know 34 (.bool true) (congrArg Value.bool b7) ?_
    have g9 := of_decide_eq_true b7
    refine wp_ift rfl ?_
    refine w_seq ?_
    refine w_lit ?_
    refine wl_pure (wants0 rfl) (d := 35) (v := (.slice (some ⟨g, 0, none⟩) n c)) rfl (by kernel_rfl) ?_
    refine wl_pure (wants0 rfl) (d := 36) (v := (.int .i64 (((a + m / 4 * 1 : Nat) : Int)))) rfl (by kernel_rfl) ?_
    refine wl_do (wants0 rfl) (fun K10 hK10 => ?_)
    refine d_call (d := 37) rfl (by kernel_rfl) (medadjU_any w3 g n c (a + m / 4 * 1) b2 0 A (H4.fin [0, 2] (by decide) rfl) hn (by omega)) ?_
    rintro _ w11 ⟨p14, k12, r15, rfl, T13⟩
    have H16 : Sat w [rowU g n c A, restC w (rowU g n c A).fp, cellC b2 3 ([(.int .i64 (k12))] : List Value)] w11 := (Sat.turnL (L' := [rowU g n c A, cellC b2 3 ([(.int .i64 (k12))] : List Value)]) (R := [restC w (rowU g n c A).fp]) H4 [0, 2] [1] (by decide) (by kernel_rfl) rfl T13).pick [0, 2, 1] (by decide)
    refine ⟨_, rfl, ?_⟩
    refine hK10 _ _ ?_
    clear hK10 K10
    refine wl_pure (wants0 rfl) (d := 10) (v := (.int .i64 ((p14 : Int)))) rfl (by kernel_rfl) ?_
    refine w_nil ?_
    refine then_normal ?_
    refine w_seq ?_
    refine w_lit ?_
    refine wl_pure (wants0 rfl) (d := 38) (v := (.slice (some ⟨g, 0, none⟩) n c)) rfl (by kernel_rfl) ?_
    refine wl_pure (wants0 rfl) (d := 39) (v := (.int .i64 (((a + m / 4 * 2 : Nat) : Int)))) rfl (by kernel_rfl) ?_
    refine wl_do (wants0 rfl) (fun K17 hK17 => ?_)
    refine d_call (d := 40) rfl (by kernel_rfl) (medadjU_any w11 g n c (a + m / 4 * 2) b2 k12 A (H16.fin [0, 2] (by decide) rfl) hn (by omega)) ?_
    rintro _ w18 ⟨p21, k19, r22, rfl, T20⟩
    have H23 : Sat w [rowU g n c A, restC w (rowU g n c A).fp, cellC b2 3 ([(.int .i64 (k19))] : List Value)] w18 := (Sat.turnL (L' := [rowU g n c A, cellC b2 3 ([(.int .i64 (k19))] : List Value)]) (R := [restC w (rowU g n c A).fp]) H16 [0, 2] [1] (by decide) (by kernel_rfl) rfl T20).pick [0, 2, 1] (by decide)
    refine ⟨_, rfl, ?_⟩
    refine hK17 _ _ ?_
    clear hK17 K17
    refine wl_pure (wants0 rfl) (d := 11) (v := (.int .i64 ((p21 : Int)))) rfl (by kernel_rfl) ?_
    refine w_nil ?_
    refine then_normal ?_
    refine w_lit ?_
    refine wl_pure (wants0 rfl) (d := 41) (v := (.slice (some ⟨g, 0, none⟩) n c)) rfl (by kernel_rfl) ?_
    refine wl_pure (wants0 rfl) (d := 42) (v := (.int .i64 (((a + m / 4 * 3 : Nat) : Int)))) rfl (by kernel_rfl) ?_
    refine wl_do (wants0 rfl) (fun K24 hK24 => ?_)
    refine d_call (d := 43) rfl (by kernel_rfl) (medadjU_any w18 g n c (a + m / 4 * 3) b2 k19 A (H23.fin [0, 2] (by decide) rfl) hn (by omega)) ?_
    rintro _ w25 ⟨p28, k26, r29, rfl, T27⟩
    have H30 : Sat w [rowU g n c A, restC w (rowU g n c A).fp, cellC b2 3 ([(.int .i64 (k26))] : List Value)] w25 := (Sat.turnL (L' := [rowU g n c A, cellC b2 3 ([(.int .i64 (k26))] : List Value)]) (R := [restC w (rowU g n c A).fp]) H23 [0, 2] [1] (by decide) (by kernel_rfl) rfl T27).pick [0, 2, 1] (by decide)
    refine ⟨_, rfl, ?_⟩
    refine hK24 _ _ ?_
    clear hK24 K24
    refine wl_pure (wants0 rfl) (d := 12) (v := (.int .i64 ((p28 : Int)))) rfl (by kernel_rfl) ?_
    refine w_nil ?_
    refine then_normal ?_
    refine w_lit ?_
    refine wl_pure (wants0 rfl) (d := 44) (v := (.slice (some ⟨g, 0, none⟩) n c)) rfl (by kernel_rfl) ?_
    refine wl_pure (wants0 rfl) (d := 45) (v := (.int .i64 ((p14 : Int)))) rfl (by kernel_rfl) ?_
    refine wl_pure (wants0 rfl) (d := 46) (v := (.int .i64 ((p21 : Int)))) rfl (by kernel_rfl) ?_
    refine wl_pure (wants0 rfl) (d := 47) (v := (.int .i64 ((p28 : Int)))) rfl (by kernel_rfl) ?_
    refine wl_do (wants0 rfl) (fun K31 hK31 => ?_)
    refine d_call (d := 48) rfl (by kernel_rfl) (medianU_any w25 g n c p14 p21 p28 b2 k26 A (H30.fin [0, 2] (by decide) rfl) hn (by omega)) ?_
    rintro _ w32 ⟨p35, k33, r36, rfl, T34⟩
    have H37 : Sat w [rowU g n c A, restC w (rowU g n c A).fp, cellC b2 3 ([(.int .i64 (k33))] : List Value)] w32 := (Sat.turnL (L' := [rowU g n c A, cellC b2 3 ([(.int .i64 (k33))] : List Value)]) (R := [restC w (rowU g n c A).fp]) H30 [0, 2] [1] (by decide) (by kernel_rfl) rfl T34).pick [0, 2, 1] (by decide)
    refine ⟨_, rfl, ?_⟩
    refine hK31 _ _ ?_
    clear hK31 K31
    refine wl_pure (wants0 rfl) (d := 11) (v := (.int .i64 ((p35 : Int)))) rfl (by kernel_rfl) ?_
    refine w_nil ?_
    refine then_normal ?_
    refine w_seq ?_
    refine w_lit ?_
    refine wl_pure (wants0 rfl) (d := 49) (v := (.int .i64 (k33))) rfl (e_load1 rfl (by kernel_rfl) (H37.cell 2 rfl rfl)) ?_
    refine w_nil ?_
    refine then_normal ?_
    refine w_block ?_
    refine w_seq ?_
    refine w_lit ?_
    refine wl_pure (wants0 rfl) (d := 52) (v := (.bool (decide (k33 = 0)))) rfl (by kernel_rfl) ?_
    refine wl_pure (wants0 rfl) (d := 51) (v := (.bool (decide (k33 = 0)))) rfl (by kernel_rfl) ?_
    refine w_nil ?_
    refine then_normal ?_
    refine (bsplit (decide (k33 = 0))).elim (fun b38 => ?_) (fun b38 => ?_)
    · have g39 := of_decide_eq_true b38
      refine wp_know 51 (.bool true) (congrArg Value.bool b38) ?_
      have g40 := of_decide_eq_true b38
      refine wp_ift rfl ?_
      refine w_seq ?_
      refine w_lit ?_
      refine wl_pure (wants0 rfl) (d := 53) (v := (.int .i64 ((p35 : Int)))) rfl (by kernel_rfl) ?_
      refine wl_pure (wants0 rfl) (d := 6) (v := (.int .i64 ((p35 : Int)))) rfl (by kernel_rfl) ?_
      refine wl_pure (wants0 rfl) (d := 7) (v := (.int .i64 (1))) rfl (by kernel_rfl) ?_
      refine w_nil ?_
      refine then_normal ?_
      refine w_ret ?_
      refine blk_ret ?_
      refine end2 rfl (res_tmp (v := (.int .i64 ((p35 : Int)))) rfl) (res_tmp (v := (.int .i64 (1))) rfl) ?_
      exact ⟨_, _, rfl, by omega, H37.pick [0, 1] (by decide)⟩
    · have g41 := of_decide_eq_false b38
      refine wp_know 51 (.bool false) (congrArg Value.bool b38) ?_
      have g42 := of_decide_eq_false b38
      refine wp_iff rfl ?_
      refine w_seq ?_
      refine w_lit ?_
      refine wl_pure (wants0 rfl) (d := 55) (v := (.bool (decide (k33 = 12)))) rfl (by kernel_rfl) ?_
      refine wl_pure (wants0 rfl) (d := 54) (v := (.bool (decide (k33 = 12)))) rfl (by kernel_rfl) ?_
      refine w_nil ?_
      refine then_normal ?_
      refine (bsplit (decide (k33 = 12))).elim (fun b43 => ?_) (fun b43 => ?_)
      · have g44 := of_decide_eq_true b43
        refine wp_know 54 (.bool true) (congrArg Value.bool b43) ?_
        have g45 := of_decide_eq_true b43
        refine wp_ift rfl ?_
        refine w_seq ?_
        refine w_lit ?_
        refine wl_pure (wants0 rfl) (d := 56) (v := (.int .i64 ((p35 : Int)))) rfl (by kernel_rfl) ?_
        refine wl_pure (wants0 rfl) (d := 6) (v := (.int .i64 ((p35 : Int)))) rfl (by kernel_rfl) ?_
        refine wl_pure (wants0 rfl) (d := 7) (v := (.int .i64 (2))) rfl (by kernel_rfl) ?_
        refine w_nil ?_
        refine then_normal ?_
        refine w_ret ?_
        refine blk_ret ?_
        refine end2 rfl (res_tmp (v := (.int .i64 ((p35 : Int)))) rfl) (res_tmp (v := (.int .i64 (2))) rfl) ?_
        exact ⟨_, _, rfl, by omega, H37.pick [0, 1] (by decide)⟩
      · have g46 := of_decide_eq_false b43
        refine wp_know 54 (.bool false) (congrArg Value.bool b43) ?_
        have g47 := of_decide_eq_false b43
        refine wp_iff rfl ?_
        refine w_seq ?_
        refine w_lit ?_
        refine wl_pure (wants0 rfl) (d := 50) (v := (.int .i64 ((p35 : Int)))) rfl (by kernel_rfl) ?_
        refine wl_pure (wants0 rfl) (d := 6) (v := (.int .i64 ((p35 : Int)))) rfl (by kernel_rfl) ?_
        refine wl_pure (wants0 rfl) (d := 7) (v := (.int .i64 (0))) rfl (by kernel_rfl) ?_
        refine w_nil ?_
        refine then_normal ?_
        refine w_ret ?_
        refine blk_ret ?_
        refine end2 rfl (res_tmp (v := (.int .i64 ((p35 : Int)))) rfl) (res_tmp (v := (.int .i64 (0))) rfl) ?_
        exact ⟨_, _, rfl, by omega, H37.pick [0, 1] (by decide)⟩
  · have g48 := of_decide_eq_false b7
    refine wp_know 34 (.bool false) (congrArg Value.bool b7) ?_
    have g49 := of_decide_eq_false b7
    refine wp_iff rfl ?_
    refine w_skip ?_
    refine then_normal ?_
    refine w_lit ?_
    refine wl_pure (wants0 rfl) (d := 44) (v := (.slice (some ⟨g, 0, none⟩) n c)) rfl (by kernel_rfl) ?_
    refine wl_pure (wants0 rfl) (d := 45) (v := (.int .i64 (((a + m / 4 * 1 : Nat) : Int)))) rfl (by kernel_rfl) ?_
    refine wl_pure (wants0 rfl) (d := 46) (v := (.int .i64 (((a + m / 4 * 2 : Nat) : Int)))) rfl (by kernel_rfl) ?_
    refine wl_pure (wants0 rfl) (d := 47) (v := (.int .i64 (((a + m / 4 * 3 : Nat) : Int)))) rfl (by kernel_rfl) ?_
    refine wl_do (wants0 rfl) (fun K50 hK50 => ?_)
    refine d_call (d := 48) rfl (by kernel_rfl) (medianU_any w3 g n c (a + m / 4 * 1) (a + m / 4 * 2) (a + m / 4 * 3) b2 0 A (H4.fin [0, 2] (by decide) rfl) hn (by omega)) ?_
    rintro _ w51 ⟨p54, k52, r55, rfl, T53⟩
    have H56 : Sat w [rowU g n c A, restC w (rowU g n c A).fp, cellC b2 3 ([(.int .i64 (k52))] : List Value)] w51 := (Sat.turnL (L' := [rowU g n c A, cellC b2 3 ([(.int .i64 (k52))] : List Value)]) (R := [restC w (rowU g n c A).fp]) H4 [0, 2] [1] (by decide) (by kernel_rfl) rfl T53).pick [0, 2, 1] (by decide)
    refine ⟨_, rfl, ?_⟩
    refine hK50 _ _ ?_
    clear hK50 K50
    refine wl_pure (wants0 rfl) (d := 11) (v := (.int .i64 ((p54 : Int)))) rfl (by kernel_rfl) ?_
    refine w_nil ?_
    refine then_normal ?_
    refine w_seq ?_
    refine w_lit ?_
    refine wl_pure (wants0 rfl) (d := 49) (v := (.int .i64 (k52))) rfl (e_load1 rfl (by kernel_rfl) (H56.cell 2 rfl rfl)) ?_
    refine w_nil ?_
    refine then_normal ?_
    refine w_block ?_
    refine w_seq ?_
    refine w_lit ?_
    refine wl_pure (wants0 rfl) (d := 52) (v := (.bool (decide (k52 = 0)))) rfl (by kernel_rfl) ?_
    refine wl_pure (wants0 rfl) (d := 51) (v := (.bool (decide (k52 = 0)))) rfl (by kernel_rfl) ?_
    refine w_nil ?_
    refine then_normal ?_
    refine (bsplit (decide (k52 = 0))).elim (fun b57 => ?_) (fun b57 => ?_)
    · have g58 := of_decide_eq_true b57
      refine wp_know 51 (.bool true) (congrArg Value.bool b57) ?_
      have g59 := of_decide_eq_true b57
      refine wp_ift rfl ?_
      refine w_seq ?_
      refine w_lit ?_
      refine wl_pure (wants0 rfl) (d := 53) (v := (.int .i64 ((p54 : Int)))) rfl (by kernel_rfl) ?_
      refine wl_pure (wants0 rfl) (d := 6) (v := (.int .i64 ((p54 : Int)))) rfl (by kernel_rfl) ?_
      refine wl_pure (wants0 rfl) (d := 7) (v := (.int .i64 (1))) rfl (by kernel_rfl) ?_
      refine w_nil ?_
      refine then_normal ?_
      refine w_ret ?_
      refine blk_ret ?_
      refine end2 rfl (res_tmp (v := (.int .i64 ((p54 : Int)))) rfl) (res_tmp (v := (.int .i64 (1))) rfl) ?_
      exact ⟨_, _, rfl, by omega, H56.pick [0, 1] (by decide)⟩
    · have g60 := of_decide_eq_false b57
      refine wp_know 51 (.bool false) (congrArg Value.bool b57) ?_
      have g61 := of_decide_eq_false b57
      refine wp_iff rfl ?_
      refine w_seq ?_
      refine w_lit ?_
      refine wl_pure (wants0 rfl) (d := 55) (v := (.bool (decide (k52 = 12)))) rfl (by kernel_rfl) ?_
      refine wl_pure (wants0 rfl) (d := 54) (v := (.bool (decide (k52 = 12)))) rfl (by kernel_rfl) ?_
      refine w_nil ?_
      refine then_normal ?_
      refine (bsplit (decide (k52 = 12))).elim (fun b62 => ?_) (fun b62 => ?_)
      · have g63 := of_decide_eq_true b62
        refine wp_know 54 (.bool true) (congrArg Value.bool b62) ?_
        have g64 := of_decide_eq_true b62
        refine wp_ift rfl ?_
        refine w_seq ?_
        refine w_lit ?_
        refine wl_pure (wants0 rfl) (d := 56) (v := (.int .i64 ((p54 : Int)))) rfl (by kernel_rfl) ?_
        refine wl_pure (wants0 rfl) (d := 6) (v := (.int .i64 ((p54 : Int)))) rfl (by kernel_rfl) ?_
        refine wl_pure (wants0 rfl) (d := 7) (v := (.int .i64 (2))) rfl (by kernel_rfl) ?_
        refine w_nil ?_
        refine then_normal ?_
        refine w_ret ?_
        refine blk_ret ?_
        refine end2 rfl (res_tmp (v := (.int .i64 ((p54 : Int)))) rfl) (res_tmp (v := (.int .i64 (2))) rfl) ?_
        exact ⟨_, _, rfl, by omega, H56.pick [0, 1] (by decide)⟩
      · have g65 := of_decide_eq_false b62
        refine wp_know 54 (.bool false) (congrArg Value.bool b62) ?_
        have g66 := of_decide_eq_false b62
        refine wp_iff rfl ?_
        refine w_seq ?_
        refine w_lit ?_
        refine wl_pure (wants0 rfl) (d := 50) (v := (.int .i64 ((p54 : Int)))) rfl (by kernel_rfl) ?_
        refine wl_pure (wants0 rfl) (d := 6) (v := (.int .i64 ((p54 : Int)))) rfl (by kernel_rfl) ?_
        refine wl_pure (wants0 rfl) (d := 7) (v := (.int .i64 (0))) rfl (by kernel_rfl) ?_
        refine w_nil ?_
        refine then_normal ?_
        refine w_ret ?_
        refine blk_ret ?_
        refine end2 rfl (res_tmp (v := (.int .i64 ((p54 : Int)))) rfl) (res_tmp (v := (.int .i64 (0))) rfl) ?_
        exact ⟨_, _, rfl, by omega, H56.pick [0, 1] (by decide)⟩

set_option maxRecDepth 100000 in
set_option maxHeartbeats 1000000 in
theorem breakU_any (w : World) (g n c a b : Nat) (A : List Int) (hT : (rowU g n c A).ok w) (hn : n ≤ 1000000000000) (hab : a ≤ b ∧ b ≤ n) (hab2 : a + 12 < b) :
    Calls Try.prog 98 #[(.slice (some ⟨g, 0, none⟩) n c), (.int .i64 ((a : Int))), (.int .i64 ((b : Int)))] w fun e w' => ∃ B : List Int, e = .returned (.tuple #[]) ∧ B.length = n ∧ SegP a b A B ∧ Sat w [rowU g n c B, restC w (rowU g n c A).fp] w' := by
  have H : Sat w [rowU g n c A, restC w (rowU g n c A).fp] w := Sat.start1 hT
  have hl := rowU_len hT
  have hw := swU
  obtain ⟨m, hm⟩ : ∃ m : Nat, a + m = b := ⟨b - a, by omega⟩
  refine calls_fr Try.func98 rfl 65 rfl (Nat.le_of_ble_eq_true rfl) ?_
  refine w_seq ?_
  refine w_lit ?_
  refine wl_pure (wants0 rfl) (d := 11) (v := (.int .i64 ((b : Int)))) rfl (by kernel_rfl) ?_
  refine wl_pure (wants0 rfl) (d := 12) (v := (.int .i64 ((a : Int)))) rfl (by kernel_rfl) ?_
  refine wl_pure (wants0 rfl) (d := 13) (v := (.int .i64 ((b : Int) - (a : Int)))) rfl (e_int (z := (b : Int) - (a : Int)) (by kernel_rfl) (IntWalk.i64_in _ (by omega))) ?_
  refine wl_pure (wants0 rfl) (d := 6) (v := (.int .i64 ((b : Int) - (a : Int)))) rfl (by kernel_rfl) ?_
  refine w_nil ?_
  refine then_normal ?_
  refine w_seq ?_
  refine wp_know 6 (.int .i64 ((m : Int))) (show ((.int .i64 ((b : Int) - (a : Int))) : Value) = _ by first | rfl | go_num) ?_
  refine w_lit ?_
  refine wl_pure (wants0 rfl) (d := 14) (v := (.int .i64 ((m : Int)))) rfl (by kernel_rfl) ?_
  refine wl_pure (wants0 rfl) (d := 15) (v := (.bool (decide ((m : Int) ≥ 8)))) rfl (by kernel_rfl) ?_
  refine w_nil ?_
  refine then_normal ?_
  have b1 : (decide ((m : Int) ≥ 8)) = true := by exact decide_eq_true (by omega)
  refine wp_know 15 (.bool true) (congrArg Value.bool b1) ?_
  have g2 := of_decide_eq_true b1
  refine wp_ift rfl ?_
  refine w_seq ?_
  refine w_lit ?_
  refine wl_pure (wants0 rfl) (d := 16) (v := (.int .i64 ((m : Int)))) rfl (by kernel_rfl) ?_
  refine wl_pure (wants0 rfl) (d := 17) (v := (.int .u64 ((m : Int)))) rfl (e_int (z := (m : Int)) (by kernel_rfl) (wrap_u64 (by omega))) ?_
  refine wl_do (wants0 rfl) (fun K3 hK3 => ?_)
  refine d_alloc (zs := ([(.int .u64 (0))] : List Value)) (z := (.int .u64 (0))) rfl H (by kernel_rfl) (by kernel_rfl) ?_
  intro b4 w5 (H6 : Sat w [rowU g n c A, restC w (rowU g n c A).fp, cellC b4 159 ([(.int .u64 (0))] : List Value)] w5)
  refine hK3 _ _ ?_
  clear hK3 K3
  refine wl_do (wants0 rfl) (fun K7 hK7 => ?_)
  refine d_store (vs := ([(.int .u64 ((m : Int)))] : List Value)) rfl H6 2 rfl rfl rfl rfl (by kernel_rfl) (Nat.le_of_ble_eq_true (by kernel_rfl)) (Nat.le_of_ble_eq_true (by kernel_rfl)) (by kernel_rfl) ?_
  intro w8 (H9 : Sat w [rowU g n c A, restC w (rowU g n c A).fp, cellC b4 159 ([(.int .u64 ((m : Int)))] : List Value)] w8)
  refine hK7 _ _ ?_
  clear hK7 K7
  refine w_nil ?_
  refine then_normal ?_
  refine w_seq ?_
  refine w_lit ?_
  refine wl_pure (wants0 rfl) (d := 18) (v := (.int .i64 ((m : Int)))) rfl (by kernel_rfl) ?_
  refine wl_do (wants0 rfl) (fun K11 hK11 => ?_)
  refine d_call (d := 19) rfl (by kernel_rfl) (pow2_any w8 (m : Int) (by omega)) ?_
  rintro _ w12 ⟨m15, rfl, q16, u14⟩
  have H13 := H9.keepU u14
  refine ⟨_, rfl, ?_⟩
  refine hK11 _ _ ?_
  clear hK11 K11
  refine wl_pure (wants0 rfl) (d := 8) (v := (.int .u64 (m15))) rfl (by kernel_rfl) ?_
  refine w_nil ?_
  refine then_normal ?_
  refine w_seq ?_
  refine w_lit ?_
  refine wl_pure (wants0 rfl) (d := 20) (v := (.int .i64 ((a : Int)))) rfl (by kernel_rfl) ?_
  refine wl_pure (wants0 rfl) (d := 21) (v := (.int .i64 ((m : Int)))) rfl (by kernel_rfl) ?_
  refine wl_pure (wants0 rfl) (d := 22) (v := (.int .i64 ((m : Int) / 4))) rfl (e_quo (by kernel_rfl) (by omega) (by omega) (IntWalk.i64_in _ (by omega))) ?_
  refine wl_pure (wants0 rfl) (d := 23) (v := (.int .i64 (((m : Int) / 4) * 2))) rfl (e_int (z := ((m : Int) / 4) * 2) (by kernel_rfl) (IntWalk.i64_in _ (by omega))) ?_
  refine wl_pure (wants0 rfl) (d := 24) (v := (.int .i64 ((a : Int) + (((m : Int) / 4) * 2)))) rfl (e_int (z := (a : Int) + (((m : Int) / 4) * 2)) (by kernel_rfl) (IntWalk.i64_in _ (by omega))) ?_
  refine wl_pure (wants0 rfl) (d := 25) (v := (.int .i64 (((a : Int) + (((m : Int) / 4) * 2)) - 1))) rfl (e_int (z := ((a : Int) + (((m : Int) / 4) * 2)) - 1) (by kernel_rfl) (IntWalk.i64_in _ (by omega))) ?_
  refine wl_pure (wants0 rfl) (d := 9) (v := (.int .i64 (((a : Int) + (((m : Int) / 4) * 2)) - 1))) rfl (by kernel_rfl) ?_
  refine w_nil ?_
  refine then_normal ?_
  refine w_block ?_
  refine wp_know 9 (.int .i64 (((a + m / 4 * 2 - 1 : Nat) : Int))) (show ((.int .i64 (((a : Int) + (((m : Int) / 4) * 2)) - 1)) : Value) = _ by first | rfl | go_num) ?_
  refine wp_round [9, 10, 26, 27, 28, 29, 30, 31, 32, 33, 34, 35, 36, 37, 38, 39, 40, 41, 42, 43, 44, 45, 46, 47, 48, 49, 50, 51, 52, 53, 54, 55, 56, 57, 58, 59, 60, 61, 62, 63, 64] (fun F_ W_ m_ => ∃ (i : Nat) (z : Int) (B : List Int), F_ 9 = (.int .i64 ((i : Int))) ∧ (a + m / 4 * 2 ≤ i + 1 ∧ i ≤ a + m / 4 * 2 + 2) ∧ (B.length = n) ∧ (SegP a b A B) ∧ Sat w [rowU g n c B, restC w (rowU g n c A).fp, cellC b4 159 ([(.int .u64 (z))] : List Value)] W_ ∧ m_ = a + m / 4 * 2 + 3 - i) _ ⟨(a + m / 4 * 2 - 1), (m : Int), A, (show ((.int .i64 (((a + m / 4 * 2 - 1 : Nat) : Int))) : Value) = _ by first | rfl | go_num), (by omega), hl, .refl, H13, rfl⟩ ?_
  rintro g17 w18 _ ⟨i, z, B, v20, hi, hlB, hS, H19, rfl⟩
  refine wp_know 9 _ v20 ?_
  refine w_seq ?_
  refine w_seq ?_
  refine w_lit ?_
  refine wl_pure (wants0 rfl) (d := 26) (v := (.int .i64 ((i : Int)))) rfl (by kernel_rfl) ?_
  refine wl_pure (wants0 rfl) (d := 27) (v := (.int .i64 ((a : Int)))) rfl (by kernel_rfl) ?_
  refine wl_pure (wants0 rfl) (d := 28) (v := (.int .i64 ((m : Int)))) rfl (by kernel_rfl) ?_
  refine wl_pure (wants0 rfl) (d := 29) (v := (.int .i64 ((m : Int) / 4))) rfl (e_quo (by kernel_rfl) (by omega) (by omega) (IntWalk.i64_in _ (by omega))) ?_
  refine wl_pure (wants0 rfl) (d := 30) (v := (.int .i64 (((m : Int) / 4) * 2))) rfl (e_int (z := ((m : Int) / 4) * 2) (by kernel_rfl) (IntWalk.i64_in _ (by omega))) ?_
  refine wl_pure (wants0 rfl) (d := 31) (v := (.int .i64 ((a : Int) + (((m : Int) / 4) * 2)))) rfl (e_int (z := (a : Int) + (((m : Int) / 4) * 2)) (by kernel_rfl) (IntWalk.i64_in _ (by omega))) ?_
  refine wl_pure (wants0 rfl) (d := 32) (v := (.int .i64 (((a : Int) + (((m : Int) / 4) * 2)) + 1))) rfl (e_int (z := ((a : Int) + (((m : Int) / 4) * 2)) + 1) (by kernel_rfl) (IntWalk.i64_in _ (by omega))) ?_
  refine wl_pure (wants0 rfl) (d := 33) (v := (.bool (decide ((i : Int) ≤ (((a : Int) + (((m : Int) / 4) * 2)) + 1))))) rfl (by kernel_rfl) ?_
  refine w_nil ?_
  refine then_normal ?_
  refine (bsplit (decide ((i : Int) ≤ (((a : Int) + (((m : Int) / 4) * 2)) + 1)))).elim (fun b22 => ?_) (fun b22 => ?_)
  · have g23 := of_decide_eq_true b22
    refine wp_know 33 (.bool true) (congrArg Value.bool b22) ?_
    have g24 := of_decide_eq_true b22
    refine wp_ift rfl ?_
    refine w_skip ?_
    refine then_normal ?_
    refine w_seq ?_
    refine w_block ?_
    refine w_seq ?_
    refine w_lit ?_
    refine wl_do (wants0 rfl) (fun K25 hK25 => ?_)
    refine d_call (d := 36) rfl (by kernel_rfl) (xornext_any w18 b4 z (H19.at 2 rfl)) ?_
    rintro _ w26 ⟨z27, rfl, q28, T29⟩
    have H30 : Sat w [rowU g n c B, restC w (rowU g n c A).fp, cellC b4 159 ([(.int .u64 (z27))] : List Value)] w26 := (Sat.turn1 (L' := [cellC b4 159 ([(.int .u64 (z27))] : List Value)]) (R := [rowU g n c B, restC w (rowU g n c A).fp]) H19 2 [0, 1] (by decide) rfl rfl T29).pick [1, 2, 0] (by decide)
    refine ⟨_, rfl, ?_⟩
    refine hK25 _ _ ?_
    clear hK25 K25
    refine wl_pure (wants0 rfl) (d := 37) (v := (.int .u64 (m15))) rfl (by kernel_rfl) ?_
    refine wl_pure (wants0 rfl) (d := 38) (v := (.int .u64 (m15 - 1))) rfl (e_int (z := m15 - 1) (by kernel_rfl) (wrap_u64 (by omega))) ?_
    refine wl_pure (wants0 rfl) (d := 39) (v := (.int .u64 (bAnd .u64 z27 (m15 - 1)))) rfl (by kernel_rfl) ?_
    refine wl_pure (wants0 rfl) (d := 40) (v := (.int .i64 (bAnd .u64 z27 (m15 - 1)))) rfl (e_int (z := bAnd .u64 z27 (m15 - 1)) (by kernel_rfl) (IntWalk.i64_in _ (by have hq := bAnd_u64 (a := z27) (b := m15 - 1) (by omega); omega))) ?_
    refine wl_pure (wants0 rfl) (d := 10) (v := (.int .i64 (bAnd .u64 z27 (m15 - 1)))) rfl (by kernel_rfl) ?_
    refine w_nil ?_
    refine then_normal ?_
    refine w_seq ?_
    refine w_seq ?_
    have hq := bAnd_u64 (a := z27) (b := m15 - 1) (by omega)
    obtain ⟨o, ho⟩ : ∃ o : Nat, bAnd .u64 z27 (m15 - 1) = (o : Int) := ⟨(bAnd .u64 z27 (m15 - 1)).toNat, by omega⟩
    rw [ho] at hq
    refine wp_know 10 (.int .i64 ((o : Int))) (show ((.int .i64 (bAnd .u64 z27 (m15 - 1))) : Value) = _ by rw [ho]) ?_
    refine w_lit ?_
    refine wl_pure (wants0 rfl) (d := 41) (v := (.int .i64 ((o : Int)))) rfl (by kernel_rfl) ?_
    refine wl_pure (wants0 rfl) (d := 42) (v := (.int .i64 ((m : Int)))) rfl (by kernel_rfl) ?_
    refine wl_pure (wants0 rfl) (d := 43) (v := (.bool (decide ((o : Int) ≥ (m : Int))))) rfl (by kernel_rfl) ?_
    refine w_nil ?_
    refine then_normal ?_
    refine (bsplit (decide ((o : Int) ≥ (m : Int)))).elim (fun b31 => ?_) (fun b31 => ?_)
    · have g32 := of_decide_eq_true b31
      refine wp_know 43 (.bool true) (congrArg Value.bool b31) ?_
      have g33 := of_decide_eq_true b31
      refine wp_ift rfl ?_
      refine w_lit ?_
      refine wl_pure (wants0 rfl) (d := 44) (v := (.int .i64 ((o : Int)))) rfl (by kernel_rfl) ?_
      refine wl_pure (wants0 rfl) (d := 45) (v := (.int .i64 ((m : Int)))) rfl (by kernel_rfl) ?_
      refine wl_pure (wants0 rfl) (d := 46) (v := (.int .i64 ((o : Int) - (m : Int)))) rfl (e_int (z := (o : Int) - (m : Int)) (by kernel_rfl) (IntWalk.i64_in _ (by omega))) ?_
      refine wl_pure (wants0 rfl) (d := 10) (v := (.int .i64 ((o : Int) - (m : Int)))) rfl (by kernel_rfl) ?_
      refine w_nil ?_
      refine then_normal ?_
      refine wp_know 10 (.int .i64 (((o - m : Nat) : Int))) (show ((.int .i64 ((o : Int) - (m : Int))) : Value) = _ by first | rfl | go_num) ?_
      obtain ⟨x34, h35⟩ := get_at (show (a + (o - m)) < B.length by omega)
      obtain ⟨x36, h37⟩ := get_at (show i < B.length by omega)
      refine k_start H30 [rowU g n c B, restC w (rowU g n c A).fp, cellC b4 159 ([(.int .u64 (z27))] : List Value)] [17, 19] 20 rfl (by kernel_rfl) (fun Hx => (Hx.pick [0, 1, 2] (by decide))) ?_
      intro w38 H39 S40
      refine k_pure 0 rfl (by kernel_rfl) (by kernel_rfl) (by kernel_rfl) (fun _ _ _ h => h) S40 (wants0 rfl) rfl (d := 47) (v := (.slice (some ⟨g, 0, none⟩) n c)) rfl (fun _ => (by kernel_rfl)) ?_
      refine k_pure 1 rfl (by kernel_rfl) (by kernel_rfl) (by kernel_rfl) (fun _ _ _ h => h) S40 (wants0 rfl) rfl (d := 48) (v := (.int .i64 ((i : Int)))) rfl (fun _ => (by kernel_rfl)) ?_
      refine k_pure 2 rfl (by kernel_rfl) (by kernel_rfl) (by kernel_rfl) (fun _ _ _ h => h) S40 (wants0 rfl) rfl (d := 49) (v := (.slice (some ⟨g, 0, none⟩) n c)) rfl (fun _ => (by kernel_rfl)) ?_
      refine k_pure 3 rfl (by kernel_rfl) (by kernel_rfl) (by kernel_rfl) (fun _ _ _ h => h) S40 (wants0 rfl) rfl (d := 50) (v := (.int .i64 ((a : Int)))) rfl (fun _ => (by kernel_rfl)) ?_
      refine k_pure 4 rfl (by kernel_rfl) (by kernel_rfl) (by kernel_rfl) (fun _ _ _ h => h) S40 (wants0 rfl) rfl (d := 51) (v := (.int .i64 (((o - m : Nat) : Int)))) rfl (fun _ => (by kernel_rfl)) ?_
      refine k_pure 5 rfl (by kernel_rfl) (by kernel_rfl) (by kernel_rfl) (fun _ _ _ h => h) S40 (wants0 rfl) rfl (d := 52) (v := (.int .i64 ((a : Int) + ((o - m : Nat) : Int)))) rfl (fun _ => (e_int (z := (a : Int) + ((o - m : Nat) : Int)) (by kernel_rfl) (IntWalk.i64_in _ (by omega)))) ?_
      refine k_pure 6 rfl (by kernel_rfl) (by kernel_rfl) (by kernel_rfl) (fun _ _ _ h => h) S40 (wants0 rfl) rfl (d := 53) (v := (.slice (some ⟨g, 0, none⟩) n c)) rfl (fun _ => (by kernel_rfl)) ?_
      refine k_pure 7 rfl (by kernel_rfl) (by kernel_rfl) (by kernel_rfl) (fun _ _ _ h => h) S40 (wants0 rfl) rfl (d := 54) (v := (.int .i64 ((a : Int)))) rfl (fun _ => (by kernel_rfl)) ?_
      refine k_pure 8 rfl (by kernel_rfl) (by kernel_rfl) (by kernel_rfl) (fun _ _ _ h => h) S40 (wants0 rfl) rfl (d := 55) (v := (.int .i64 (((o - m : Nat) : Int)))) rfl (fun _ => (by kernel_rfl)) ?_
      refine k_pure 9 rfl (by kernel_rfl) (by kernel_rfl) (by kernel_rfl) (fun _ _ _ h => h) S40 (wants0 rfl) rfl (d := 56) (v := (.int .i64 ((a : Int) + ((o - m : Nat) : Int)))) rfl (fun _ => (e_int (z := (a : Int) + ((o - m : Nat) : Int)) (by kernel_rfl) (IntWalk.i64_in _ (by omega)))) ?_
      refine k_pure 10 rfl (by kernel_rfl) (by kernel_rfl) (by kernel_rfl) (fun _ _ _ h => h) S40 (wants0 rfl) rfl (d := 57) (v := (.pointer (some ⟨g, 0 + ((a : Int) + ((o - m : Nat) : Int)).toNat * 1, none⟩))) rfl (fun _ => (e_indexAddr (E := 23) (by kernel_rfl) (by kernel_rfl) (Nat.le_of_ble_eq_true rfl) rfl rfl (by omega) (by omega))) ?_
      refine k_val 11 rfl (by kernel_rfl) (by kernel_rfl) (by kernel_rfl) (fun _ _ _ h => h) S40 (wants0 rfl) rfl (by kernel_rfl) (d := 58) (v := (.int .u64 (x34))) rfl (fun _ H' => (e_load1 rfl (by kernel_rfl) (rowU_cell (H'.at 0 rfl) h35 (show 0 + ((a : Int) + ((o - m : Nat) : Int)).toNat * 1 = (a + (o - m)) by omega)))) ?_
      refine k_pure 12 rfl (by kernel_rfl) (by kernel_rfl) (by kernel_rfl) (fun _ _ _ h => h) S40 (wants0 rfl) rfl (d := 59) (v := (.slice (some ⟨g, 0, none⟩) n c)) rfl (fun _ => (by kernel_rfl)) ?_
      refine k_pure 13 rfl (by kernel_rfl) (by kernel_rfl) (by kernel_rfl) (fun _ _ _ h => h) S40 (wants0 rfl) rfl (d := 60) (v := (.int .i64 ((i : Int)))) rfl (fun _ => (by kernel_rfl)) ?_
      refine k_pure 14 rfl (by kernel_rfl) (by kernel_rfl) (by kernel_rfl) (fun _ _ _ h => h) S40 (wants0 rfl) rfl (d := 61) (v := (.pointer (some ⟨g, 0 + ((i : Int)).toNat * 1, none⟩))) rfl (fun _ => (e_indexAddr (E := 23) (by kernel_rfl) (by kernel_rfl) (Nat.le_of_ble_eq_true rfl) rfl rfl (by omega) (by omega))) ?_
      refine k_val 15 rfl (by kernel_rfl) (by kernel_rfl) (by kernel_rfl) (fun _ _ _ h => h) S40 (wants0 rfl) rfl (by kernel_rfl) (d := 62) (v := (.int .u64 (x36))) rfl (fun _ H' => (e_load1 rfl (by kernel_rfl) (rowU_cell (H'.at 0 rfl) h37 (show 0 + ((i : Int)).toNat * 1 = i by omega)))) ?_
      refine k_pure 16 rfl (by kernel_rfl) (by kernel_rfl) (by kernel_rfl) (fun _ _ _ h => h) S40 (wants0 rfl) rfl (d := 63) (v := (.pointer (some ⟨g, 0 + ((i : Int)).toNat * 1, none⟩))) rfl (fun _ => (e_indexAddr (E := 23) (by kernel_rfl) (by kernel_rfl) (Nat.le_of_ble_eq_true rfl) rfl rfl (by omega) (by omega))) ?_
      refine k_brk 17 (Sat w [restC w (rowU g n c A).fp, cellC b4 159 ([(.int .u64 (z27))] : List Value)]) rfl (by kernel_rfl) (wants0 rfl) rfl (fun K41 hK41 => ?_)
      refine d_storeU rfl H39 0 rfl rfl rfl (by kernel_rfl) (show 0 + ((i : Int)).toNat * 1 = i by omega) (by omega) ?_
      intro w42 (H43 : Sat w [rowU g n c (B.set i x34), restC w (rowU g n c A).fp, cellC b4 159 ([(.int .u64 (z27))] : List Value)] w42)
      have hlH43 : (B.set i x34).length = B.length := List.length_set
      have S44 := H43.pick [1, 2] (by decide)
      refine hK41 _ _ S44 ?_
      clear hK41 K41
      refine h_val 18 rfl (by kernel_rfl) (by kernel_rfl) (by kernel_rfl) (fun _ _ _ h => h) S44 (wants0 rfl) (d := 64) (v := (.pointer (some ⟨g, 0 + ((a : Int) + ((o - m : Nat) : Int)).toNat * 1, none⟩))) rfl (fun _ H' => (e_indexAddr (E := 23) (by kernel_rfl) (by kernel_rfl) (Nat.le_of_ble_eq_true rfl) rfl rfl (by omega) (by omega))) ?_
      refine h_do 19 rfl (by kernel_rfl) (wants0 rfl) (fun K45 hK45 => ?_)
      refine d_storeU rfl H43 0 rfl rfl rfl (by kernel_rfl) (show 0 + ((a : Int) + ((o - m : Nat) : Int)).toNat * 1 = (a + (o - m)) by omega) (by omega) ?_
      intro w46 (H47 : Sat w [rowU g n c ((B.set i x34).set (a + (o - m)) x36), restC w (rowU g n c A).fp, cellC b4 159 ([(.int .u64 (z27))] : List Value)] w46)
      have hlH47 : ((B.set i x34).set (a + (o - m)) x36).length = (B.set i x34).length := List.length_set
      have S48 := H47.pick [1, 2] (by decide)
      refine hK45 _ _ S48 ?_
      clear hK45 K45
      refine h_fin (by kernel_rfl) ?_
      refine blk_normal ?_
      refine then_normal ?_
      refine w_lit ?_
      refine wl_pure (wants0 rfl) (d := 34) (v := (.int .i64 ((i : Int)))) rfl (by kernel_rfl) ?_
      refine wl_pure (wants0 rfl) (d := 35) (v := (.int .i64 ((i : Int) + 1))) rfl (e_int (z := (i : Int) + 1) (by kernel_rfl) (IntWalk.i64_in _ (by omega))) ?_
      refine wl_pure (wants0 rfl) (d := 9) (v := (.int .i64 ((i : Int) + 1))) rfl (by kernel_rfl) ?_
      refine w_nil ?_
      refine round_back ?_ _ ⟨(i + 1), z27, ((B.set i x34).set (a + (o - m)) x36), (show ((.int .i64 ((i : Int) + 1)) : Value) = _ by first | rfl | go_num), (by omega), (by omega), (hS.swap (by omega) (by omega) (by omega) (by omega) h37 h35), H47, rfl⟩ (by omega)
      exact (same_upd rfl (same_upd rfl (same_upd rfl (same_upd rfl (same_upd rfl (same_upd rfl (same_upd rfl (same_upd rfl (same_upd rfl (same_upd rfl (same_upd rfl (same_upd rfl (same_upd rfl (same_upd rfl (same_upd rfl (same_upd rfl (same_upd rfl (same_upd rfl (same_upd rfl (same_upd rfl (same_upd rfl (same_upd rfl (same_upd rfl (same_upd rfl (same_upd rfl (same_upd rfl (same_upd rfl (same_upd rfl (same_upd rfl (same_upd rfl (same_upd rfl (same_upd rfl (same_upd rfl (same_upd rfl (same_upd rfl (same_upd rfl (same_upd rfl (same_upd rfl (same_upd rfl (same_upd rfl (same_upd rfl (same_upd rfl (same_upd rfl (same_upd rfl (same_upd rfl (same_upd rfl (same_upd rfl (same_ovr))))))))))))))))))))))))))))))))))))))))))))))))
    · have g49 := of_decide_eq_false b31
      refine wp_know 43 (.bool false) (congrArg Value.bool b31) ?_
      have g50 := of_decide_eq_false b31
      refine wp_iff rfl ?_
      refine w_skip ?_
      refine then_normal ?_
      obtain ⟨x51, h52⟩ := get_at (show (a + o) < B.length by omega)
      obtain ⟨x53, h54⟩ := get_at (show i < B.length by omega)
      refine k_start H30 [rowU g n c B, restC w (rowU g n c A).fp, cellC b4 159 ([(.int .u64 (z27))] : List Value)] [17, 19] 20 rfl (by kernel_rfl) (fun Hx => (Hx.pick [0, 1, 2] (by decide))) ?_
      intro w55 H56 S57
      refine k_pure 0 rfl (by kernel_rfl) (by kernel_rfl) (by kernel_rfl) (fun _ _ _ h => h) S57 (wants0 rfl) rfl (d := 47) (v := (.slice (some ⟨g, 0, none⟩) n c)) rfl (fun _ => (by kernel_rfl)) ?_
      refine k_pure 1 rfl (by kernel_rfl) (by kernel_rfl) (by kernel_rfl) (fun _ _ _ h => h) S57 (wants0 rfl) rfl (d := 48) (v := (.int .i64 ((i : Int)))) rfl (fun _ => (by kernel_rfl)) ?_
      refine k_pure 2 rfl (by kernel_rfl) (by kernel_rfl) (by kernel_rfl) (fun _ _ _ h => h) S57 (wants0 rfl) rfl (d := 49) (v := (.slice (some ⟨g, 0, none⟩) n c)) rfl (fun _ => (by kernel_rfl)) ?_
      refine k_pure 3 rfl (by kernel_rfl) (by kernel_rfl) (by kernel_rfl) (fun _ _ _ h => h) S57 (wants0 rfl) rfl (d := 50) (v := (.int .i64 ((a : Int)))) rfl (fun _ => (by kernel_rfl)) ?_
      refine k_pure 4 rfl (by kernel_rfl) (by kernel_rfl) (by kernel_rfl) (fun _ _ _ h => h) S57 (wants0 rfl) rfl (d := 51) (v := (.int .i64 ((o : Int)))) rfl (fun _ => (by kernel_rfl)) ?_
      refine k_pure 5 rfl (by kernel_rfl) (by kernel_rfl) (by kernel_rfl) (fun _ _ _ h => h) S57 (wants0 rfl) rfl (d := 52) (v := (.int .i64 ((a : Int) + (o : Int)))) rfl (fun _ => (e_int (z := (a : Int) + (o : Int)) (by kernel_rfl) (IntWalk.i64_in _ (by omega)))) ?_
      refine k_pure 6 rfl (by kernel_rfl) (by kernel_rfl) (by kernel_rfl) (fun _ _ _ h => h) S57 (wants0 rfl) rfl (d := 53) (v := (.slice (some ⟨g, 0, none⟩) n c)) rfl (fun _ => (by kernel_rfl)) ?_
      refine k_pure 7 rfl (by kernel_rfl) (by kernel_rfl) (by kernel_rfl) (fun _ _ _ h => h) S57 (wants0 rfl) rfl (d := 54) (v := (.int .i64 ((a : Int)))) rfl (fun _ => (by kernel_rfl)) ?_
      refine k_pure 8 rfl (by kernel_rfl) (by kernel_rfl) (by kernel_rfl) (fun _ _ _ h => h) S57 (wants0 rfl) rfl (d := 55) (v := (.int .i64 ((o : Int)))) rfl (fun _ => (by kernel_rfl)) ?_
      refine k_pure 9 rfl (by kernel_rfl) (by kernel_rfl) (by kernel_rfl) (fun _ _ _ h => h) S57 (wants0 rfl) rfl (d := 56) (v := (.int .i64 ((a : Int) + (o : Int)))) rfl (fun _ => (e_int (z := (a : Int) + (o : Int)) (by kernel_rfl) (IntWalk.i64_in _ (by omega)))) ?_
      refine k_pure 10 rfl (by kernel_rfl) (by kernel_rfl) (by kernel_rfl) (fun _ _ _ h => h) S57 (wants0 rfl) rfl (d := 57) (v := (.pointer (some ⟨g, 0 + ((a : Int) + (o : Int)).toNat * 1, none⟩))) rfl (fun _ => (e_indexAddr (E := 23) (by kernel_rfl) (by kernel_rfl) (Nat.le_of_ble_eq_true rfl) rfl rfl (by omega) (by omega))) ?_
      refine k_val 11 rfl (by kernel_rfl) (by kernel_rfl) (by kernel_rfl) (fun _ _ _ h => h) S57 (wants0 rfl) rfl (by kernel_rfl) (d := 58) (v := (.int .u64 (x51))) rfl (fun _ H' => (e_load1 rfl (by kernel_rfl) (rowU_cell (H'.at 0 rfl) h52 (show 0 + ((a : Int) + (o : Int)).toNat * 1 = (a + o) by omega)))) ?_
      refine k_pure 12 rfl (by kernel_rfl) (by kernel_rfl) (by kernel_rfl) (fun _ _ _ h => h) S57 (wants0 rfl) rfl (d := 59) (v := (.slice (some ⟨g, 0, none⟩) n c)) rfl (fun _ => (by kernel_rfl)) ?_
      refine k_pure 13 rfl (by kernel_rfl) (by kernel_rfl) (by kernel_rfl) (fun _ _ _ h => h) S57 (wants0 rfl) rfl (d := 60) (v := (.int .i64 ((i : Int)))) rfl (fun _ => (by kernel_rfl)) ?_
      refine k_pure 14 rfl (by kernel_rfl) (by kernel_rfl) (by kernel_rfl) (fun _ _ _ h => h) S57 (wants0 rfl) rfl (d := 61) (v := (.pointer (some ⟨g, 0 + ((i : Int)).toNat * 1, none⟩))) rfl (fun _ => (e_indexAddr (E := 23) (by kernel_rfl) (by kernel_rfl) (Nat.le_of_ble_eq_true rfl) rfl rfl (by omega) (by omega))) ?_
      refine k_val 15 rfl (by kernel_rfl) (by kernel_rfl) (by kernel_rfl) (fun _ _ _ h => h) S57 (wants0 rfl) rfl (by kernel_rfl) (d := 62) (v := (.int .u64 (x53))) rfl (fun _ H' => (e_load1 rfl (by kernel_rfl) (rowU_cell (H'.at 0 rfl) h54 (show 0 + ((i : Int)).toNat * 1 = i by omega)))) ?_
      refine k_pure 16 rfl (by kernel_rfl) (by kernel_rfl) (by kernel_rfl) (fun _ _ _ h => h) S57 (wants0 rfl) rfl (d := 63) (v := (.pointer (some ⟨g, 0 + ((i : Int)).toNat * 1, none⟩))) rfl (fun _ => (e_indexAddr (E := 23) (by kernel_rfl) (by kernel_rfl) (Nat.le_of_ble_eq_true rfl) rfl rfl (by omega) (by omega))) ?_
      refine k_brk 17 (Sat w [restC w (rowU g n c A).fp, cellC b4 159 ([(.int .u64 (z27))] : List Value)]) rfl (by kernel_rfl) (wants0 rfl) rfl (fun K58 hK58 => ?_)
      refine d_storeU rfl H56 0 rfl rfl rfl (by kernel_rfl) (show 0 + ((i : Int)).toNat * 1 = i by omega) (by omega) ?_
      intro w59 (H60 : Sat w [rowU g n c (B.set i x51), restC w (rowU g n c A).fp, cellC b4 159 ([(.int .u64 (z27))] : List Value)] w59)
      have hlH60 : (B.set i x51).length = B.length := List.length_set
      have S61 := H60.pick [1, 2] (by decide)
      refine hK58 _ _ S61 ?_
      clear hK58 K58
      refine h_val 18 rfl (by kernel_rfl) (by kernel_rfl) (by kernel_rfl) (fun _ _ _ h => h) S61 (wants0 rfl) (d := 64) (v := (.pointer (some ⟨g, 0 + ((a : Int) + (o : Int)).toNat * 1, none⟩))) rfl (fun _ H' => (e_indexAddr (E := 23) (by kernel_rfl) (by kernel_rfl) (Nat.le_of_ble_eq_true rfl) rfl rfl (by omega) (by omega))) ?_
      refine h_do 19 rfl (by kernel_rfl) (wants0 rfl) (fun K62 hK62 => ?_)
      refine d_storeU rfl H60 0 rfl rfl rfl (by kernel_rfl) (show 0 + ((a : Int) + (o : Int)).toNat * 1 = (a + o) by omega) (by omega) ?_
      intro w63 (H64 : Sat w [rowU g n c ((B.set i x51).set (a + o) x53), restC w (rowU g n c A).fp, cellC b4 159 ([(.int .u64 (z27))] : List Value)] w63)
      have hlH64 : ((B.set i x51).set (a + o) x53).length = (B.set i x51).length := List.length_set
      have S65 := H64.pick [1, 2] (by decide)
      refine hK62 _ _ S65 ?_
      clear hK62 K62
      refine h_fin (by kernel_rfl) ?_
      refine blk_normal ?_
      refine then_normal ?_
      refine w_lit ?_
      refine wl_pure (wants0 rfl) (d := 34) (v := (.int .i64 ((i : Int)))) rfl (by kernel_rfl) ?_
      refine wl_pure (wants0 rfl) (d := 35) (v := (.int .i64 ((i : Int) + 1))) rfl (e_int (z := (i : Int) + 1) (by kernel_rfl) (IntWalk.i64_in _ (by omega))) ?_
      refine wl_pure (wants0 rfl) (d := 9) (v := (.int .i64 ((i : Int) + 1))) rfl (by kernel_rfl) ?_
      refine w_nil ?_
      refine round_back ?_ _ ⟨(i + 1), z27, ((B.set i x51).set (a + o) x53), (show ((.int .i64 ((i : Int) + 1)) : Value) = _ by first | rfl | go_num), (by omega), (by omega), (hS.swap (by omega) (by omega) (by omega) (by omega) h54 h52), H64, rfl⟩ (by omega)
      exact (same_upd rfl (same_upd rfl (same_upd rfl (same_upd rfl (same_upd rfl (same_upd rfl (same_upd rfl (same_upd rfl (same_upd rfl (same_upd rfl (same_upd rfl (same_upd rfl (same_upd rfl (same_upd rfl (same_upd rfl (same_upd rfl (same_upd rfl (same_upd rfl (same_upd rfl (same_upd rfl (same_upd rfl (same_upd rfl (same_upd rfl (same_upd rfl (same_upd rfl (same_upd rfl (same_upd rfl (same_upd rfl (same_upd rfl (same_upd rfl (same_upd rfl (same_upd rfl (same_upd rfl (same_upd rfl (same_upd rfl (same_upd rfl (same_upd rfl (same_upd rfl (same_upd rfl (same_upd rfl (same_upd rfl (same_upd rfl (same_ovr)))))))))))))))))))))))))))))))))))))))))))
  · have g66 := of_decide_eq_false b22
    refine wp_know 33 (.bool false) (congrArg Value.bool b22) ?_
    have g67 := of_decide_eq_false b22
    refine wp_iff rfl ?_
    refine w_exit ?_
    refine then_exit ?_
    refine back_exit ?_
    refine blk_hit ?_
    refine end_normal ?_
    refine end0 rfl  ?_
    exact ⟨B, rfl, hlB, hS, H19.pick [0, 1] (by decide)⟩

end Go.Proofs.Ytbpeofcoceaahaa
