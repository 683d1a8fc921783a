/- WHAT IS PROVED: hashes, names and entries compared: contracts. Conditions: stated with each. -/
import Derived.Test.YtenihpghfdcpkaaEntE
import Derived.Test.YtenihpghfdcpkaaBatA
namespace Go.Proofs.Ytenihpghfdcpkaa
open Go.RowKit

set_option maxRecDepth 100000 in
set_option maxHeartbeats 400000 in
theorem bytesCompare_any (w : World) (b1 b2 : Nat) (T1 T2 : TypeId) (x y : Hash) (h1 : w.heap[b1]? = some (.cells ⟨hc x⟩ T1 (0, 0))) (h2 : w.heap[b2]? = some (.cells ⟨hc y⟩ T2 (0, 0))) :
    Calls Try.prog 57 #[(.slice (some ⟨b1, 0, none⟩) 32 32), (.slice (some ⟨b2, 0, none⟩) 32 32)] w fun e w' => e = .returned (.int .i64 (Extern.BytealgCompare.cmp ⟨x.l.toArray⟩ ⟨y.l.toArray⟩)) ∧ Upd [] w w' := by
  have H := Sat.start0 w
  refine calls_fr Try.func57 rfl 8 rfl (Nat.le_of_ble_eq_true rfl) ?_
  refine w_seq ?_
  refine w_lit ?_
  refine wl_pure (wants0 rfl) (d := 4) (v := (.int .i64 (0))) rfl (by kernel_rfl) ?_
  refine w_nil ?_
  refine then_normal ?_
  refine w_seq ?_
  refine w_lit ?_
  refine wl_pure (wants0 rfl) (d := 5) (v := (.slice (some ⟨b1, 0, none⟩) 32 32)) rfl (by kernel_rfl) ?_
  refine wl_pure (wants0 rfl) (d := 6) (v := (.slice (some ⟨b2, 0, none⟩) 32 32)) rfl (by kernel_rfl) ?_
  refine wl_pure (wants0 rfl) (d := 7) (v := (.int .i64 (Extern.BytealgCompare.cmp ⟨x.l.toArray⟩ ⟨y.l.toArray⟩))) rfl (e_extern (by kernel_rfl) (ext_compare x y (H.roCells 0 rfl h1 (fun h => h)) (H.roCells 0 rfl h2 (fun h => h)))) ?_
  refine wl_pure (wants0 rfl) (d := 4) (v := (.int .i64 (Extern.BytealgCompare.cmp ⟨x.l.toArray⟩ ⟨y.l.toArray⟩))) rfl (by kernel_rfl) ?_
  refine w_nil ?_
  refine then_normal ?_
  refine w_ret ?_
  refine end1 rfl (res_tmp (v := (.int .i64 (Extern.BytealgCompare.cmp ⟨x.l.toArray⟩ ⟨y.l.toArray⟩))) rfl) ?_
  exact ⟨rfl, H.upd 0 rfl [] (fun _ h => h.elim)⟩

set_option maxRecDepth 100000 in
set_option maxHeartbeats 400000 in
theorem shaLess_any (w : World) (x y : Hash) :
    Calls Try.prog 42 #[(.agg ⟨(hc x)⟩), (.agg ⟨(hc y)⟩)] w fun e w' => e = .returned (.bool (lessB x y)) ∧ Upd [] w w' := by
  have H := Sat.start0 w
  refine calls_fr Try.func42 rfl 9 rfl (Nat.le_of_ble_eq_true rfl) ?_
  refine w_seq ?_
  refine w_lit ?_
  refine wl_do (wants0 rfl) (fun K1 hK1 => ?_)
  refine d_box (vs := (hc x)) rfl H rfl rfl ?_
  intro b2 w3 (H4 : Sat w [restC w (fun _ => False), cellC b2 37 (hc x)] w3)
  refine hK1 _ _ ?_
  clear hK1 K1
  refine wl_do (wants0 rfl) (fun K5 hK5 => ?_)
  refine d_box (vs := (hc y)) rfl H4 rfl rfl ?_
  intro b6 w7 (H8 : Sat w [restC w (fun _ => False), cellC b2 37 (hc x), cellC b6 37 (hc y)] w7)
  refine hK5 _ _ ?_
  clear hK5 K5
  refine wl_pure (wants0 rfl) (d := 4) (v := (.bool false)) rfl (by kernel_rfl) ?_
  refine w_nil ?_
  refine then_normal ?_
  refine w_seq ?_
  refine q_start H8 (by kernel_rfl) (by kernel_rfl) ?_
  refine q_val (wants0 rfl) (d := 5) (v := (.slice (some ⟨b2, 0, none⟩) 32 32)) rfl (fun _ H' => (by kernel_rfl)) ?_
  refine q_val (wants0 rfl) (d := 6) (v := (.slice (some ⟨b6, 0, none⟩) 32 32)) rfl (fun _ H' => (by kernel_rfl)) ?_
  refine q_call (wants0 rfl) (d := 7) (v := (.int .i64 (Extern.BytealgCompare.cmp ⟨x.l.toArray⟩ ⟨y.l.toArray⟩))) rfl (fun _ _ => by kernel_rfl) (fun w' H' => (bytesCompare_any w' b2 b6 _ _ x y (H'.at 1 rfl) (H'.at 2 rfl)).mono fun _ _ h => ⟨h.1, H'.keepU h.2⟩) ?_
  refine q_val (wants0 rfl) (d := 8) (v := (.bool (decide ((Extern.BytealgCompare.cmp ⟨x.l.toArray⟩ ⟨y.l.toArray⟩) < 0)))) rfl (fun _ H' => (by kernel_rfl)) ?_
  refine q_val (wants0 rfl) (d := 4) (v := (.bool (decide ((Extern.BytealgCompare.cmp ⟨x.l.toArray⟩ ⟨y.l.toArray⟩) < 0)))) rfl (fun _ H' => (by kernel_rfl)) ?_
  refine q_end ?_
  intro w9 H10
  refine then_normal ?_
  refine w_ret ?_
  refine end1 rfl (res_tmp (v := (.bool (decide ((Extern.BytealgCompare.cmp ⟨x.l.toArray⟩ ⟨y.l.toArray⟩) < 0)))) rfl) ?_
  exact ⟨rfl, H10.upd 0 rfl [] (fun _ h => h.elim)⟩

set_option maxRecDepth 100000 in
set_option maxHeartbeats 400000 in
theorem lessHash_any (w : World) (x y : Hash) :
    Calls Try.prog 29 #[(.agg ⟨(hc x)⟩), (.agg ⟨(hc y)⟩)] w fun e w' => e = .returned (.bool (lessB x y)) ∧ Upd [] w w' := by
  have H := Sat.start0 w
  refine calls_fr Try.func29 rfl 10 rfl (Nat.le_of_ble_eq_true rfl) ?_
  refine w_seq ?_
  refine w_lit ?_
  refine wl_do (wants0 rfl) (fun K1 hK1 => ?_)
  refine d_box (vs := (hc x)) rfl H rfl rfl ?_
  intro b2 w3 (H4 : Sat w [restC w (fun _ => False), cellC b2 37 (hc x)] w3)
  refine hK1 _ _ ?_
  clear hK1 K1
  refine wl_do (wants0 rfl) (fun K5 hK5 => ?_)
  refine d_box (vs := (hc y)) rfl H4 rfl rfl ?_
  intro b6 w7 (H8 : Sat w [restC w (fun _ => False), cellC b2 37 (hc x), cellC b6 37 (hc y)] w7)
  refine hK5 _ _ ?_
  clear hK5 K5
  refine wl_pure (wants0 rfl) (d := 4) (v := (.bool false)) rfl (by kernel_rfl) ?_
  refine w_nil ?_
  refine then_normal ?_
  refine w_seq ?_
  refine q_start H8 (by kernel_rfl) (by kernel_rfl) ?_
  refine q_val (wants0 rfl) (d := 5) (v := (.slice (some ⟨b2, 0, none⟩) 32 32)) rfl (fun _ H' => (by kernel_rfl)) ?_
  refine q_val (wants0 rfl) (d := 6) (v := (strH x)) rfl (fun _ H' => (e_convHash (e := 5) x (by kernel_rfl) (by kernel_rfl) (by kernel_rfl) rfl (cell_run (H'.at 1 rfl) (by kernel_rfl)))) ?_
  refine q_val (wants0 rfl) (d := 7) (v := (.slice (some ⟨b6, 0, none⟩) 32 32)) rfl (fun _ H' => (by kernel_rfl)) ?_
  refine q_val (wants0 rfl) (d := 8) (v := (strH y)) rfl (fun _ H' => (e_convHash (e := 5) y (by kernel_rfl) (by kernel_rfl) (by kernel_rfl) rfl (cell_run (H'.at 2 rfl) (by kernel_rfl)))) ?_
  refine q_val (wants0 rfl) (d := 9) (v := (.bool (lessB x y))) rfl (fun _ H' => (e_lssStr x y rfl rfl)) ?_
  refine q_val (wants0 rfl) (d := 4) (v := (.bool (lessB x y))) rfl (fun _ H' => (by kernel_rfl)) ?_
  refine q_end ?_
  intro w9 H10
  refine then_normal ?_
  refine w_ret ?_
  refine end1 rfl (res_tmp (v := (.bool (lessB x y))) rfl) ?_
  exact ⟨rfl, H10.upd 0 rfl [] (fun _ h => h.elim)⟩

set_option maxRecDepth 100000 in
set_option maxHeartbeats 400000 in
theorem ahead_any (w : World) (x y : EntD) :
    Calls Try.prog 21 #[(.agg ⟨(([(.int .i64 (x.cl)), (.int .i64 (x.sq))] : List Value) ++ hc x.h ++ ([(.int .u64 (x.t))] : List Value))⟩), (.agg ⟨(([(.int .i64 (y.cl)), (.int .i64 (y.sq))] : List Value) ++ hc y.h ++ ([(.int .u64 (y.t))] : List Value))⟩)] w fun e w' => e = .returned (.bool (aheadE x y)) ∧ Upd [] w w' := by
  have H := Sat.start0 w
  refine calls_fr Try.func21 rfl 24 rfl (Nat.le_of_ble_eq_true rfl) ?_
  refine w_seq ?_
  refine w_lit ?_
  refine wl_do (wants0 rfl) (fun K1 hK1 => ?_)
  refine d_box (vs := (([(.int .i64 (x.cl)), (.int .i64 (x.sq))] : List Value) ++ hc x.h ++ ([(.int .u64 (x.t))] : List Value))) rfl H rfl rfl ?_
  intro b2 w3 (H4 : Sat w [restC w (fun _ => False), cellC b2 50 (([(.int .i64 (x.cl)), (.int .i64 (x.sq))] : List Value) ++ hc x.h ++ ([(.int .u64 (x.t))] : List Value))] w3)
  refine hK1 _ _ ?_
  clear hK1 K1
  refine wl_do (wants0 rfl) (fun K5 hK5 => ?_)
  refine d_box (vs := (([(.int .i64 (y.cl)), (.int .i64 (y.sq))] : List Value) ++ hc y.h ++ ([(.int .u64 (y.t))] : List Value))) rfl H4 rfl rfl ?_
  intro b6 w7 (H8 : Sat w [restC w (fun _ => False), cellC b2 50 (([(.int .i64 (x.cl)), (.int .i64 (x.sq))] : List Value) ++ hc x.h ++ ([(.int .u64 (x.t))] : List Value)), cellC b6 50 (([(.int .i64 (y.cl)), (.int .i64 (y.sq))] : List Value) ++ hc y.h ++ ([(.int .u64 (y.t))] : List Value))] w7)
  refine hK5 _ _ ?_
  clear hK5 K5
  refine wl_pure (wants0 rfl) (d := 4) (v := (.bool false)) rfl (by kernel_rfl) ?_
  refine w_nil ?_
  refine then_normal ?_
  refine w_seq ?_
  refine w_lit ?_
  refine wl_pure (wants0 rfl) (d := 5) (v := (.pointer (some ⟨b2, 34, none⟩))) rfl (by kernel_rfl) ?_
  refine wl_pure (wants0 rfl) (d := 6) (v := (.int .u64 (x.t))) rfl (e_load1 rfl (by kernel_rfl) (H8.cell 1 rfl (by kernel_rfl))) ?_
  refine wl_pure (wants0 rfl) (d := 7) (v := (.pointer (some ⟨b6, 34, none⟩))) rfl (by kernel_rfl) ?_
  refine wl_pure (wants0 rfl) (d := 8) (v := (.int .u64 (y.t))) rfl (e_load1 rfl (by kernel_rfl) (H8.cell 2 rfl (by kernel_rfl))) ?_
  refine wl_pure (wants0 rfl) (d := 9) (v := (.bool (decide (x.t < y.t)))) rfl (by kernel_rfl) ?_
  refine wl_pure (wants0 rfl) (d := 10) (v := (.bool (decide (x.t < y.t)))) rfl (by kernel_rfl) ?_
  refine (bsplit (decide (x.t < y.t))).elim (fun b9 => ?_) (fun b9 => ?_)
  · have g10 := of_decide_eq_true b9
    refine wl_know 10 (.bool true) (congrArg Value.bool b9) ?_
    have g11 := of_decide_eq_true b9
    refine wl_pass (wantsN 5 10 false rfl (by kernel_rfl) rfl (by kernel_rfl)) rfl ?_
    refine wl_pass (wantsN 5 10 false rfl (by kernel_rfl) rfl (by kernel_rfl)) rfl ?_
    refine wl_pass (wantsN 5 10 false rfl (by kernel_rfl) rfl (by kernel_rfl)) rfl ?_
    refine wl_pass (wantsN 5 10 false rfl (by kernel_rfl) rfl (by kernel_rfl)) rfl ?_
    refine wl_pass (wantsN 5 10 false rfl (by kernel_rfl) rfl (by kernel_rfl)) rfl ?_
    refine wl_pass (wantsN 5 10 false rfl (by kernel_rfl) rfl (by kernel_rfl)) rfl ?_
    refine wl_pass (wantsU 11 16 true rfl (by kernel_rfl) rfl (by kernel_rfl)) rfl ?_
    refine wl_pass (wantsU 11 16 true rfl (by kernel_rfl) rfl (by kernel_rfl)) rfl ?_
    refine wl_pass (wantsU 11 16 true rfl (by kernel_rfl) rfl (by kernel_rfl)) rfl ?_
    refine wl_pass (wantsU 11 16 true rfl (by kernel_rfl) rfl (by kernel_rfl)) rfl ?_
    refine wl_pass (wantsU 11 16 true rfl (by kernel_rfl) rfl (by kernel_rfl)) rfl ?_
    refine wl_pass (wantsN 5 10 false rfl (by kernel_rfl) rfl (by kernel_rfl)) rfl ?_
    refine wl_pure (wants0 rfl) (d := 23) (v := (.bool true)) rfl (by kernel_rfl) ?_
    refine wl_pure (wants0 rfl) (d := 4) (v := (.bool true)) rfl (by kernel_rfl) ?_
    refine w_nil ?_
    refine then_normal ?_
    refine w_ret ?_
    refine end1 rfl (res_tmp (v := (.bool true)) rfl) ?_
    exact ⟨by unfold aheadE; simp [b9], H8.upd 0 rfl [] (fun _ h => h.elim)⟩
  · have g12 := of_decide_eq_false b9
    refine wl_know 10 (.bool false) (congrArg Value.bool b9) ?_
    have g13 := of_decide_eq_false b9
    refine wl_pure (wantsY 5 10 false rfl (by kernel_rfl) rfl (by kernel_rfl)) (d := 11) (v := (.pointer (some ⟨b2, 34, none⟩))) rfl (by kernel_rfl) ?_
    refine wl_pure (wantsY 5 10 false rfl (by kernel_rfl) rfl (by kernel_rfl)) (d := 12) (v := (.int .u64 (x.t))) rfl (e_load1 rfl (by kernel_rfl) (H8.cell 1 rfl (by kernel_rfl))) ?_
    refine wl_pure (wantsY 5 10 false rfl (by kernel_rfl) rfl (by kernel_rfl)) (d := 13) (v := (.pointer (some ⟨b6, 34, none⟩))) rfl (by kernel_rfl) ?_
    refine wl_pure (wantsY 5 10 false rfl (by kernel_rfl) rfl (by kernel_rfl)) (d := 14) (v := (.int .u64 (y.t))) rfl (e_load1 rfl (by kernel_rfl) (H8.cell 2 rfl (by kernel_rfl))) ?_
    refine wl_pure (wantsY 5 10 false rfl (by kernel_rfl) rfl (by kernel_rfl)) (d := 15) (v := (.bool (decide (x.t = y.t)))) rfl (by kernel_rfl) ?_
    refine wl_pure (wantsY 5 10 false rfl (by kernel_rfl) rfl (by kernel_rfl)) (d := 16) (v := (.bool (decide (x.t = y.t)))) rfl (by kernel_rfl) ?_
    refine (bsplit (decide (x.t = y.t))).elim (fun b14 => ?_) (fun b14 => ?_)
    · have g15 := of_decide_eq_true b14
      refine wl_know 16 (.bool true) (congrArg Value.bool b14) ?_
      have g16 := of_decide_eq_true b14
      refine wl_pure (wantsY 11 16 true rfl (by kernel_rfl) rfl (by kernel_rfl)) (d := 17) (v := (.pointer (some ⟨b2, 2, none⟩))) rfl (by kernel_rfl) ?_
      refine wl_pure (wantsY 11 16 true rfl (by kernel_rfl) rfl (by kernel_rfl)) (d := 18) (v := (.agg ⟨(hc x.h)⟩)) rfl (e_loadN (vs := (hc x.h)) rfl (by kernel_rfl) (by kernel_rfl) (by exact Nat.le_of_ble_eq_true (by kernel_rfl)) (H8.at 1 rfl) (by kernel_rfl)) ?_
      refine wl_pure (wantsY 11 16 true rfl (by kernel_rfl) rfl (by kernel_rfl)) (d := 19) (v := (.pointer (some ⟨b6, 2, none⟩))) rfl (by kernel_rfl) ?_
      refine wl_pure (wantsY 11 16 true rfl (by kernel_rfl) rfl (by kernel_rfl)) (d := 20) (v := (.agg ⟨(hc y.h)⟩)) rfl (e_loadN (vs := (hc y.h)) rfl (by kernel_rfl) (by kernel_rfl) (by exact Nat.le_of_ble_eq_true (by kernel_rfl)) (H8.at 2 rfl) (by kernel_rfl)) ?_
      refine wl_do (wantsY 11 16 true rfl (by kernel_rfl) rfl (by kernel_rfl)) (fun K17 hK17 => ?_)
      refine d_call (d := 21) rfl (by kernel_rfl) (shaLess_any w7 x.h y.h) ?_
      rintro _ w18 ⟨rfl, u20⟩
      have H19 := H8.keepU u20
      refine ⟨_, rfl, ?_⟩
      refine hK17 _ _ ?_
      clear hK17 K17
      refine wl_pure (wantsY 5 10 false rfl (by kernel_rfl) rfl (by kernel_rfl)) (d := 22) (v := (.bool (lessB x.h y.h))) rfl (by kernel_rfl) ?_
      refine wl_pure (wants0 rfl) (d := 23) (v := (.bool (lessB x.h y.h))) rfl (by kernel_rfl) ?_
      refine wl_pure (wants0 rfl) (d := 4) (v := (.bool (lessB x.h y.h))) rfl (by kernel_rfl) ?_
      refine w_nil ?_
      refine then_normal ?_
      refine w_ret ?_
      refine end1 rfl (res_tmp (v := (.bool (lessB x.h y.h))) rfl) ?_
      exact ⟨by unfold aheadE; simp [b9, b14], H19.upd 0 rfl [] (fun _ h => h.elim)⟩
    · have g21 := of_decide_eq_false b14
      refine wl_know 16 (.bool false) (congrArg Value.bool b14) ?_
      have g22 := of_decide_eq_false b14
      refine wl_pass (wantsN 11 16 true rfl (by kernel_rfl) rfl (by kernel_rfl)) rfl ?_
      refine wl_pass (wantsN 11 16 true rfl (by kernel_rfl) rfl (by kernel_rfl)) rfl ?_
      refine wl_pass (wantsN 11 16 true rfl (by kernel_rfl) rfl (by kernel_rfl)) rfl ?_
      refine wl_pass (wantsN 11 16 true rfl (by kernel_rfl) rfl (by kernel_rfl)) rfl ?_
      refine wl_pass (wantsN 11 16 true rfl (by kernel_rfl) rfl (by kernel_rfl)) rfl ?_
      refine wl_pure (wantsY 5 10 false rfl (by kernel_rfl) rfl (by kernel_rfl)) (d := 22) (v := (.bool false)) rfl (by kernel_rfl) ?_
      refine wl_pure (wants0 rfl) (d := 23) (v := (.bool false)) rfl (by kernel_rfl) ?_
      refine wl_pure (wants0 rfl) (d := 4) (v := (.bool false)) rfl (by kernel_rfl) ?_
      refine w_nil ?_
      refine then_normal ?_
      refine w_ret ?_
      refine end1 rfl (res_tmp (v := (.bool false)) rfl) ?_
      exact ⟨by unfold aheadE; simp [b9, b14], H8.upd 0 rfl [] (fun _ h => h.elim)⟩

theorem in_yes {L : List NmD} {a b : Int} {i : Nat} (hi : i < L.length) (h : (L.getD i nm0).cl = a ∧ (L.getD i nm0).sq = b) : (⟨a, b⟩ : NmD) ∈ L := by
  have e : L.getD i nm0 = ⟨a, b⟩ := by rw [← h.1, ← h.2]
  rw [← e, List.getD_eq_getElem?_getD, List.getElem?_eq_getElem hi]; exact List.getElem_mem hi
theorem in_no {L : List NmD} {x : NmD} {i : Nat} (hi : L.length ≤ i) (h : ∀ j, j < i → ¬ L.getD j nm0 = x) : x ∉ L := fun hm => by
  obtain ⟨j, hj, e⟩ := List.mem_iff_getElem.1 hm
  exact h j (by omega) (by rw [List.getD_eq_getElem?_getD, List.getElem?_eq_getElem hj]; exact e)
set_option maxRecDepth 100000 in
set_option maxHeartbeats 400000 in
theorem rIn_any (w : World) (la : Option Addr) (lc : Nat) (L : List NmD) (hL : ListAt encNm 2 w (.slice la L.length lc) L) (hl : L.length ≤ 1000000) (a b : Int) :
    Calls Try.prog 28 #[(.slice la L.length lc), (.agg ⟨([(.int .i64 (a)), (.int .i64 (b))] : List Value)⟩)] w fun e w' => e = .returned (.bool (decide ((⟨a, b⟩ : NmD) ∈ L))) ∧ Upd [] w w' := by
  have H := Sat.start0 w
  refine calls_fr Try.func28 rfl 18 rfl (Nat.le_of_ble_eq_true rfl) ?_
  refine w_seq ?_
  refine w_lit ?_
  refine wl_do (wants0 rfl) (fun K1 hK1 => ?_)
  refine d_box (vs := ([(.int .i64 (a)), (.int .i64 (b))] : List Value)) rfl H rfl rfl ?_
  intro b2 w3 (H4 : Sat w [restC w (fun _ => False), cellC b2 35 ([(.int .i64 (a)), (.int .i64 (b))] : List Value)] w3)
  refine hK1 _ _ ?_
  clear hK1 K1
  refine wl_pure (wants0 rfl) (d := 4) (v := (.bool false)) rfl (by kernel_rfl) ?_
  refine w_nil ?_
  refine then_normal ?_
  refine w_seq ?_
  refine w_seq ?_
  refine w_lit ?_
  refine wl_pure (wants0 rfl) (d := 6) (v := (.slice la L.length lc)) rfl (by kernel_rfl) ?_
  refine wl_pure (wants0 rfl) (d := 7) (v := (.int .i64 ((L.length : Int)))) rfl (by kernel_rfl) ?_
  refine wl_pure (wants0 rfl) (d := 8) (v := (.int .i64 (0))) rfl (by kernel_rfl) ?_
  refine w_nil ?_
  refine then_normal ?_
  refine w_block ?_
  refine wp_round [4, 5, 8, 9, 10, 11, 12, 13, 14, 15, 16, 17] (fun F_ W_ m_ => ∃ (i : Nat), F_ 8 = (.int .i64 ((i : Int))) ∧ (i ≤ L.length) ∧ (∀ j, j < i → ¬ L.getD j nm0 = ⟨a, b⟩) ∧ Sat w [restC w (fun _ => False), cellC b2 35 ([(.int .i64 (a)), (.int .i64 (b))] : List Value)] W_ ∧ m_ = L.length - i) _ ⟨0, (show ((.int .i64 (0)) : Value) = _ by first | rfl | go_num), (Nat.zero_le _), (fun _ h => absurd h (Nat.not_lt_zero _)), H4, rfl⟩ ?_
  rintro g5 w6 _ ⟨i, v8, hi, hno, H7, rfl⟩
  refine wp_know 8 _ v8 ?_
  refine w_seq ?_
  refine w_lit ?_
  refine wl_pure (wants0 rfl) (d := 9) (v := (.bool (decide ((i : Int) < (L.length : Int))))) rfl (by kernel_rfl) ?_
  refine w_nil ?_
  refine then_normal ?_
  refine w_seq ?_
  refine (bsplit (decide ((i : Int) < (L.length : Int)))).elim (fun b10 => ?_) (fun b10 => ?_)
  · have g11 := of_decide_eq_true b10
    refine wp_know 9 (.bool true) (congrArg Value.bool b10) ?_
    have g12 := of_decide_eq_true b10
    refine wp_ift rfl ?_
    refine w_skip ?_
    refine then_normal ?_
    refine w_seq ?_
    refine w_block ?_
    refine w_seq ?_
    refine w_lit ?_
    refine wl_pure (wants0 rfl) (d := 10) (v := (.int .i64 ((i : Int)))) rfl (by kernel_rfl) ?_
    refine wl_pure (wants0 rfl) (d := 5) (v := (.int .i64 ((i : Int)))) rfl (by kernel_rfl) ?_
    refine w_nil ?_
    refine then_normal ?_
    refine w_seq ?_
    refine q_start H7 (by kernel_rfl) (by kernel_rfl) ?_
    refine q_val (wants0 rfl) (d := 11) (v := (.slice la L.length lc)) rfl (fun _ H' => (by kernel_rfl)) ?_
    refine q_val (wants0 rfl) (d := 12) (v := (.int .i64 ((i : Int)))) rfl (fun _ H' => (by kernel_rfl)) ?_
    obtain ⟨g13, o14, c15, e16, R17⟩ := SliceOf.atD hL nm0 (show i < L.length by omega)
    refine q_val (wants0 rfl) (d := 13) (v := (.pointer (some ⟨g13, o14 + ((i : Int)).toNat * 2, none⟩))) rfl (fun _ H' => (e_indexAddrW (E := 35) (by kernel_rfl) (by kernel_rfl) (Nat.le_of_ble_eq_true rfl) rfl e16 rfl (by omega) (by omega))) ?_
    refine q_val (wants0 rfl) (d := 14) (v := (.agg ⟨([(.int .i64 ((L.getD i nm0).cl)), (.int .i64 ((L.getD i nm0).sq))] : List Value)⟩)) rfl (fun _ H' => (e_loadRun (vs := ([(.int .i64 ((L.getD i nm0).cl)), (.int .i64 ((L.getD i nm0).sq))] : List Value)) rfl (by kernel_rfl) (by kernel_rfl) (Nat.le_of_ble_eq_true (by kernel_rfl)) (H'.runR 0 rfl (cells_run R17 0 (by kernel_rfl) (show o14 + ((i : Int)).toNat * 2 = o14 + i * 2 + 0 by omega)) (fun h => h)))) ?_
    refine q_val (wants0 rfl) (d := 15) (v := (.agg ⟨([(.int .i64 (a)), (.int .i64 (b))] : List Value)⟩)) rfl (fun _ H' => (e_loadN (vs := ([(.int .i64 (a)), (.int .i64 (b))] : List Value)) rfl (by kernel_rfl) (by kernel_rfl) (by exact Nat.le_of_ble_eq_true (by kernel_rfl)) (H'.at 1 rfl) (by kernel_rfl))) ?_
    refine q_val (wants0 rfl) (d := 16) (v := (.bool (decide (((L.getD i nm0).cl) = a ∧ ((L.getD i nm0).sq) = b)))) rfl (fun _ H' => (e_eqName ((L.getD i nm0).cl) ((L.getD i nm0).sq) a b rfl rfl)) ?_
    refine q_end ?_
    intro w18 H19
    refine then_normal ?_
    refine (bsplit (decide (((L.getD i nm0).cl) = a ∧ ((L.getD i nm0).sq) = b))).elim (fun b20 => ?_) (fun b20 => ?_)
    · refine wp_know 16 (.bool true) (congrArg Value.bool b20) ?_
      refine wp_ift rfl ?_
      refine w_seq ?_
      refine w_lit ?_
      refine wl_pure (wants0 rfl) (d := 4) (v := (.bool true)) rfl (by kernel_rfl) ?_
      refine w_nil ?_
      refine then_normal ?_
      refine w_ret ?_
      refine blk_ret ?_
      refine then_ret ?_
      refine back_ret ?_
      refine blk_ret ?_
      refine then_ret ?_
      refine end1 rfl (res_tmp (v := (.bool true)) rfl) ?_
      exact ⟨by rw [decide_eq_true (in_yes (show i < L.length by omega) (of_decide_eq_true b20))], H19.upd 0 rfl [] (fun _ h => h.elim)⟩
    · refine wp_know 16 (.bool false) (congrArg Value.bool b20) ?_
      refine wp_iff rfl ?_
      refine w_skip ?_
      refine blk_normal ?_
      refine then_normal ?_
      refine w_lit ?_
      refine wl_pure (wants0 rfl) (d := 17) (v := (.int .i64 ((i : Int) + 1))) rfl (e_int (z := (i : Int) + 1) (by kernel_rfl) (IntWalk.i64_in _ (by omega))) ?_
      refine wl_pure (wants0 rfl) (d := 8) (v := (.int .i64 ((i : Int) + 1))) rfl (by kernel_rfl) ?_
      refine w_nil ?_
      refine round_back ?_ _ ⟨(i + 1), (show ((.int .i64 ((i : Int) + 1)) : Value) = _ by first | rfl | go_num), (by omega), (fun j hj => by rcases Nat.lt_or_ge j i with h | h; exact hno j h; rw [show j = i by omega]; intro e; have q := of_decide_eq_false b20; rw [e] at q; simp at q), H19, rfl⟩ (by omega)
      exact (same_upd rfl (same_upd rfl (same_upd rfl (same_upd rfl (same_upd rfl (same_upd rfl (same_upd rfl (same_upd rfl (same_upd rfl (same_upd rfl (same_upd rfl (same_upd rfl (same_upd rfl (same_upd rfl (same_ovr)))))))))))))))
  · have g21 := of_decide_eq_false b10
    refine wp_know 9 (.bool false) (congrArg Value.bool b10) ?_
    have g22 := of_decide_eq_false b10
    refine wp_iff rfl ?_
    refine w_exit ?_
    refine then_exit ?_
    refine back_exit ?_
    refine blk_hit ?_
    refine then_normal ?_
    refine w_seq ?_
    refine w_lit ?_
    refine wl_pure (wants0 rfl) (d := 4) (v := (.bool false)) rfl (by kernel_rfl) ?_
    refine w_nil ?_
    refine then_normal ?_
    refine w_ret ?_
    refine end1 rfl (res_tmp (v := (.bool false)) rfl) ?_
    exact ⟨by rw [decide_eq_false (in_no (show L.length ≤ i by omega) hno)], H7.upd 0 rfl [] (fun _ h => h.elim)⟩

set_option maxRecDepth 100000 in
set_option maxHeartbeats 400000 in
theorem rLess_any (w : World) (a b c d : Int) :
    Calls Try.prog 30 #[(.agg ⟨([(.int .i64 (a)), (.int .i64 (b))] : List Value)⟩), (.agg ⟨([(.int .i64 (c)), (.int .i64 (d))] : List Value)⟩)] w fun e w' => e = .returned (.bool (decide (a < c) || (decide (a = c) && decide (b < d)))) ∧ Upd [] w w' := by
  have H := Sat.start0 w
  refine calls_fr Try.func30 rfl 24 rfl (Nat.le_of_ble_eq_true rfl) ?_
  refine w_seq ?_
  refine w_lit ?_
  refine wl_do (wants0 rfl) (fun K1 hK1 => ?_)
  refine d_box (vs := ([(.int .i64 (a)), (.int .i64 (b))] : List Value)) rfl H rfl rfl ?_
  intro b2 w3 (H4 : Sat w [restC w (fun _ => False), cellC b2 35 ([(.int .i64 (a)), (.int .i64 (b))] : List Value)] w3)
  refine hK1 _ _ ?_
  clear hK1 K1
  refine wl_do (wants0 rfl) (fun K5 hK5 => ?_)
  refine d_box (vs := ([(.int .i64 (c)), (.int .i64 (d))] : List Value)) rfl H4 rfl rfl ?_
  intro b6 w7 (H8 : Sat w [restC w (fun _ => False), cellC b2 35 ([(.int .i64 (a)), (.int .i64 (b))] : List Value), cellC b6 35 ([(.int .i64 (c)), (.int .i64 (d))] : List Value)] w7)
  refine hK5 _ _ ?_
  clear hK5 K5
  refine wl_pure (wants0 rfl) (d := 4) (v := (.bool false)) rfl (by kernel_rfl) ?_
  refine w_nil ?_
  refine then_normal ?_
  refine w_seq ?_
  refine w_lit ?_
  refine wl_pure (wants0 rfl) (d := 5) (v := (.pointer (some ⟨b2, 0, none⟩))) rfl (by kernel_rfl) ?_
  refine wl_pure (wants0 rfl) (d := 6) (v := (.int .i64 (a))) rfl (e_load1 rfl (by kernel_rfl) (H8.cell 1 rfl rfl)) ?_
  refine wl_pure (wants0 rfl) (d := 7) (v := (.pointer (some ⟨b6, 0, none⟩))) rfl (by kernel_rfl) ?_
  refine wl_pure (wants0 rfl) (d := 8) (v := (.int .i64 (c))) rfl (e_load1 rfl (by kernel_rfl) (H8.cell 2 rfl rfl)) ?_
  refine wl_pure (wants0 rfl) (d := 9) (v := (.bool (decide (a < c)))) rfl (by kernel_rfl) ?_
  refine wl_pure (wants0 rfl) (d := 10) (v := (.bool (decide (a < c)))) rfl (by kernel_rfl) ?_
  refine (bsplit (decide (a < c))).elim (fun b9 => ?_) (fun b9 => ?_)
  · have g10 := of_decide_eq_true b9
    refine wl_know 10 (.bool true) (congrArg Value.bool b9) ?_
    have g11 := of_decide_eq_true b9
    refine wl_pass (wantsN 5 10 false rfl (by kernel_rfl) rfl (by kernel_rfl)) rfl ?_
    refine wl_pass (wantsN 5 10 false rfl (by kernel_rfl) rfl (by kernel_rfl)) rfl ?_
    refine wl_pass (wantsN 5 10 false rfl (by kernel_rfl) rfl (by kernel_rfl)) rfl ?_
    refine wl_pass (wantsN 5 10 false rfl (by kernel_rfl) rfl (by kernel_rfl)) rfl ?_
    refine wl_pass (wantsN 5 10 false rfl (by kernel_rfl) rfl (by kernel_rfl)) rfl ?_
    refine wl_pass (wantsN 5 10 false rfl (by kernel_rfl) rfl (by kernel_rfl)) rfl ?_
    refine wl_pass (wantsU 11 16 true rfl (by kernel_rfl) rfl (by kernel_rfl)) rfl ?_
    refine wl_pass (wantsU 11 16 true rfl (by kernel_rfl) rfl (by kernel_rfl)) rfl ?_
    refine wl_pass (wantsU 11 16 true rfl (by kernel_rfl) rfl (by kernel_rfl)) rfl ?_
    refine wl_pass (wantsU 11 16 true rfl (by kernel_rfl) rfl (by kernel_rfl)) rfl ?_
    refine wl_pass (wantsU 11 16 true rfl (by kernel_rfl) rfl (by kernel_rfl)) rfl ?_
    refine wl_pass (wantsN 5 10 false rfl (by kernel_rfl) rfl (by kernel_rfl)) rfl ?_
    refine wl_pure (wants0 rfl) (d := 23) (v := (.bool true)) rfl (by kernel_rfl) ?_
    refine wl_pure (wants0 rfl) (d := 4) (v := (.bool true)) rfl (by kernel_rfl) ?_
    refine w_nil ?_
    refine then_normal ?_
    refine w_ret ?_
    refine end1 rfl (res_tmp (v := (.bool true)) rfl) ?_
    exact ⟨by simp [b9], H8.upd 0 rfl [] (fun _ h => h.elim)⟩
  · have g12 := of_decide_eq_false b9
    refine wl_know 10 (.bool false) (congrArg Value.bool b9) ?_
    have g13 := of_decide_eq_false b9
    refine wl_pure (wantsY 5 10 false rfl (by kernel_rfl) rfl (by kernel_rfl)) (d := 11) (v := (.pointer (some ⟨b2, 0, none⟩))) rfl (by kernel_rfl) ?_
    refine wl_pure (wantsY 5 10 false rfl (by kernel_rfl) rfl (by kernel_rfl)) (d := 12) (v := (.int .i64 (a))) rfl (e_load1 rfl (by kernel_rfl) (H8.cell 1 rfl rfl)) ?_
    refine wl_pure (wantsY 5 10 false rfl (by kernel_rfl) rfl (by kernel_rfl)) (d := 13) (v := (.pointer (some ⟨b6, 0, none⟩))) rfl (by kernel_rfl) ?_
    refine wl_pure (wantsY 5 10 false rfl (by kernel_rfl) rfl (by kernel_rfl)) (d := 14) (v := (.int .i64 (c))) rfl (e_load1 rfl (by kernel_rfl) (H8.cell 2 rfl rfl)) ?_
    refine wl_pure (wantsY 5 10 false rfl (by kernel_rfl) rfl (by kernel_rfl)) (d := 15) (v := (.bool (decide (a = c)))) rfl (by kernel_rfl) ?_
    refine wl_pure (wantsY 5 10 false rfl (by kernel_rfl) rfl (by kernel_rfl)) (d := 16) (v := (.bool (decide (a = c)))) rfl (by kernel_rfl) ?_
    refine (bsplit (decide (a = c))).elim (fun b14 => ?_) (fun b14 => ?_)
    · have g15 := of_decide_eq_true b14
      refine wl_know 16 (.bool true) (congrArg Value.bool b14) ?_
      have g16 := of_decide_eq_true b14
      refine wl_pure (wantsY 11 16 true rfl (by kernel_rfl) rfl (by kernel_rfl)) (d := 17) (v := (.pointer (some ⟨b2, 1, none⟩))) rfl (by kernel_rfl) ?_
      refine wl_pure (wantsY 11 16 true rfl (by kernel_rfl) rfl (by kernel_rfl)) (d := 18) (v := (.int .i64 (b))) rfl (e_load1 rfl (by kernel_rfl) (H8.cell 1 rfl rfl)) ?_
      refine wl_pure (wantsY 11 16 true rfl (by kernel_rfl) rfl (by kernel_rfl)) (d := 19) (v := (.pointer (some ⟨b6, 1, none⟩))) rfl (by kernel_rfl) ?_
      refine wl_pure (wantsY 11 16 true rfl (by kernel_rfl) rfl (by kernel_rfl)) (d := 20) (v := (.int .i64 (d))) rfl (e_load1 rfl (by kernel_rfl) (H8.cell 2 rfl rfl)) ?_
      refine wl_pure (wantsY 11 16 true rfl (by kernel_rfl) rfl (by kernel_rfl)) (d := 21) (v := (.bool (decide (b < d)))) rfl (by kernel_rfl) ?_
      refine wl_pure (wantsY 5 10 false rfl (by kernel_rfl) rfl (by kernel_rfl)) (d := 22) (v := (.bool (decide (b < d)))) rfl (by kernel_rfl) ?_
      refine wl_pure (wants0 rfl) (d := 23) (v := (.bool (decide (b < d)))) rfl (by kernel_rfl) ?_
      refine wl_pure (wants0 rfl) (d := 4) (v := (.bool (decide (b < d)))) rfl (by kernel_rfl) ?_
      refine w_nil ?_
      refine then_normal ?_
      refine w_ret ?_
      refine end1 rfl (res_tmp (v := (.bool (decide (b < d)))) rfl) ?_
      exact ⟨by simp [b9, b14], H8.upd 0 rfl [] (fun _ h => h.elim)⟩
    · have g17 := of_decide_eq_false b14
      refine wl_know 16 (.bool false) (congrArg Value.bool b14) ?_
      have g18 := of_decide_eq_false b14
      refine wl_pass (wantsN 11 16 true rfl (by kernel_rfl) rfl (by kernel_rfl)) rfl ?_
      refine wl_pass (wantsN 11 16 true rfl (by kernel_rfl) rfl (by kernel_rfl)) rfl ?_
      refine wl_pass (wantsN 11 16 true rfl (by kernel_rfl) rfl (by kernel_rfl)) rfl ?_
      refine wl_pass (wantsN 11 16 true rfl (by kernel_rfl) rfl (by kernel_rfl)) rfl ?_
      refine wl_pass (wantsN 11 16 true rfl (by kernel_rfl) rfl (by kernel_rfl)) rfl ?_
      refine wl_pure (wantsY 5 10 false rfl (by kernel_rfl) rfl (by kernel_rfl)) (d := 22) (v := (.bool false)) rfl (by kernel_rfl) ?_
      refine wl_pure (wants0 rfl) (d := 23) (v := (.bool false)) rfl (by kernel_rfl) ?_
      refine wl_pure (wants0 rfl) (d := 4) (v := (.bool false)) rfl (by kernel_rfl) ?_
      refine w_nil ?_
      refine then_normal ?_
      refine w_ret ?_
      refine end1 rfl (res_tmp (v := (.bool false)) rfl) ?_
      exact ⟨by simp [b9, b14], H8.upd 0 rfl [] (fun _ h => h.elim)⟩

theorem take_eqE {xs ys : List EntD} {i : Nat} (h : xs.take i = ys.take i) (h1 : i < xs.length) (h2 : i < ys.length) (e : xs.getD i ent0 = ys.getD i ent0) : xs.take (i + 1) = ys.take (i + 1) := by
  rw [List.getD_eq_getElem?_getD, List.getElem?_eq_getElem h1, List.getD_eq_getElem?_getD, List.getElem?_eq_getElem h2] at e
  rw [List.take_add_one, List.take_add_one, h, List.getElem?_eq_getElem h1, List.getElem?_eq_getElem h2]
  simp only [Option.getD_some] at e
  rw [e]
set_option maxRecDepth 100000 in
set_option maxHeartbeats 400000 in
theorem sameE_any (w : World) (va : Option Addr) (vc : Nat) (xs : List EntD) (hxs : ListAt encEn 35 w (.slice va xs.length vc) xs) (hx : xs.length ≤ 1000000) (ua : Option Addr) (uc : Nat) (ys : List EntD) (hys : ListAt encEn 35 w (.slice ua ys.length uc) ys) :
    Calls Try.prog 7 #[(.slice va xs.length vc), (.slice ua ys.length uc)] w fun e w' => e = .returned (.bool (decide (xs = ys))) ∧ Upd [] w w' := by
  have H := Sat.start0 w
  refine calls_fr Try.func7 rfl 26 rfl (Nat.le_of_ble_eq_true rfl) ?_
  refine w_seq ?_
  refine w_lit ?_
  refine wl_pure (wants0 rfl) (d := 4) (v := (.bool false)) rfl (by kernel_rfl) ?_
  refine w_nil ?_
  refine then_normal ?_
  refine w_seq ?_
  refine w_seq ?_
  refine w_lit ?_
  refine wl_pure (wants0 rfl) (d := 6) (v := (.slice va xs.length vc)) rfl (by kernel_rfl) ?_
  refine wl_pure (wants0 rfl) (d := 7) (v := (.int .i64 ((xs.length : Int)))) rfl (by kernel_rfl) ?_
  refine wl_pure (wants0 rfl) (d := 8) (v := (.slice ua ys.length uc)) rfl (by kernel_rfl) ?_
  refine wl_pure (wants0 rfl) (d := 9) (v := (.int .i64 ((ys.length : Int)))) rfl (by kernel_rfl) ?_
  refine wl_pure (wants0 rfl) (d := 10) (v := (.bool (!(decide ((xs.length : Int) = (ys.length : Int)))))) rfl (by kernel_rfl) ?_
  refine w_nil ?_
  refine then_normal ?_
  refine (bsplit (!(decide ((xs.length : Int) = (ys.length : Int))))).elim (fun b1 => ?_) (fun b1 => ?_)
  · have g2 := bnot_true b1
    have g3 := of_decide_eq_false g2
    refine wp_know 10 (.bool true) (congrArg Value.bool b1) ?_
    have g4 := bnot_true b1
    have g5 := of_decide_eq_false g4
    refine wp_ift rfl ?_
    refine w_seq ?_
    refine w_lit ?_
    refine wl_pure (wants0 rfl) (d := 4) (v := (.bool false)) rfl (by kernel_rfl) ?_
    refine w_nil ?_
    refine then_normal ?_
    refine w_ret ?_
    refine then_ret ?_
    refine end1 rfl (res_tmp (v := (.bool false)) rfl) ?_
    exact ⟨by rw [decide_eq_false (fun e => by have q := b1; simp [e] at q)], H.upd 0 rfl [] (fun _ h => h.elim)⟩
  · have g6 := bnot_false b1
    have g7 := of_decide_eq_true g6
    refine wp_know 10 (.bool false) (congrArg Value.bool b1) ?_
    have g8 := bnot_false b1
    have g9 := of_decide_eq_true g8
    refine wp_iff rfl ?_
    refine w_skip ?_
    refine then_normal ?_
    refine w_seq ?_
    refine w_seq ?_
    have hlen : xs.length = ys.length := by have q := b1; simp at q; omega
    refine w_lit ?_
    refine wl_pure (wants0 rfl) (d := 5) (v := (.int .i64 (0))) rfl (by kernel_rfl) ?_
    refine w_nil ?_
    refine then_normal ?_
    refine w_block ?_
    refine wp_round [4, 5, 11, 12, 13, 14, 15, 16, 17, 18, 19, 20, 21, 22, 23, 24, 25] (fun F_ W_ m_ => ∃ (i : Nat), F_ 5 = (.int .i64 ((i : Int))) ∧ (i ≤ xs.length) ∧ (xs.take i = ys.take i) ∧ Sat w [restC w (fun _ => False)] W_ ∧ m_ = xs.length + 1 - i) _ ⟨0, (show ((.int .i64 (0)) : Value) = _ by first | rfl | go_num), by omega, by simp, H, rfl⟩ ?_
    rintro g10 w11 _ ⟨i, v13, hi, hse, H12, rfl⟩
    refine wp_know 5 _ v13 ?_
    refine w_seq ?_
    refine w_seq ?_
    refine w_lit ?_
    refine wl_pure (wants0 rfl) (d := 11) (v := (.int .i64 ((i : Int)))) rfl (by kernel_rfl) ?_
    refine wl_pure (wants0 rfl) (d := 12) (v := (.slice va xs.length vc)) rfl (by kernel_rfl) ?_
    refine wl_pure (wants0 rfl) (d := 13) (v := (.int .i64 ((xs.length : Int)))) rfl (by kernel_rfl) ?_
    refine wl_pure (wants0 rfl) (d := 14) (v := (.bool (decide ((i : Int) < (xs.length : Int))))) rfl (by kernel_rfl) ?_
    refine w_nil ?_
    refine then_normal ?_
    refine (bsplit (decide ((i : Int) < (xs.length : Int)))).elim (fun b15 => ?_) (fun b15 => ?_)
    · have g16 := of_decide_eq_true b15
      refine wp_know 14 (.bool true) (congrArg Value.bool b15) ?_
      have g17 := of_decide_eq_true b15
      refine wp_ift rfl ?_
      refine w_skip ?_
      refine then_normal ?_
      refine w_seq ?_
      refine w_block ?_
      refine w_seq ?_
      refine q_start H12 (by kernel_rfl) (by kernel_rfl) ?_
      refine q_val (wants0 rfl) (d := 17) (v := (.slice va xs.length vc)) rfl (fun _ H' => (by kernel_rfl)) ?_
      refine q_val (wants0 rfl) (d := 18) (v := (.int .i64 ((i : Int)))) rfl (fun _ H' => (by kernel_rfl)) ?_
      obtain ⟨g18, o19, c20, e21, R22⟩ := SliceOf.atD hxs ent0 (show i < xs.length by omega)
      refine q_val (wants0 rfl) (d := 19) (v := (.pointer (some ⟨g18, o19 + ((i : Int)).toNat * 35, none⟩))) rfl (fun _ H' => (e_indexAddrW (E := 50) (by kernel_rfl) (by kernel_rfl) (Nat.le_of_ble_eq_true rfl) rfl e21 rfl (by omega) (by omega))) ?_
      refine q_val (wants0 rfl) (d := 20) (v := (.agg ⟨(([(.int .i64 ((xs.getD i ent0).cl)), (.int .i64 ((xs.getD i ent0).sq))] : List Value) ++ hc (xs.getD i ent0).h ++ ([(.int .u64 ((xs.getD i ent0).t))] : List Value))⟩)) rfl (fun _ H' => (e_loadRun (vs := (([(.int .i64 ((xs.getD i ent0).cl)), (.int .i64 ((xs.getD i ent0).sq))] : List Value) ++ hc (xs.getD i ent0).h ++ ([(.int .u64 ((xs.getD i ent0).t))] : List Value))) rfl (by kernel_rfl) (by kernel_rfl) (Nat.le_of_ble_eq_true (by kernel_rfl)) (H'.runR 0 rfl (cells_run R22 0 (by kernel_rfl) (show o19 + ((i : Int)).toNat * 35 = o19 + i * 35 + 0 by omega)) (fun h => h)))) ?_
      refine q_val (wants0 rfl) (d := 21) (v := (.slice ua ys.length uc)) rfl (fun _ H' => (by kernel_rfl)) ?_
      refine q_val (wants0 rfl) (d := 22) (v := (.int .i64 ((i : Int)))) rfl (fun _ H' => (by kernel_rfl)) ?_
      obtain ⟨g23, o24, c25, e26, R27⟩ := SliceOf.atD hys ent0 (show i < ys.length by omega)
      refine q_val (wants0 rfl) (d := 23) (v := (.pointer (some ⟨g23, o24 + ((i : Int)).toNat * 35, none⟩))) rfl (fun _ H' => (e_indexAddrW (E := 50) (by kernel_rfl) (by kernel_rfl) (Nat.le_of_ble_eq_true rfl) rfl e26 rfl (by omega) (by omega))) ?_
      refine q_val (wants0 rfl) (d := 24) (v := (.agg ⟨(([(.int .i64 ((ys.getD i ent0).cl)), (.int .i64 ((ys.getD i ent0).sq))] : List Value) ++ hc (ys.getD i ent0).h ++ ([(.int .u64 ((ys.getD i ent0).t))] : List Value))⟩)) rfl (fun _ H' => (e_loadRun (vs := (([(.int .i64 ((ys.getD i ent0).cl)), (.int .i64 ((ys.getD i ent0).sq))] : List Value) ++ hc (ys.getD i ent0).h ++ ([(.int .u64 ((ys.getD i ent0).t))] : List Value))) rfl (by kernel_rfl) (by kernel_rfl) (Nat.le_of_ble_eq_true (by kernel_rfl)) (H'.runR 0 rfl (cells_run R27 0 (by kernel_rfl) (show o24 + ((i : Int)).toNat * 35 = o24 + i * 35 + 0 by omega)) (fun h => h)))) ?_
      refine q_val (wants0 rfl) (d := 25) (v := (.bool (!(decide ((xs.getD i ent0) = (ys.getD i ent0)))))) rfl (fun _ H' => (entF.e_ne (xs.getD i ent0) (ys.getD i ent0) rfl rfl)) ?_
      refine q_end ?_
      intro w28 H29
      refine then_normal ?_
      refine (bsplit (!(decide ((xs.getD i ent0) = (ys.getD i ent0))))).elim (fun b30 => ?_) (fun b30 => ?_)
      · have g31 := bnot_true b30
        have g32 := of_decide_eq_false g31
        refine wp_know 25 (.bool true) (congrArg Value.bool b30) ?_
        have g33 := bnot_true b30
        have g34 := of_decide_eq_false g33
        refine wp_ift rfl ?_
        refine w_seq ?_
        refine w_lit ?_
        refine wl_pure (wants0 rfl) (d := 4) (v := (.bool false)) rfl (by kernel_rfl) ?_
        refine w_nil ?_
        refine then_normal ?_
        refine w_ret ?_
        refine blk_ret ?_
        refine then_ret ?_
        refine back_ret ?_
        refine blk_ret ?_
        refine then_ret ?_
        refine end1 rfl (res_tmp (v := (.bool false)) rfl) ?_
        exact ⟨by rw [decide_eq_false (fun e => by rw [e] at b30; simp at b30)], H29.upd 0 rfl [] (fun _ h => h.elim)⟩
      · have g35 := bnot_false b30
        have g36 := of_decide_eq_true g35
        refine wp_know 25 (.bool false) (congrArg Value.bool b30) ?_
        have g37 := bnot_false b30
        have g38 := of_decide_eq_true g37
        refine wp_iff rfl ?_
        refine w_skip ?_
        refine blk_normal ?_
        refine then_normal ?_
        refine w_lit ?_
        refine wl_pure (wants0 rfl) (d := 15) (v := (.int .i64 ((i : Int)))) rfl (by kernel_rfl) ?_
        refine wl_pure (wants0 rfl) (d := 16) (v := (.int .i64 ((i : Int) + 1))) rfl (e_int (z := (i : Int) + 1) (by kernel_rfl) (IntWalk.i64_in _ (by omega))) ?_
        refine wl_pure (wants0 rfl) (d := 5) (v := (.int .i64 ((i : Int) + 1))) rfl (by kernel_rfl) ?_
        refine w_nil ?_
        refine round_back ?_ _ ⟨(i + 1), (show ((.int .i64 ((i : Int) + 1)) : Value) = _ by first | rfl | go_num), by omega, take_eqE hse (by omega) (by omega) (by simpa using b30), H29, rfl⟩ (by omega)
        exact (same_upd rfl (same_upd rfl (same_upd rfl (same_upd rfl (same_upd rfl (same_upd rfl (same_upd rfl (same_upd rfl (same_upd rfl (same_upd rfl (same_upd rfl (same_upd rfl (same_upd rfl (same_upd rfl (same_upd rfl (same_upd rfl (same_upd rfl (same_upd rfl (same_upd rfl (same_ovr))))))))))))))))))))
    · have g39 := of_decide_eq_false b15
      refine wp_know 14 (.bool false) (congrArg Value.bool b15) ?_
      have g40 := of_decide_eq_false b15
      refine wp_iff rfl ?_
      refine w_exit ?_
      refine then_exit ?_
      refine back_exit ?_
      refine blk_hit ?_
      refine then_normal ?_
      refine w_seq ?_
      refine w_lit ?_
      refine wl_pure (wants0 rfl) (d := 4) (v := (.bool true)) rfl (by kernel_rfl) ?_
      refine w_nil ?_
      refine then_normal ?_
      refine w_ret ?_
      refine end1 rfl (res_tmp (v := (.bool true)) rfl) ?_
      exact ⟨by rw [decide_eq_true (show xs = ys by rw [← List.take_of_length_le (show xs.length ≤ i by omega), hse, List.take_of_length_le (by omega)])], H12.upd 0 rfl [] (fun _ h => h.elim)⟩

end Go.Proofs.Ytenihpghfdcpkaa
