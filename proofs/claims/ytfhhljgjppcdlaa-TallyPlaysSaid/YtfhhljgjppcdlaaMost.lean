/- WHAT IS PROVED: the contracts of asking for the most votes's functions. Conditions: stated with each. -/
import Derived.Test.YtfhhljgjppcdlaaMostDefs
namespace Go.Proofs.Ytfhhljgjppcdlaa
open Go.RowKit

set_option maxRecDepth 100000 in
set_option maxHeartbeats 400000 in
theorem bytesCompare_any (w : World) (b1 b2 : Nat) (T1 T2 : TypeId) (x y : Hash) (h1 : w.heap[b1]? = some (.cells ⟨hc x⟩ T1 (0, 0))) (h2 : w.heap[b2]? = some (.cells ⟨hc y⟩ T2 (0, 0))) :
    Calls Try.prog 35 #[(.slice (some ⟨b1, 0, none⟩) 32 32), (.slice (some ⟨b2, 0, none⟩) 32 32)] w fun e w' => e = .returned (.int .i64 (Extern.BytealgCompare.cmp ⟨x.l.toArray⟩ ⟨y.l.toArray⟩)) ∧ Upd [] w w' := by
  have H := Sat.start0 w
  refine calls_fr Try.func35 rfl 8 rfl (Nat.le_of_ble_eq_true rfl) ?_
  refine w_seq ?_
  refine w_lit ?_
  refine wl_pure (wants0 rfl) (d := 4) (v := (.int .i64 (0))) rfl (by kernel_rfl) ?_
  refine w_nil ?_
  refine then_normal ?_
  refine w_seq ?_
  refine w_lit ?_
  refine wl_pure (wants0 rfl) (d := 5) (v := (.slice (some ⟨b1, 0, none⟩) 32 32)) rfl (by kernel_rfl) ?_
  refine wl_pure (wants0 rfl) (d := 6) (v := (.slice (some ⟨b2, 0, none⟩) 32 32)) rfl (by kernel_rfl) ?_
  refine wl_pure (wants0 rfl) (d := 7) (v := (.int .i64 (Extern.BytealgCompare.cmp ⟨x.l.toArray⟩ ⟨y.l.toArray⟩))) rfl (e_extern (by kernel_rfl) (ext_compare x y (H.roCells 0 rfl h1 (fun h => h)) (H.roCells 0 rfl h2 (fun h => h)))) ?_
  refine wl_pure (wants0 rfl) (d := 4) (v := (.int .i64 (Extern.BytealgCompare.cmp ⟨x.l.toArray⟩ ⟨y.l.toArray⟩))) rfl (by kernel_rfl) ?_
  refine w_nil ?_
  refine then_normal ?_
  refine w_ret ?_
  refine end1 rfl (res_tmp (v := (.int .i64 (Extern.BytealgCompare.cmp ⟨x.l.toArray⟩ ⟨y.l.toArray⟩))) rfl) ?_
  exact ⟨rfl, H.upd 0 rfl [] (fun _ h => h.elim)⟩

set_option maxRecDepth 100000 in
set_option maxHeartbeats 400000 in
theorem shaLess_any (w : World) (x y : Hash) :
    Calls Try.prog 24 #[(.agg ⟨(hc x)⟩), (.agg ⟨(hc y)⟩)] w fun e w' => e = .returned (.bool (lessB x y)) ∧ Upd [] w w' := by
  have H := Sat.start0 w
  refine calls_fr Try.func24 rfl 9 rfl (Nat.le_of_ble_eq_true rfl) ?_
  refine w_seq ?_
  refine w_lit ?_
  refine wl_do (wants0 rfl) (fun K1 hK1 => ?_)
  refine d_box (vs := (hc x)) rfl H rfl rfl ?_
  intro b2 w3 (H4 : Sat w [restC w (fun _ => False), cellC b2 24 (hc x)] w3)
  refine hK1 _ _ ?_
  clear hK1 K1
  refine wl_do (wants0 rfl) (fun K5 hK5 => ?_)
  refine d_box (vs := (hc y)) rfl H4 rfl rfl ?_
  intro b6 w7 (H8 : Sat w [restC w (fun _ => False), cellC b2 24 (hc x), cellC b6 24 (hc y)] w7)
  refine hK5 _ _ ?_
  clear hK5 K5
  refine wl_pure (wants0 rfl) (d := 4) (v := (.bool false)) rfl (by kernel_rfl) ?_
  refine w_nil ?_
  refine then_normal ?_
  refine w_seq ?_
  refine q_start H8 (by kernel_rfl) (by kernel_rfl) ?_
  refine q_val (wants0 rfl) (d := 5) (v := (.slice (some ⟨b2, 0, none⟩) 32 32)) rfl (fun _ H' => (by kernel_rfl)) ?_
  refine q_val (wants0 rfl) (d := 6) (v := (.slice (some ⟨b6, 0, none⟩) 32 32)) rfl (fun _ H' => (by kernel_rfl)) ?_
  refine q_call (wants0 rfl) (d := 7) (v := (.int .i64 (Extern.BytealgCompare.cmp ⟨x.l.toArray⟩ ⟨y.l.toArray⟩))) rfl (fun _ _ => by kernel_rfl) (fun w' H' => (bytesCompare_any w' b2 b6 _ _ x y (H'.at 1 rfl) (H'.at 2 rfl)).mono fun _ _ h => ⟨h.1, H'.keepU h.2⟩) ?_
  refine q_val (wants0 rfl) (d := 8) (v := (.bool (decide ((Extern.BytealgCompare.cmp ⟨x.l.toArray⟩ ⟨y.l.toArray⟩) < 0)))) rfl (fun _ H' => (by kernel_rfl)) ?_
  refine q_val (wants0 rfl) (d := 4) (v := (.bool (decide ((Extern.BytealgCompare.cmp ⟨x.l.toArray⟩ ⟨y.l.toArray⟩) < 0)))) rfl (fun _ H' => (by kernel_rfl)) ?_
  refine q_end ?_
  intro w9 H10
  refine then_normal ?_
  refine w_ret ?_
  refine end1 rfl (res_tmp (v := (.bool (decide ((Extern.BytealgCompare.cmp ⟨x.l.toArray⟩ ⟨y.l.toArray⟩) < 0)))) rfl) ?_
  exact ⟨rfl, H10.upd 0 rfl [] (fun _ h => h.elim)⟩

set_option maxRecDepth 100000 in
set_option maxHeartbeats 400000 in
theorem tallyMost_any (w : World) (t hb cb ab lb : Nat) (T : TallyS) (hT : (tallyC t hb cb ab lb T).ok w) (kind round : Int) :
    Calls Try.prog 17 #[(.pointer (some ⟨t, 0, none⟩)), (.int .i64 (kind)), (.int .i64 (round))] w fun e w' => ∃ h n l, T.count.Perm l ∧ mostF kind round l = (h, n) ∧ e = .returned (.tuple #[.agg ⟨hc h⟩, .int .i64 n]) ∧ Upd [] w w' := by
  obtain ⟨hcell, hm1, hm2, hm3, hm4⟩ := tallyC_parts hT
  have H := Sat.start0 w
  refine calls_fr Try.func17 rfl 53 rfl (Nat.le_of_ble_eq_true rfl) ?_
  refine w_seq ?_
  refine w_lit ?_
  refine wl_do (wants0 rfl) (fun K1 hK1 => ?_)
  refine d_alloc (zs := [(.int .u8 (0)), (.int .u8 (0)), (.int .u8 (0)), (.int .u8 (0)), (.int .u8 (0)), (.int .u8 (0)), (.int .u8 (0)), (.int .u8 (0)), (.int .u8 (0)), (.int .u8 (0)), (.int .u8 (0)), (.int .u8 (0)), (.int .u8 (0)), (.int .u8 (0)), (.int .u8 (0)), (.int .u8 (0)), (.int .u8 (0)), (.int .u8 (0)), (.int .u8 (0)), (.int .u8 (0)), (.int .u8 (0)), (.int .u8 (0)), (.int .u8 (0)), (.int .u8 (0)), (.int .u8 (0)), (.int .u8 (0)), (.int .u8 (0)), (.int .u8 (0)), (.int .u8 (0)), (.int .u8 (0)), (.int .u8 (0)), (.int .u8 (0))]) (z := (.agg ⟨[(.int .u8 (0)), (.int .u8 (0)), (.int .u8 (0)), (.int .u8 (0)), (.int .u8 (0)), (.int .u8 (0)), (.int .u8 (0)), (.int .u8 (0)), (.int .u8 (0)), (.int .u8 (0)), (.int .u8 (0)), (.int .u8 (0)), (.int .u8 (0)), (.int .u8 (0)), (.int .u8 (0)), (.int .u8 (0)), (.int .u8 (0)), (.int .u8 (0)), (.int .u8 (0)), (.int .u8 (0)), (.int .u8 (0)), (.int .u8 (0)), (.int .u8 (0)), (.int .u8 (0)), (.int .u8 (0)), (.int .u8 (0)), (.int .u8 (0)), (.int .u8 (0)), (.int .u8 (0)), (.int .u8 (0)), (.int .u8 (0)), (.int .u8 (0))]⟩)) rfl H (by kernel_rfl) rfl ?_
  intro b2 w3 (H4 : Sat w [restC w (fun _ => False), cellC b2 24 [(.int .u8 (0)), (.int .u8 (0)), (.int .u8 (0)), (.int .u8 (0)), (.int .u8 (0)), (.int .u8 (0)), (.int .u8 (0)), (.int .u8 (0)), (.int .u8 (0)), (.int .u8 (0)), (.int .u8 (0)), (.int .u8 (0)), (.int .u8 (0)), (.int .u8 (0)), (.int .u8 (0)), (.int .u8 (0)), (.int .u8 (0)), (.int .u8 (0)), (.int .u8 (0)), (.int .u8 (0)), (.int .u8 (0)), (.int .u8 (0)), (.int .u8 (0)), (.int .u8 (0)), (.int .u8 (0)), (.int .u8 (0)), (.int .u8 (0)), (.int .u8 (0)), (.int .u8 (0)), (.int .u8 (0)), (.int .u8 (0)), (.int .u8 (0))]] w3)
  refine hK1 _ _ ?_
  clear hK1 K1
  refine wl_pure (wants0 rfl) (d := 7) (v := (.int .i64 (0))) rfl (by kernel_rfl) ?_
  refine w_nil ?_
  refine then_normal ?_
  refine w_seq ?_
  refine w_lit ?_
  refine wl_do (wants0 rfl) (fun K5 hK5 => ?_)
  refine d_alloc (zs := [(.int .u8 (0)), (.int .u8 (0)), (.int .u8 (0)), (.int .u8 (0)), (.int .u8 (0)), (.int .u8 (0)), (.int .u8 (0)), (.int .u8 (0)), (.int .u8 (0)), (.int .u8 (0)), (.int .u8 (0)), (.int .u8 (0)), (.int .u8 (0)), (.int .u8 (0)), (.int .u8 (0)), (.int .u8 (0)), (.int .u8 (0)), (.int .u8 (0)), (.int .u8 (0)), (.int .u8 (0)), (.int .u8 (0)), (.int .u8 (0)), (.int .u8 (0)), (.int .u8 (0)), (.int .u8 (0)), (.int .u8 (0)), (.int .u8 (0)), (.int .u8 (0)), (.int .u8 (0)), (.int .u8 (0)), (.int .u8 (0)), (.int .u8 (0))]) (z := (.agg ⟨[(.int .u8 (0)), (.int .u8 (0)), (.int .u8 (0)), (.int .u8 (0)), (.int .u8 (0)), (.int .u8 (0)), (.int .u8 (0)), (.int .u8 (0)), (.int .u8 (0)), (.int .u8 (0)), (.int .u8 (0)), (.int .u8 (0)), (.int .u8 (0)), (.int .u8 (0)), (.int .u8 (0)), (.int .u8 (0)), (.int .u8 (0)), (.int .u8 (0)), (.int .u8 (0)), (.int .u8 (0)), (.int .u8 (0)), (.int .u8 (0)), (.int .u8 (0)), (.int .u8 (0)), (.int .u8 (0)), (.int .u8 (0)), (.int .u8 (0)), (.int .u8 (0)), (.int .u8 (0)), (.int .u8 (0)), (.int .u8 (0)), (.int .u8 (0))]⟩)) rfl H4 (by kernel_rfl) rfl ?_
  intro b6 w7 (H8 : Sat w [restC w (fun _ => False), cellC b2 24 [(.int .u8 (0)), (.int .u8 (0)), (.int .u8 (0)), (.int .u8 (0)), (.int .u8 (0)), (.int .u8 (0)), (.int .u8 (0)), (.int .u8 (0)), (.int .u8 (0)), (.int .u8 (0)), (.int .u8 (0)), (.int .u8 (0)), (.int .u8 (0)), (.int .u8 (0)), (.int .u8 (0)), (.int .u8 (0)), (.int .u8 (0)), (.int .u8 (0)), (.int .u8 (0)), (.int .u8 (0)), (.int .u8 (0)), (.int .u8 (0)), (.int .u8 (0)), (.int .u8 (0)), (.int .u8 (0)), (.int .u8 (0)), (.int .u8 (0)), (.int .u8 (0)), (.int .u8 (0)), (.int .u8 (0)), (.int .u8 (0)), (.int .u8 (0))], cellC b6 24 [(.int .u8 (0)), (.int .u8 (0)), (.int .u8 (0)), (.int .u8 (0)), (.int .u8 (0)), (.int .u8 (0)), (.int .u8 (0)), (.int .u8 (0)), (.int .u8 (0)), (.int .u8 (0)), (.int .u8 (0)), (.int .u8 (0)), (.int .u8 (0)), (.int .u8 (0)), (.int .u8 (0)), (.int .u8 (0)), (.int .u8 (0)), (.int .u8 (0)), (.int .u8 (0)), (.int .u8 (0)), (.int .u8 (0)), (.int .u8 (0)), (.int .u8 (0)), (.int .u8 (0)), (.int .u8 (0)), (.int .u8 (0)), (.int .u8 (0)), (.int .u8 (0)), (.int .u8 (0)), (.int .u8 (0)), (.int .u8 (0)), (.int .u8 (0))]] w7)
  refine hK5 _ _ ?_
  clear hK5 K5
  refine w_nil ?_
  refine then_normal ?_
  refine w_seq ?_
  refine w_lit ?_
  refine wl_pure (wants0 rfl) (d := 9) (v := (.int .i64 (0))) rfl (by kernel_rfl) ?_
  refine w_nil ?_
  refine then_normal ?_
  refine w_seq ?_
  refine w_seq ?_
  refine w_lit ?_
  refine wl_pure (wants0 rfl) (d := 12) (v := (.pointer (some ⟨t, 0, none⟩))) rfl (by kernel_rfl) ?_
  refine wl_pure (wants0 rfl) (d := 13) (v := (.pointer (some ⟨t, 0, none⟩))) rfl (by kernel_rfl) ?_
  refine wl_pure (wants0 rfl) (d := 14) (v := (.pointer (some ⟨t, 3, none⟩))) rfl (by kernel_rfl) ?_
  refine wl_pure (wants0 rfl) (d := 15) (v := (.map (some cb))) rfl (e_load1 rfl (by kernel_rfl) (H8.roCell 0 rfl hcell (fun h => h) rfl)) ?_
  refine wl_do (wants0 rfl) (fun K9 hK9 => ?_)
  refine d_rangeR (kt := 65) (et := 3) rfl H8 0 rfl hm2 (fun h => h) (by kernel_rfl) rfl ?_
  intro r10 w11 (H12 : Sat w [restC w (fun _ => False), cellC b2 24 [(.int .u8 (0)), (.int .u8 (0)), (.int .u8 (0)), (.int .u8 (0)), (.int .u8 (0)), (.int .u8 (0)), (.int .u8 (0)), (.int .u8 (0)), (.int .u8 (0)), (.int .u8 (0)), (.int .u8 (0)), (.int .u8 (0)), (.int .u8 (0)), (.int .u8 (0)), (.int .u8 (0)), (.int .u8 (0)), (.int .u8 (0)), (.int .u8 (0)), (.int .u8 (0)), (.int .u8 (0)), (.int .u8 (0)), (.int .u8 (0)), (.int .u8 (0)), (.int .u8 (0)), (.int .u8 (0)), (.int .u8 (0)), (.int .u8 (0)), (.int .u8 (0)), (.int .u8 (0)), (.int .u8 (0)), (.int .u8 (0)), (.int .u8 (0))], cellC b6 24 [(.int .u8 (0)), (.int .u8 (0)), (.int .u8 (0)), (.int .u8 (0)), (.int .u8 (0)), (.int .u8 (0)), (.int .u8 (0)), (.int .u8 (0)), (.int .u8 (0)), (.int .u8 (0)), (.int .u8 (0)), (.int .u8 (0)), (.int .u8 (0)), (.int .u8 (0)), (.int .u8 (0)), (.int .u8 (0)), (.int .u8 (0)), (.int .u8 (0)), (.int .u8 (0)), (.int .u8 (0)), (.int .u8 (0)), (.int .u8 (0)), (.int .u8 (0)), (.int .u8 (0)), (.int .u8 (0)), (.int .u8 (0)), (.int .u8 (0)), (.int .u8 (0)), (.int .u8 (0)), (.int .u8 (0)), (.int .u8 (0)), (.int .u8 (0))], iterR w r10 cb choiceV (Value.int .i64) T.count []] w11)
  refine hK9 _ _ ?_
  clear hK9 K9
  refine w_nil ?_
  refine then_normal ?_
  refine w_block ?_
  refine wp_round [9, 10, 11, 17, 18, 19, 20, 21, 22, 23, 24, 25, 26, 27, 28, 29, 30, 31, 32, 33, 34, 35, 36, 37, 38, 39, 40, 41, 42, 43, 44, 45, 46, 47, 48, 49, 50] (fun F_ W_ m_ => ∃ (seen rest : List (Choice × Int)) (best : Hash) (most : Int), F_ 9 = (.int .i64 (most)) ∧ (T.count.Perm (seen ++ rest)) ∧ (mostF kind round seen = (best, most)) ∧ Sat w [restC w (fun _ => False), cellC b2 24 [(.int .u8 (0)), (.int .u8 (0)), (.int .u8 (0)), (.int .u8 (0)), (.int .u8 (0)), (.int .u8 (0)), (.int .u8 (0)), (.int .u8 (0)), (.int .u8 (0)), (.int .u8 (0)), (.int .u8 (0)), (.int .u8 (0)), (.int .u8 (0)), (.int .u8 (0)), (.int .u8 (0)), (.int .u8 (0)), (.int .u8 (0)), (.int .u8 (0)), (.int .u8 (0)), (.int .u8 (0)), (.int .u8 (0)), (.int .u8 (0)), (.int .u8 (0)), (.int .u8 (0)), (.int .u8 (0)), (.int .u8 (0)), (.int .u8 (0)), (.int .u8 (0)), (.int .u8 (0)), (.int .u8 (0)), (.int .u8 (0)), (.int .u8 (0))], cellC b6 24 (hc best), iterR w r10 cb choiceV (Value.int .i64) T.count seen] W_ ∧ m_ = rest.length) _ ⟨[], T.count, hash0, 0, (by first | rfl | go_num), (List.Perm.refl _), rfl, H12, rfl⟩ ?_
  rintro g13 w14 _ ⟨seen, rest, best, most, v16, hperm, hfold, H15, rfl⟩
  refine wp_know 9 _ v16 ?_
  refine w_seq ?_
  refine w_lit ?_
  refine wl_do (wants0 rfl) (fun K18 hK18 => ?_)
  refine d_nextR rfl H15 3 rfl 0 rfl (fun h => h) rfl ?_ ?_
  · intro p19
    refine hK18 _ _ ?_
    clear hK18 K18
    refine wl_pure (wants0 rfl) (d := 18) (v := (.bool false)) rfl (by kernel_rfl) ?_
    refine w_nil ?_
    refine then_normal ?_
    refine w_seq ?_
    refine wp_iff rfl ?_
    refine w_exit ?_
    refine then_exit ?_
    refine back_exit ?_
    refine blk_hit ?_
    refine then_normal ?_
    refine w_seq ?_
    refine w_lit ?_
    refine wl_pure (wants0 rfl) (d := 51) (v := (.agg ⟨(hc best)⟩)) rfl (e_loadN (vs := (hc best)) rfl (by kernel_rfl) (by kernel_rfl) (by exact Nat.le_of_ble_eq_true (by kernel_rfl)) (H15.at 2 rfl) (by kernel_rfl)) ?_
    refine wl_pure (wants0 rfl) (d := 52) (v := (.int .i64 (most))) rfl (by kernel_rfl) ?_
    refine wl_do (wants0 rfl) (fun K20 hK20 => ?_)
    refine d_store (vs := (hc best)) rfl H15 1 rfl rfl rfl rfl (by kernel_rfl) (Nat.le_of_ble_eq_true (by kernel_rfl)) (Nat.le_of_ble_eq_true (by kernel_rfl)) (by kernel_rfl) ?_
    intro w21 (H22 : Sat w [restC w (fun _ => False), cellC b2 24 (hc best), cellC b6 24 (hc best), iterR w r10 cb choiceV (Value.int .i64) T.count seen] w21)
    refine hK20 _ _ ?_
    clear hK20 K20
    refine wl_pure (wants0 rfl) (d := 7) (v := (.int .i64 (most))) rfl (by kernel_rfl) ?_
    refine w_nil ?_
    refine then_normal ?_
    refine w_ret ?_
    refine end2 rfl (res_cellN (vs := (hc best)) rfl (by kernel_rfl) (by kernel_rfl) (by exact Nat.le_of_ble_eq_true (by kernel_rfl)) (H22.at 1 rfl) (by kernel_rfl)) (res_tmp (v := (.int .i64 (most))) rfl) ?_
    exact ⟨best, most, seen, p19, hfold, rfl, H22.upd 0 rfl [] (fun _ h => h.elim)⟩
  · intro y24 t25 w26 p27 (H28 : Sat w [restC w (fun _ => False), cellC b2 24 [(.int .u8 (0)), (.int .u8 (0)), (.int .u8 (0)), (.int .u8 (0)), (.int .u8 (0)), (.int .u8 (0)), (.int .u8 (0)), (.int .u8 (0)), (.int .u8 (0)), (.int .u8 (0)), (.int .u8 (0)), (.int .u8 (0)), (.int .u8 (0)), (.int .u8 (0)), (.int .u8 (0)), (.int .u8 (0)), (.int .u8 (0)), (.int .u8 (0)), (.int .u8 (0)), (.int .u8 (0)), (.int .u8 (0)), (.int .u8 (0)), (.int .u8 (0)), (.int .u8 (0)), (.int .u8 (0)), (.int .u8 (0)), (.int .u8 (0)), (.int .u8 (0)), (.int .u8 (0)), (.int .u8 (0)), (.int .u8 (0)), (.int .u8 (0))], cellC b6 24 (hc best), iterR w r10 cb choiceV (Value.int .i64) T.count (seen ++ [y24])] w26)
    refine hK18 _ _ ?_
    clear hK18 K18
    refine wl_pure (wants0 rfl) (d := 18) (v := (.bool true)) rfl (by kernel_rfl) ?_
    refine w_nil ?_
    refine then_normal ?_
    refine w_seq ?_
    refine wp_ift rfl ?_
    refine w_skip ?_
    refine then_normal ?_
    refine w_block ?_
    refine w_seq ?_
    refine w_lit ?_
    refine wl_pure (wants0 rfl) (d := 19) (v := (.tuple #[(.agg ⟨([(.int .i64 (y24.1.kind)), (.int .i64 (y24.1.round))] ++ hc y24.1.h)⟩), (.int .i64 (y24.2))])) rfl (H28.entryR 3 rfl 0 rfl (fun h => h) rfl) ?_
    refine wl_pure (wants0 rfl) (d := 20) (v := (.agg ⟨([(.int .i64 (y24.1.kind)), (.int .i64 (y24.1.round))] ++ hc y24.1.h)⟩)) rfl (by kernel_rfl) ?_
    refine wl_pure (wants0 rfl) (d := 21) (v := (.int .i64 (y24.2))) rfl (by kernel_rfl) ?_
    refine wl_do (wants0 rfl) (fun K29 hK29 => ?_)
    refine d_alloc (zs := [(.int .i64 (0)), (.int .i64 (0)), (.int .u8 (0)), (.int .u8 (0)), (.int .u8 (0)), (.int .u8 (0)), (.int .u8 (0)), (.int .u8 (0)), (.int .u8 (0)), (.int .u8 (0)), (.int .u8 (0)), (.int .u8 (0)), (.int .u8 (0)), (.int .u8 (0)), (.int .u8 (0)), (.int .u8 (0)), (.int .u8 (0)), (.int .u8 (0)), (.int .u8 (0)), (.int .u8 (0)), (.int .u8 (0)), (.int .u8 (0)), (.int .u8 (0)), (.int .u8 (0)), (.int .u8 (0)), (.int .u8 (0)), (.int .u8 (0)), (.int .u8 (0)), (.int .u8 (0)), (.int .u8 (0)), (.int .u8 (0)), (.int .u8 (0)), (.int .u8 (0)), (.int .u8 (0))]) (z := (.agg ⟨[(.int .i64 (0)), (.int .i64 (0)), (.int .u8 (0)), (.int .u8 (0)), (.int .u8 (0)), (.int .u8 (0)), (.int .u8 (0)), (.int .u8 (0)), (.int .u8 (0)), (.int .u8 (0)), (.int .u8 (0)), (.int .u8 (0)), (.int .u8 (0)), (.int .u8 (0)), (.int .u8 (0)), (.int .u8 (0)), (.int .u8 (0)), (.int .u8 (0)), (.int .u8 (0)), (.int .u8 (0)), (.int .u8 (0)), (.int .u8 (0)), (.int .u8 (0)), (.int .u8 (0)), (.int .u8 (0)), (.int .u8 (0)), (.int .u8 (0)), (.int .u8 (0)), (.int .u8 (0)), (.int .u8 (0)), (.int .u8 (0)), (.int .u8 (0)), (.int .u8 (0)), (.int .u8 (0))]⟩)) rfl H28 (by kernel_rfl) rfl ?_
    intro b30 w31 (H32 : Sat w [restC w (fun _ => False), cellC b2 24 [(.int .u8 (0)), (.int .u8 (0)), (.int .u8 (0)), (.int .u8 (0)), (.int .u8 (0)), (.int .u8 (0)), (.int .u8 (0)), (.int .u8 (0)), (.int .u8 (0)), (.int .u8 (0)), (.int .u8 (0)), (.int .u8 (0)), (.int .u8 (0)), (.int .u8 (0)), (.int .u8 (0)), (.int .u8 (0)), (.int .u8 (0)), (.int .u8 (0)), (.int .u8 (0)), (.int .u8 (0)), (.int .u8 (0)), (.int .u8 (0)), (.int .u8 (0)), (.int .u8 (0)), (.int .u8 (0)), (.int .u8 (0)), (.int .u8 (0)), (.int .u8 (0)), (.int .u8 (0)), (.int .u8 (0)), (.int .u8 (0)), (.int .u8 (0))], cellC b6 24 (hc best), iterR w r10 cb choiceV (Value.int .i64) T.count (seen ++ [y24]), cellC b30 65 [(.int .i64 (0)), (.int .i64 (0)), (.int .u8 (0)), (.int .u8 (0)), (.int .u8 (0)), (.int .u8 (0)), (.int .u8 (0)), (.int .u8 (0)), (.int .u8 (0)), (.int .u8 (0)), (.int .u8 (0)), (.int .u8 (0)), (.int .u8 (0)), (.int .u8 (0)), (.int .u8 (0)), (.int .u8 (0)), (.int .u8 (0)), (.int .u8 (0)), (.int .u8 (0)), (.int .u8 (0)), (.int .u8 (0)), (.int .u8 (0)), (.int .u8 (0)), (.int .u8 (0)), (.int .u8 (0)), (.int .u8 (0)), (.int .u8 (0)), (.int .u8 (0)), (.int .u8 (0)), (.int .u8 (0)), (.int .u8 (0)), (.int .u8 (0)), (.int .u8 (0)), (.int .u8 (0))]] w31)
    refine hK29 _ _ ?_
    clear hK29 K29
    refine wl_do (wants0 rfl) (fun K33 hK33 => ?_)
    refine d_store (vs := ([(.int .i64 (y24.1.kind)), (.int .i64 (y24.1.round))] ++ hc y24.1.h)) rfl H32 4 rfl rfl rfl rfl (by kernel_rfl) (Nat.le_of_ble_eq_true (by kernel_rfl)) (Nat.le_of_ble_eq_true (by kernel_rfl)) (by kernel_rfl) ?_
    intro w34 (H35 : Sat w [restC w (fun _ => False), cellC b2 24 [(.int .u8 (0)), (.int .u8 (0)), (.int .u8 (0)), (.int .u8 (0)), (.int .u8 (0)), (.int .u8 (0)), (.int .u8 (0)), (.int .u8 (0)), (.int .u8 (0)), (.int .u8 (0)), (.int .u8 (0)), (.int .u8 (0)), (.int .u8 (0)), (.int .u8 (0)), (.int .u8 (0)), (.int .u8 (0)), (.int .u8 (0)), (.int .u8 (0)), (.int .u8 (0)), (.int .u8 (0)), (.int .u8 (0)), (.int .u8 (0)), (.int .u8 (0)), (.int .u8 (0)), (.int .u8 (0)), (.int .u8 (0)), (.int .u8 (0)), (.int .u8 (0)), (.int .u8 (0)), (.int .u8 (0)), (.int .u8 (0)), (.int .u8 (0))], cellC b6 24 (hc best), iterR w r10 cb choiceV (Value.int .i64) T.count (seen ++ [y24]), cellC b30 65 ([(.int .i64 (y24.1.kind)), (.int .i64 (y24.1.round))] ++ hc y24.1.h)] w34)
    refine hK33 _ _ ?_
    clear hK33 K33
    refine wl_pure (wants0 rfl) (d := 11) (v := (.int .i64 (y24.2))) rfl (by kernel_rfl) ?_
    refine w_nil ?_
    refine then_normal ?_
    refine wp_meetR [22, 23, 24, 25, 26, 27, 28, 29, 30, 31, 32, 33, 34, 35, 36, 37, 38, 39, 40, 41, 42, 43, 44, 45, 46, 47] (fun G_ W_ => G_ 47 = (.bool ((decide (y24.1.kind = kind) && decide (y24.1.round = round) && (decide (y24.2 > most) || (decide (y24.2 = most) && lessB y24.1.h best))))) ∧ Sat w [restC w (fun _ => False), cellC b2 24 [(.int .u8 (0)), (.int .u8 (0)), (.int .u8 (0)), (.int .u8 (0)), (.int .u8 (0)), (.int .u8 (0)), (.int .u8 (0)), (.int .u8 (0)), (.int .u8 (0)), (.int .u8 (0)), (.int .u8 (0)), (.int .u8 (0)), (.int .u8 (0)), (.int .u8 (0)), (.int .u8 (0)), (.int .u8 (0)), (.int .u8 (0)), (.int .u8 (0)), (.int .u8 (0)), (.int .u8 (0)), (.int .u8 (0)), (.int .u8 (0)), (.int .u8 (0)), (.int .u8 (0)), (.int .u8 (0)), (.int .u8 (0)), (.int .u8 (0)), (.int .u8 (0)), (.int .u8 (0)), (.int .u8 (0)), (.int .u8 (0)), (.int .u8 (0))], cellC b6 24 (hc best), iterR w r10 cb choiceV (Value.int .i64) T.count (seen ++ [y24]), cellC b30 65 ([(.int .i64 (y24.1.kind)), (.int .i64 (y24.1.round))] ++ hc y24.1.h)] W_) ?_ ?_
    · refine w_lit ?_
      refine wl_pure (wants0 rfl) (d := 22) (v := (.pointer (some ⟨b30, 0, none⟩))) rfl (by kernel_rfl) ?_
      refine wl_pure (wants0 rfl) (d := 23) (v := (.int .i64 (y24.1.kind))) rfl (e_load1 rfl (by kernel_rfl) (H35.cell 4 rfl (by kernel_rfl))) ?_
      refine wl_pure (wants0 rfl) (d := 24) (v := (.int .i64 (kind))) rfl (by kernel_rfl) ?_
      refine wl_pure (wants0 rfl) (d := 25) (v := (.bool (decide (y24.1.kind = kind)))) rfl (by kernel_rfl) ?_
      refine wl_pure (wants0 rfl) (d := 26) (v := (.bool (decide (y24.1.kind = kind)))) rfl (by kernel_rfl) ?_
      refine (bsplit (decide (y24.1.kind = kind))).elim (fun b38 => ?_) (fun b38 => ?_)
      · have g39 := of_decide_eq_true b38
        refine wl_know 26 (.bool true) (congrArg Value.bool b38) ?_
        refine wl_pure (wantsY 4 26 true rfl (by kernel_rfl) rfl (by kernel_rfl)) (d := 27) (v := (.pointer (some ⟨b30, 1, none⟩))) rfl (by kernel_rfl) ?_
        refine wl_pure (wantsY 4 26 true rfl (by kernel_rfl) rfl (by kernel_rfl)) (d := 28) (v := (.int .i64 (y24.1.round))) rfl (e_load1 rfl (by kernel_rfl) (H35.cell 4 rfl (by kernel_rfl))) ?_
        refine wl_pure (wantsY 4 26 true rfl (by kernel_rfl) rfl (by kernel_rfl)) (d := 29) (v := (.int .i64 (round))) rfl (by kernel_rfl) ?_
        refine wl_pure (wantsY 4 26 true rfl (by kernel_rfl) rfl (by kernel_rfl)) (d := 30) (v := (.bool (decide (y24.1.round = round)))) rfl (by kernel_rfl) ?_
        refine wl_pure (wants0 rfl) (d := 31) (v := (.bool (decide (y24.1.round = round)))) rfl (by kernel_rfl) ?_
        refine wl_pure (wants0 rfl) (d := 32) (v := (.bool (decide (y24.1.round = round)))) rfl (by kernel_rfl) ?_
        refine (bsplit (decide (y24.1.round = round))).elim (fun b40 => ?_) (fun b40 => ?_)
        · have g41 := of_decide_eq_true b40
          refine wl_know 32 (.bool true) (congrArg Value.bool b40) ?_
          refine wl_pure (wantsY 10 32 true rfl (by kernel_rfl) rfl (by kernel_rfl)) (d := 33) (v := (.int .i64 (y24.2))) rfl (by kernel_rfl) ?_
          refine wl_pure (wantsY 10 32 true rfl (by kernel_rfl) rfl (by kernel_rfl)) (d := 34) (v := (.int .i64 (most))) rfl (by kernel_rfl) ?_
          refine wl_pure (wantsY 10 32 true rfl (by kernel_rfl) rfl (by kernel_rfl)) (d := 35) (v := (.bool (decide (y24.2 > most)))) rfl (by kernel_rfl) ?_
          refine wl_pure (wantsY 10 32 true rfl (by kernel_rfl) rfl (by kernel_rfl)) (d := 36) (v := (.bool (decide (y24.2 > most)))) rfl (by kernel_rfl) ?_
          refine (bsplit (decide (y24.2 > most))).elim (fun b42 => ?_) (fun b42 => ?_)
          · have g43 := of_decide_eq_true b42
            refine wl_know 36 (.bool true) (congrArg Value.bool b42) ?_
            refine wl_pass (wantsN 14 36 false rfl (by kernel_rfl) rfl (by kernel_rfl)) rfl ?_
            refine wl_pass (wantsN 14 36 false rfl (by kernel_rfl) rfl (by kernel_rfl)) rfl ?_
            refine wl_pass (wantsN 14 36 false rfl (by kernel_rfl) rfl (by kernel_rfl)) rfl ?_
            refine wl_pass (wantsN 14 36 false rfl (by kernel_rfl) rfl (by kernel_rfl)) rfl ?_
            refine wl_pass (wantsU 18 40 true rfl (by kernel_rfl) rfl (by kernel_rfl)) rfl ?_
            refine wl_pass (wantsU 18 40 true rfl (by kernel_rfl) rfl (by kernel_rfl)) rfl ?_
            refine wl_pass (wantsU 18 40 true rfl (by kernel_rfl) rfl (by kernel_rfl)) rfl ?_
            refine wl_pass (wantsU 18 40 true rfl (by kernel_rfl) rfl (by kernel_rfl)) rfl ?_
            refine wl_pass (wantsN 14 36 false rfl (by kernel_rfl) rfl (by kernel_rfl)) rfl ?_
            refine wl_pure (wantsY 10 32 true rfl (by kernel_rfl) rfl (by kernel_rfl)) (d := 46) (v := (.bool true)) rfl (by kernel_rfl) ?_
            refine wl_pure (wants0 rfl) (d := 47) (v := (.bool true)) rfl (by kernel_rfl) ?_
            refine w_nil ?_
            refine meetR_at ?_ ⟨(congrArg Value.bool (show true = ((decide (y24.1.kind = kind) && decide (y24.1.round = round) && (decide (y24.2 > most) || (decide (y24.2 = most) && lessB y24.1.h best)))) by simp [b38, b40, b42])), H35⟩
            exact (same_upd rfl (same_upd rfl (same_upd rfl (same_upd rfl (same_upd rfl (same_upd rfl (same_upd rfl (same_upd rfl (same_upd rfl (same_upd rfl (same_upd rfl (same_upd rfl (same_upd rfl (same_upd rfl (same_upd rfl (same_upd rfl (same_upd rfl (same_upd rfl (same_upd rfl (same_upd rfl (same_upd rfl (same_upd rfl (same_upd rfl (same_upd rfl (same_upd rfl (same_upd rfl (same_upd rfl (same_upd rfl (same_upd rfl (same_refl))))))))))))))))))))))))))))))
          · have g44 := of_decide_eq_false b42
            refine wl_know 36 (.bool false) (congrArg Value.bool b42) ?_
            refine wl_pure (wantsY 14 36 false rfl (by kernel_rfl) rfl (by kernel_rfl)) (d := 37) (v := (.int .i64 (y24.2))) rfl (by kernel_rfl) ?_
            refine wl_pure (wantsY 14 36 false rfl (by kernel_rfl) rfl (by kernel_rfl)) (d := 38) (v := (.int .i64 (most))) rfl (by kernel_rfl) ?_
            refine wl_pure (wantsY 14 36 false rfl (by kernel_rfl) rfl (by kernel_rfl)) (d := 39) (v := (.bool (decide (y24.2 = most)))) rfl (by kernel_rfl) ?_
            refine wl_pure (wantsY 14 36 false rfl (by kernel_rfl) rfl (by kernel_rfl)) (d := 40) (v := (.bool (decide (y24.2 = most)))) rfl (by kernel_rfl) ?_
            refine (bsplit (decide (y24.2 = most))).elim (fun b45 => ?_) (fun b45 => ?_)
            · have g46 := of_decide_eq_true b45
              refine wl_know 40 (.bool true) (congrArg Value.bool b45) ?_
              refine wl_pure (wantsY 18 40 true rfl (by kernel_rfl) rfl (by kernel_rfl)) (d := 41) (v := (.pointer (some ⟨b30, 2, none⟩))) rfl (by kernel_rfl) ?_
              refine wl_pure (wantsY 18 40 true rfl (by kernel_rfl) rfl (by kernel_rfl)) (d := 42) (v := (.agg ⟨(hc y24.1.h)⟩)) rfl (e_loadN (vs := (hc y24.1.h)) rfl (by kernel_rfl) (by kernel_rfl) (by exact Nat.le_of_ble_eq_true (by kernel_rfl)) (H35.at 4 rfl) (by kernel_rfl)) ?_
              refine wl_pure (wantsY 18 40 true rfl (by kernel_rfl) rfl (by kernel_rfl)) (d := 43) (v := (.agg ⟨(hc best)⟩)) rfl (e_loadN (vs := (hc best)) rfl (by kernel_rfl) (by kernel_rfl) (by exact Nat.le_of_ble_eq_true (by kernel_rfl)) (H35.at 2 rfl) (by kernel_rfl)) ?_
              refine wl_do (wantsY 18 40 true rfl (by kernel_rfl) rfl (by kernel_rfl)) (fun K47 hK47 => ?_)
              refine d_call (d := 44) rfl (by kernel_rfl) (shaLess_any w34 y24.1.h best) ?_
              rintro _ w48 ⟨rfl, u50⟩
              have H49 := H35.keepU u50
              refine ⟨_, rfl, ?_⟩
              refine hK47 _ _ ?_
              clear hK47 K47
              refine wl_pure (wantsY 14 36 false rfl (by kernel_rfl) rfl (by kernel_rfl)) (d := 45) (v := (.bool (lessB y24.1.h best))) rfl (by kernel_rfl) ?_
              refine wl_pure (wantsY 10 32 true rfl (by kernel_rfl) rfl (by kernel_rfl)) (d := 46) (v := (.bool (lessB y24.1.h best))) rfl (by kernel_rfl) ?_
              refine wl_pure (wants0 rfl) (d := 47) (v := (.bool (lessB y24.1.h best))) rfl (by kernel_rfl) ?_
              refine w_nil ?_
              refine meetR_at ?_ ⟨(congrArg Value.bool (show (lessB y24.1.h best) = ((decide (y24.1.kind = kind) && decide (y24.1.round = round) && (decide (y24.2 > most) || (decide (y24.2 = most) && lessB y24.1.h best)))) by simp [b38, b40, b42, b45])), H49⟩
              exact (same_upd rfl (same_upd rfl (same_upd rfl (same_upd rfl (same_upd rfl (same_upd rfl (same_upd rfl (same_upd rfl (same_upd rfl (same_upd rfl (same_upd rfl (same_upd rfl (same_upd rfl (same_upd rfl (same_upd rfl (same_upd rfl (same_upd rfl (same_upd rfl (same_upd rfl (same_upd rfl (same_upd rfl (same_upd rfl (same_upd rfl (same_upd rfl (same_upd rfl (same_upd rfl (same_upd rfl (same_upd rfl (same_upd rfl (same_upd rfl (same_refl)))))))))))))))))))))))))))))))
            · have g51 := of_decide_eq_false b45
              refine wl_know 40 (.bool false) (congrArg Value.bool b45) ?_
              refine wl_pass (wantsN 18 40 true rfl (by kernel_rfl) rfl (by kernel_rfl)) rfl ?_
              refine wl_pass (wantsN 18 40 true rfl (by kernel_rfl) rfl (by kernel_rfl)) rfl ?_
              refine wl_pass (wantsN 18 40 true rfl (by kernel_rfl) rfl (by kernel_rfl)) rfl ?_
              refine wl_pass (wantsN 18 40 true rfl (by kernel_rfl) rfl (by kernel_rfl)) rfl ?_
              refine wl_pure (wantsY 14 36 false rfl (by kernel_rfl) rfl (by kernel_rfl)) (d := 45) (v := (.bool false)) rfl (by kernel_rfl) ?_
              refine wl_pure (wantsY 10 32 true rfl (by kernel_rfl) rfl (by kernel_rfl)) (d := 46) (v := (.bool false)) rfl (by kernel_rfl) ?_
              refine wl_pure (wants0 rfl) (d := 47) (v := (.bool false)) rfl (by kernel_rfl) ?_
              refine w_nil ?_
              refine meetR_at ?_ ⟨(congrArg Value.bool (show false = ((decide (y24.1.kind = kind) && decide (y24.1.round = round) && (decide (y24.2 > most) || (decide (y24.2 = most) && lessB y24.1.h best)))) by simp [b38, b40, b42, b45])), H35⟩
              exact (same_upd rfl (same_upd rfl (same_upd rfl (same_upd rfl (same_upd rfl (same_upd rfl (same_upd rfl (same_upd rfl (same_upd rfl (same_upd rfl (same_upd rfl (same_upd rfl (same_upd rfl (same_upd rfl (same_upd rfl (same_upd rfl (same_upd rfl (same_upd rfl (same_upd rfl (same_upd rfl (same_upd rfl (same_upd rfl (same_upd rfl (same_upd rfl (same_upd rfl (same_upd rfl (same_upd rfl (same_upd rfl (same_upd rfl (same_upd rfl (same_refl)))))))))))))))))))))))))))))))
        · have g52 := of_decide_eq_false b40
          refine wl_know 32 (.bool false) (congrArg Value.bool b40) ?_
          refine wl_pass (wantsN 10 32 true rfl (by kernel_rfl) rfl (by kernel_rfl)) rfl ?_
          refine wl_pass (wantsN 10 32 true rfl (by kernel_rfl) rfl (by kernel_rfl)) rfl ?_
          refine wl_pass (wantsN 10 32 true rfl (by kernel_rfl) rfl (by kernel_rfl)) rfl ?_
          refine wl_pass (wantsN 10 32 true rfl (by kernel_rfl) rfl (by kernel_rfl)) rfl ?_
          refine wl_pass (wantsU 14 36 false rfl (by kernel_rfl) rfl (by kernel_rfl)) rfl ?_
          refine wl_pass (wantsU 14 36 false rfl (by kernel_rfl) rfl (by kernel_rfl)) rfl ?_
          refine wl_pass (wantsU 14 36 false rfl (by kernel_rfl) rfl (by kernel_rfl)) rfl ?_
          refine wl_pass (wantsU 14 36 false rfl (by kernel_rfl) rfl (by kernel_rfl)) rfl ?_
          refine wl_pass (wantsU 18 40 true rfl (by kernel_rfl) rfl (by kernel_rfl)) rfl ?_
          refine wl_pass (wantsU 18 40 true rfl (by kernel_rfl) rfl (by kernel_rfl)) rfl ?_
          refine wl_pass (wantsU 18 40 true rfl (by kernel_rfl) rfl (by kernel_rfl)) rfl ?_
          refine wl_pass (wantsU 18 40 true rfl (by kernel_rfl) rfl (by kernel_rfl)) rfl ?_
          refine wl_pass (wantsU 14 36 false rfl (by kernel_rfl) rfl (by kernel_rfl)) rfl ?_
          refine wl_pass (wantsN 10 32 true rfl (by kernel_rfl) rfl (by kernel_rfl)) rfl ?_
          refine wl_pure (wants0 rfl) (d := 47) (v := (.bool false)) rfl (by kernel_rfl) ?_
          refine w_nil ?_
          refine meetR_at ?_ ⟨(congrArg Value.bool (show false = ((decide (y24.1.kind = kind) && decide (y24.1.round = round) && (decide (y24.2 > most) || (decide (y24.2 = most) && lessB y24.1.h best)))) by simp [b38, b40])), H35⟩
          exact (same_upd rfl (same_upd rfl (same_upd rfl (same_upd rfl (same_upd rfl (same_upd rfl (same_upd rfl (same_upd rfl (same_upd rfl (same_upd rfl (same_upd rfl (same_upd rfl (same_upd rfl (same_upd rfl (same_upd rfl (same_upd rfl (same_upd rfl (same_upd rfl (same_upd rfl (same_upd rfl (same_upd rfl (same_upd rfl (same_upd rfl (same_upd rfl (same_upd rfl (same_upd rfl (same_upd rfl (same_upd rfl (same_refl)))))))))))))))))))))))))))))
      · have g53 := of_decide_eq_false b38
        refine wl_know 26 (.bool false) (congrArg Value.bool b38) ?_
        refine wl_pass (wantsN 4 26 true rfl (by kernel_rfl) rfl (by kernel_rfl)) rfl ?_
        refine wl_pass (wantsN 4 26 true rfl (by kernel_rfl) rfl (by kernel_rfl)) rfl ?_
        refine wl_pass (wantsN 4 26 true rfl (by kernel_rfl) rfl (by kernel_rfl)) rfl ?_
        refine wl_pass (wantsN 4 26 true rfl (by kernel_rfl) rfl (by kernel_rfl)) rfl ?_
        refine wl_pure (wants0 rfl) (d := 31) (v := (.bool false)) rfl (by kernel_rfl) ?_
        refine wl_pure (wants0 rfl) (d := 32) (v := (.bool false)) rfl (by kernel_rfl) ?_
        refine wl_pass (wantsN 10 32 true rfl (by kernel_rfl) rfl (by kernel_rfl)) rfl ?_
        refine wl_pass (wantsN 10 32 true rfl (by kernel_rfl) rfl (by kernel_rfl)) rfl ?_
        refine wl_pass (wantsN 10 32 true rfl (by kernel_rfl) rfl (by kernel_rfl)) rfl ?_
        refine wl_pass (wantsN 10 32 true rfl (by kernel_rfl) rfl (by kernel_rfl)) rfl ?_
        refine wl_pass (wantsU 14 36 false rfl (by kernel_rfl) rfl (by kernel_rfl)) rfl ?_
        refine wl_pass (wantsU 14 36 false rfl (by kernel_rfl) rfl (by kernel_rfl)) rfl ?_
        refine wl_pass (wantsU 14 36 false rfl (by kernel_rfl) rfl (by kernel_rfl)) rfl ?_
        refine wl_pass (wantsU 14 36 false rfl (by kernel_rfl) rfl (by kernel_rfl)) rfl ?_
        refine wl_pass (wantsU 18 40 true rfl (by kernel_rfl) rfl (by kernel_rfl)) rfl ?_
        refine wl_pass (wantsU 18 40 true rfl (by kernel_rfl) rfl (by kernel_rfl)) rfl ?_
        refine wl_pass (wantsU 18 40 true rfl (by kernel_rfl) rfl (by kernel_rfl)) rfl ?_
        refine wl_pass (wantsU 18 40 true rfl (by kernel_rfl) rfl (by kernel_rfl)) rfl ?_
        refine wl_pass (wantsU 14 36 false rfl (by kernel_rfl) rfl (by kernel_rfl)) rfl ?_
        refine wl_pass (wantsN 10 32 true rfl (by kernel_rfl) rfl (by kernel_rfl)) rfl ?_
        refine wl_pure (wants0 rfl) (d := 47) (v := (.bool false)) rfl (by kernel_rfl) ?_
        refine w_nil ?_
        refine meetR_at ?_ ⟨(congrArg Value.bool (show false = ((decide (y24.1.kind = kind) && decide (y24.1.round = round) && (decide (y24.2 > most) || (decide (y24.2 = most) && lessB y24.1.h best)))) by simp [b38])), H35⟩
        exact (same_upd rfl (same_upd rfl (same_upd rfl (same_upd rfl (same_upd rfl (same_upd rfl (same_upd rfl (same_upd rfl (same_upd rfl (same_upd rfl (same_upd rfl (same_upd rfl (same_upd rfl (same_upd rfl (same_upd rfl (same_upd rfl (same_upd rfl (same_upd rfl (same_upd rfl (same_upd rfl (same_upd rfl (same_upd rfl (same_upd rfl (same_upd rfl (same_upd rfl (same_upd rfl (same_upd rfl (same_refl))))))))))))))))))))))))))))
    · rintro f54 w55 ⟨v57, H56⟩
      refine wp_know 47 _ v57 ?_
      refine (bsplit ((decide (y24.1.kind = kind) && decide (y24.1.round = round) && (decide (y24.2 > most) || (decide (y24.2 = most) && lessB y24.1.h best))))).elim (fun b58 => ?_) (fun b58 => ?_)
      · refine wp_know 47 (.bool true) (congrArg Value.bool b58) ?_
        refine wp_ift rfl ?_
        refine w_lit ?_
        refine wl_pure (wants0 rfl) (d := 48) (v := (.pointer (some ⟨b30, 2, none⟩))) rfl (by kernel_rfl) ?_
        refine wl_pure (wants0 rfl) (d := 49) (v := (.agg ⟨(hc y24.1.h)⟩)) rfl (e_loadN (vs := (hc y24.1.h)) rfl (by kernel_rfl) (by kernel_rfl) (by exact Nat.le_of_ble_eq_true (by kernel_rfl)) (H56.at 4 rfl) (by kernel_rfl)) ?_
        refine wl_pure (wants0 rfl) (d := 50) (v := (.int .i64 (y24.2))) rfl (by kernel_rfl) ?_
        refine wl_do (wants0 rfl) (fun K59 hK59 => ?_)
        refine d_store (vs := (hc y24.1.h)) rfl H56 2 rfl rfl rfl rfl (by kernel_rfl) (Nat.le_of_ble_eq_true (by kernel_rfl)) (Nat.le_of_ble_eq_true (by kernel_rfl)) (by kernel_rfl) ?_
        intro w60 (H61 : Sat w [restC w (fun _ => False), cellC b2 24 [(.int .u8 (0)), (.int .u8 (0)), (.int .u8 (0)), (.int .u8 (0)), (.int .u8 (0)), (.int .u8 (0)), (.int .u8 (0)), (.int .u8 (0)), (.int .u8 (0)), (.int .u8 (0)), (.int .u8 (0)), (.int .u8 (0)), (.int .u8 (0)), (.int .u8 (0)), (.int .u8 (0)), (.int .u8 (0)), (.int .u8 (0)), (.int .u8 (0)), (.int .u8 (0)), (.int .u8 (0)), (.int .u8 (0)), (.int .u8 (0)), (.int .u8 (0)), (.int .u8 (0)), (.int .u8 (0)), (.int .u8 (0)), (.int .u8 (0)), (.int .u8 (0)), (.int .u8 (0)), (.int .u8 (0)), (.int .u8 (0)), (.int .u8 (0))], cellC b6 24 (hc y24.1.h), iterR w r10 cb choiceV (Value.int .i64) T.count (seen ++ [y24]), cellC b30 65 ([(.int .i64 (y24.1.kind)), (.int .i64 (y24.1.round))] ++ hc y24.1.h)] w60)
        refine hK59 _ _ ?_
        clear hK59 K59
        refine wl_pure (wants0 rfl) (d := 9) (v := (.int .i64 (y24.2))) rfl (by kernel_rfl) ?_
        refine w_nil ?_
        refine blk_normal ?_
        have H63 : Sat w [restC w (fun _ => False), cellC b2 24 [(.int .u8 (0)), (.int .u8 (0)), (.int .u8 (0)), (.int .u8 (0)), (.int .u8 (0)), (.int .u8 (0)), (.int .u8 (0)), (.int .u8 (0)), (.int .u8 (0)), (.int .u8 (0)), (.int .u8 (0)), (.int .u8 (0)), (.int .u8 (0)), (.int .u8 (0)), (.int .u8 (0)), (.int .u8 (0)), (.int .u8 (0)), (.int .u8 (0)), (.int .u8 (0)), (.int .u8 (0)), (.int .u8 (0)), (.int .u8 (0)), (.int .u8 (0)), (.int .u8 (0)), (.int .u8 (0)), (.int .u8 (0)), (.int .u8 (0)), (.int .u8 (0)), (.int .u8 (0)), (.int .u8 (0)), (.int .u8 (0)), (.int .u8 (0))], cellC b6 24 (hc y24.1.h), iterR w r10 cb choiceV (Value.int .i64) T.count (seen ++ [y24])] w60 := H61.pick [0, 1, 2, 3] (by decide)
        refine round_back ?_ _ ⟨(seen ++ [y24]), t25, y24.1.h, y24.2, (show ((.int .i64 (y24.2)) : Value) = _ by first | rfl | go_num), p27, (by rw [mostF_snoc, hfold]; unfold mostStep; rw [b58]; rfl), H63, rfl⟩ (by have h1 := hperm.length_eq; have h2 := p27.length_eq; simp only [List.length_append, List.length_cons, List.length_nil] at h1 h2; omega)
        exact (same_upd rfl (same_upd rfl (same_upd rfl (same_upd rfl (same_upd rfl (same_upd rfl (same_ovr2 rfl (same_upd rfl (same_upd rfl (same_upd rfl (same_upd rfl (same_upd rfl (same_upd rfl (same_upd rfl (same_upd rfl (same_ovr))))))))))))))))
      · refine wp_know 47 (.bool false) (congrArg Value.bool b58) ?_
        refine wp_iff rfl ?_
        refine w_skip ?_
        refine blk_normal ?_
        have H64 : Sat w [restC w (fun _ => False), cellC b2 24 [(.int .u8 (0)), (.int .u8 (0)), (.int .u8 (0)), (.int .u8 (0)), (.int .u8 (0)), (.int .u8 (0)), (.int .u8 (0)), (.int .u8 (0)), (.int .u8 (0)), (.int .u8 (0)), (.int .u8 (0)), (.int .u8 (0)), (.int .u8 (0)), (.int .u8 (0)), (.int .u8 (0)), (.int .u8 (0)), (.int .u8 (0)), (.int .u8 (0)), (.int .u8 (0)), (.int .u8 (0)), (.int .u8 (0)), (.int .u8 (0)), (.int .u8 (0)), (.int .u8 (0)), (.int .u8 (0)), (.int .u8 (0)), (.int .u8 (0)), (.int .u8 (0)), (.int .u8 (0)), (.int .u8 (0)), (.int .u8 (0)), (.int .u8 (0))], cellC b6 24 (hc best), iterR w r10 cb choiceV (Value.int .i64) T.count (seen ++ [y24])] w55 := H56.pick [0, 1, 2, 3] (by decide)
        refine round_back ?_ _ ⟨(seen ++ [y24]), t25, best, most, (show ((.int .i64 (most)) : Value) = _ by first | rfl | go_num), p27, (by rw [mostF_snoc, hfold]; unfold mostStep; rw [b58]; rfl), H64, rfl⟩ (by have h1 := hperm.length_eq; have h2 := p27.length_eq; simp only [List.length_append, List.length_cons, List.length_nil] at h1 h2; omega)
        exact (same_upd rfl (same_upd rfl (same_ovr2 rfl (same_upd rfl (same_upd rfl (same_upd rfl (same_upd rfl (same_upd rfl (same_upd rfl (same_upd rfl (same_upd rfl (same_ovr))))))))))))

end Go.Proofs.Ytfhhljgjppcdlaa
