/- WHAT IS PROVED: copies of both registries. Conditions: stated with each. -/
import Derived.Test.YtjlbabikogdknaaPlayD18
namespace Go.Proofs.Ytjlbabikogdknaa
open Go.RowKit

set_option maxRecDepth 100000 in
set_option maxHeartbeats 400000 in
theorem clone18_any (w : World) (r b : Nat) (l : RegL) (hR : (regC r b l).ok w) :
    Calls Try.prog 18 #[(.pointer (some ⟨r, 0, none⟩))] w fun e w' => ∃ r2 b2, e = .returned (.pointer (some ⟨r2, 0, none⟩)) ∧ Sat w [cellC r 52 [.map (some b)], mapC b strV (Value.int .i64) l, cellC r2 52 [.map (some b2)], mapC b2 strV (Value.int .i64) l, restC w (regC r b l).fp] w' := by
  have H : Sat w [cellC r 52 ([(.map (some b))] : List Value), mapC b strV (Value.int .i64) l, restC w (regC r b l).fp] w := Sat.start (regL r b l) hR
  refine calls_fr Try.func18 rfl 10 rfl (Nat.le_of_ble_eq_true rfl) ?_
  refine w_seq ?_
  refine w_lit ?_
  refine wl_pure (wants0 rfl) (d := 2) (v := (.pointer none)) rfl (by kernel_rfl) ?_
  refine w_nil ?_
  refine then_normal ?_
  refine w_seq ?_
  refine w_lit ?_
  refine wl_pure (wants0 rfl) (d := 3) (v := (.pointer (some ⟨r, 0, none⟩))) rfl (by kernel_rfl) ?_
  refine wl_pure (wants0 rfl) (d := 4) (v := (.pointer (some ⟨r, 0, none⟩))) rfl (by kernel_rfl) ?_
  refine wl_pure (wants0 rfl) (d := 5) (v := (.pointer (some ⟨r, 0, none⟩))) rfl (by kernel_rfl) ?_
  refine wl_pure (wants0 rfl) (d := 6) (v := (.map (some b))) rfl (e_load1 rfl (by kernel_rfl) (H.cell 0 rfl rfl)) ?_
  refine wl_do (wants0 rfl) (fun K1 hK1 => ?_)
  refine d_call (d := 7) rfl (by kernel_rfl) (clS_any b w (H.at 1 rfl)) ?_
  rintro _ w3 ⟨c2, rfl, k5, u6, f7⟩
  have H4 : Sat w [cellC r 52 ([(.map (some b))] : List Value), mapC b strV (Value.int .i64) l, restC w (regC r b l).fp, mapC c2 strV (Value.int .i64) l] w3 := H.addU u6 k5 (fun b hb => Nat.le_trans f7 (Nat.le_of_eq hb.symm))
  refine ⟨_, rfl, ?_⟩
  refine hK1 _ _ ?_
  clear hK1 K1
  refine wl_pure (wants0 rfl) (d := 8) (v := (.agg ⟨([(.map (some c2))] : List Value)⟩)) rfl (by kernel_rfl) ?_
  refine wl_do (wants0 rfl) (fun K8 hK8 => ?_)
  refine d_box (vs := ([(.map (some c2))] : List Value)) rfl H4 rfl rfl ?_
  intro b9 w10 (H11 : Sat w [cellC r 52 ([(.map (some b))] : List Value), mapC b strV (Value.int .i64) l, restC w (regC r b l).fp, mapC c2 strV (Value.int .i64) l, cellC b9 52 ([(.map (some c2))] : List Value)] w10)
  refine hK8 _ _ ?_
  clear hK8 K8
  refine wl_pure (wants0 rfl) (d := 2) (v := (.pointer (some ⟨b9, 0, none⟩))) rfl (by kernel_rfl) ?_
  refine w_nil ?_
  refine then_normal ?_
  refine w_ret ?_
  refine end1 rfl (res_tmp (v := (.pointer (some ⟨b9, 0, none⟩))) rfl) ?_
  exact ⟨b9, c2, rfl, H11.pick [0, 1, 4, 3, 2] (by decide)⟩

set_option maxRecDepth 100000 in
set_option maxHeartbeats 400000 in
theorem rCopy_any (w : World) (r : Nat) (a : Option Addr) (c : Nat) (L : RegL) (hR : (rrC r a c L).ok w) (hl : L.length ≤ 64) :
    Calls Try.prog 19 #[(.pointer (some ⟨r, 0, none⟩))] w fun e w' => ∃ r2 a2 c2, e = .returned (.pointer (some ⟨r2, 0, none⟩)) ∧ Sat w [cellC r 46 [.slice a L.length c], rowC 61 2 (.slice a L.length c) L.length (L.flatMap encO), cellC r2 46 [.slice a2 L.length c2], rowC 61 2 (.slice a2 L.length c2) L.length (L.flatMap encO), restC w (rrC r a c L).fp] w' := by
  have H : Sat w [cellC r 46 ([(.slice a L.length c)] : List Value), rowC 61 2 (.slice a L.length c) L.length (L.flatMap encO), restC w (rrC r a c L).fp] w := Sat.start (rrL r a c L) hR
  refine calls_fr Try.func19 rfl 10 rfl (Nat.le_of_ble_eq_true rfl) ?_
  refine w_seq ?_
  refine w_lit ?_
  refine wl_pure (wants0 rfl) (d := 2) (v := (.pointer none)) rfl (by kernel_rfl) ?_
  refine w_nil ?_
  refine then_normal ?_
  refine w_seq ?_
  refine w_lit ?_
  refine wl_pure (wants0 rfl) (d := 3) (v := (.pointer (some ⟨r, 0, none⟩))) rfl (by kernel_rfl) ?_
  refine wl_pure (wants0 rfl) (d := 4) (v := (.pointer (some ⟨r, 0, none⟩))) rfl (by kernel_rfl) ?_
  refine wl_pure (wants0 rfl) (d := 5) (v := (.pointer (some ⟨r, 0, none⟩))) rfl (by kernel_rfl) ?_
  refine wl_pure (wants0 rfl) (d := 6) (v := (.slice a L.length c)) rfl (e_load1 rfl (by kernel_rfl) (H.cell 0 rfl rfl)) ?_
  refine wl_do (wants0 rfl) (fun K1 hK1 => ?_)
  refine d_appendNil (T := 44) (e := 61) (size := 2) (bytes := 24) rfl H (by kernel_rfl) (H.at 1 rfl) rfl rfl (flat_one encO encO_one L) (by omega) (by omega) ?_
  intro v2 w3 (H4 : Sat w [cellC r 46 ([(.slice a L.length c)] : List Value), rowC 61 2 (.slice a L.length c) L.length (L.flatMap encO), restC w (rrC r a c L).fp, rowC 61 2 v2 L.length (L.flatMap encO)] w3)
  obtain ⟨a5, c6, rfl⟩ := ownsRow_shape (H4.at 3 rfl)
  refine hK1 _ _ ?_
  clear hK1 K1
  refine wl_pure (wants0 rfl) (d := 8) (v := (.agg ⟨([(.slice a5 L.length c6)] : List Value)⟩)) rfl (by kernel_rfl) ?_
  refine wl_do (wants0 rfl) (fun K7 hK7 => ?_)
  refine d_box (vs := ([(.slice a5 L.length c6)] : List Value)) rfl H4 rfl rfl ?_
  intro b8 w9 (H10 : Sat w [cellC r 46 ([(.slice a L.length c)] : List Value), rowC 61 2 (.slice a L.length c) L.length (L.flatMap encO), restC w (rrC r a c L).fp, rowC 61 2 (.slice a5 L.length c6) L.length (L.flatMap encO), cellC b8 46 ([(.slice a5 L.length c6)] : List Value)] w9)
  refine hK7 _ _ ?_
  clear hK7 K7
  refine wl_pure (wants0 rfl) (d := 2) (v := (.pointer (some ⟨b8, 0, none⟩))) rfl (by kernel_rfl) ?_
  refine w_nil ?_
  refine then_normal ?_
  refine w_ret ?_
  refine end1 rfl (res_tmp (v := (.pointer (some ⟨b8, 0, none⟩))) rfl) ?_
  exact ⟨b8, a5, c6, rfl, H10.pick [0, 1, 4, 3, 2] (by decide)⟩

end Go.Proofs.Ytjlbabikogdknaa
