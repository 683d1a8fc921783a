/- WHAT IS PROVED: bytes copied and cut: contracts. Conditions: stated with each. -/
import Derived.Test.YtbpeofcoceaahaaStore10
import Derived.Test.YtbpeofcoceaahaaMinMax
import Derived.Test.YtbpeofcoceaahaaRt2
namespace Go.Proofs.Ytbpeofcoceaahaa
open Go.RowKit

set_option maxRecDepth 100000 in
set_option maxHeartbeats 400000 in
theorem copyB_any (w : World) (v : Value) (p : List UInt8) (hp : ListAt encB 1 w v p) (hx : p.length ≤ 1000000) :
    Calls Try.prog 50 #[(v)] w fun e w' => ∃ u, e = .returned u ∧ (rowC 5 1 u p.length (p.flatMap encB)).ok w' ∧ Upd [] w w' ∧ ∀ b, (rowC 5 1 u p.length (p.flatMap encB)).fp b → w.heap.size ≤ b := by
  have H := Sat.start0 w
  refine calls_fr Try.func50 rfl 5 rfl (Nat.le_of_ble_eq_true rfl) ?_
  refine w_seq ?_
  refine w_lit ?_
  refine wl_pure (wants0 rfl) (d := 2) (v := (.slice none 0 0)) rfl (by kernel_rfl) ?_
  refine w_nil ?_
  refine then_normal ?_
  refine w_seq ?_
  refine w_lit ?_
  refine wl_pure (wants0 rfl) (d := 3) (v := v) rfl (by kernel_rfl) ?_
  refine wl_do (wants0 rfl) (fun K1 hK1 => ?_)
  refine d_appendNilL (T := 63) (e := 5) (size := 1) (bytes := 1) rfl H (by kernel_rfl) encB_len encB_one (ListAt.now H 0 rfl hp) rfl rfl (by omega) (by omega) ?_
  intro v2 w3 (H4 : Sat w [restC w (fun _ => False), rowC 5 1 v2 p.length (p.flatMap encB)] w3)
  obtain ⟨a5, c6, rfl⟩ := ownsRow_shape (H4.at 1 rfl)
  refine hK1 _ _ ?_
  clear hK1 K1
  refine wl_pure (wants0 rfl) (d := 2) (v := (.slice a5 p.length c6)) rfl (by kernel_rfl) ?_
  refine w_nil ?_
  refine then_normal ?_
  refine w_ret ?_
  refine end1 rfl (res_tmp (v := (.slice a5 p.length c6)) rfl) ?_
  exact ⟨_, rfl, H4.at 1 rfl, H4.upd 0 rfl [] (fun _ h => h.elim), H4.fresh 0 rfl (fun _ h => h) 1 rfl rfl⟩

set_option maxRecDepth 100000 in
set_option maxHeartbeats 400000 in
theorem cutB_any (w : World) (pa : Option Addr) (pc : Nat) (p : List UInt8) (hp : ListAt encB 1 w (.slice pa p.length pc) p) (n : Nat) (hn : n ≤ 1000000) :
    Calls Try.prog 28 #[(.slice pa p.length pc), (.int .i64 ((n : Int)))] w fun e w' => ∃ u, e = .returned u ∧ (rowC 5 1 u (p.take n).length ((p.take n).flatMap encB)).ok w' ∧ Upd [] w w' ∧ ∀ b, (rowC 5 1 u (p.take n).length ((p.take n).flatMap encB)).fp b → w.heap.size ≤ b := by
  have hcap := ListAt.cap hp
  have H := Sat.start0 w
  refine calls_fr Try.func28 rfl 12 rfl (Nat.le_of_ble_eq_true rfl) ?_
  refine w_seq ?_
  refine w_lit ?_
  refine wl_pure (wants0 rfl) (d := 4) (v := (.slice none 0 0)) rfl (by kernel_rfl) ?_
  refine w_nil ?_
  refine then_normal ?_
  refine w_seq ?_
  refine w_lit ?_
  refine wl_pure (wants0 rfl) (d := 5) (v := (.slice pa p.length pc)) rfl (by kernel_rfl) ?_
  refine wl_pure (wants0 rfl) (d := 6) (v := (.slice pa p.length pc)) rfl (by kernel_rfl) ?_
  refine wl_pure (wants0 rfl) (d := 7) (v := (.int .i64 ((p.length : Int)))) rfl (by kernel_rfl) ?_
  refine wl_pure (wants0 rfl) (d := 8) (v := (.int .i64 ((n : Int)))) rfl (by kernel_rfl) ?_
  refine wl_pure (wants0 rfl) (d := 9) (v := (.int .i64 (((min p.length n : Nat) : Int)))) rfl (e_min (k := .i64) (a := (p.length : Int)) (b := (n : Int)) (z := ((min p.length n : Nat) : Int)) rfl rfl (by omega)) ?_
  refine wl_pure (wants0 rfl) (d := 10) (v := (.slice pa (min p.length n) pc)) rfl (e_sliceHi (E := 5) (q := (min p.length n)) (by kernel_rfl) (by kernel_rfl) rfl rfl (by omega) (by omega)) ?_
  refine wl_do (wants0 rfl) (fun K1 hK1 => ?_)
  refine d_call (d := 11) rfl (by kernel_rfl) (copyB_any w (.slice pa (min p.length n) pc) (p.take (min p.length n)) (ListAt.take (ListAt.now H 0 rfl hp) (by omega)) (by simp only [List.length_take]; omega)) ?_
  rintro _ w2 ⟨u3, rfl, k4, p5, q6⟩
  have H7 : Sat w [restC w (fun _ => False), rowC 5 1 u3 ((p.take (min p.length n)).length) ((p.take (min p.length n)).flatMap encB)] w2 := H.addU p5 k4 q6
  obtain ⟨a8, c9, rfl⟩ := ownsRow_shape (H7.at 1 rfl)
  refine ⟨_, rfl, ?_⟩
  refine hK1 _ _ ?_
  clear hK1 K1
  refine wl_pure (wants0 rfl) (d := 4) (v := (.slice a8 ((p.take (min p.length n)).length) c9)) rfl (by kernel_rfl) ?_
  refine w_nil ?_
  refine then_normal ?_
  refine w_ret ?_
  refine end1 rfl (res_tmp (v := (.slice a8 ((p.take (min p.length n)).length) c9)) rfl) ?_
  have ht : p.take (min p.length n) = p.take n := by rw [List.take_eq_take_iff]; omega
  exact ⟨_, rfl, (by rw [← ht]; exact H7.at 1 rfl), H7.upd 0 rfl [] (fun _ h => h.elim), (by rw [← ht]; exact H7.fresh 0 rfl (fun _ h => h) 1 rfl rfl)⟩

theorem cutB_at (w : World) (v : Value) (p : List UInt8) (n : Nat) (hp : ListAt encB 1 w v p) (hn : n ≤ 1000000) : Calls Try.prog 28 #[v, .int .i64 (n : Int)] w fun e w' => ∃ u, e = .returned u ∧ (rowC 5 1 u (p.take n).length ((p.take n).flatMap encB)).ok w' ∧ Upd [] w w' ∧ ∀ b, (rowC 5 1 u (p.take n).length ((p.take n).flatMap encB)).fp b → w.heap.size ≤ b := by
  obtain ⟨a, c, rfl⟩ := SliceOf.len hp
  exact cutB_any w a c p hp n hn

end Go.Proofs.Ytbpeofcoceaahaa
