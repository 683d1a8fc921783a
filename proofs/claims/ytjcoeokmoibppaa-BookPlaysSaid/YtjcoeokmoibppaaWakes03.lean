/- WHAT IS PROVED: the document's example, which every statement of this chapter asks at its end, answers true. No condition. -/
import Derived.Test.YtjcoeokmoibppaaBook
import Derived.Test.YtjcoeokmoibppaaKeep
import Derived.Lib.SlBytesConst
namespace Go.Proofs.Ytjcoeokmoibppaa
open Go.RowKit

set_option maxHeartbeats 1000000 in
theorem wakes_any (w : World) : Calls Try.prog 13 #[] w fun e w' => e = .returned (.bool true) ∧ Upd [] w w' := by
  have kc := fun (w : World) (C : Array Value) (n c : Nat) => Lib.run_convert_bytes_const (P := Try.prog) w 27 5 C n c Try.underlying27 Try.underlying5
  go_enter Try.func13, Try.ntmps13
  go_wp2_with fail
  refine (new_any _).mono ?_
  rintro e w1 ⟨b, mb, rfl, hb, hu, hb1, hb2⟩
  go_wp2_with fail
  have hu2 := (Upd.refl [] w1).alloc (.cells #[.int .u8 97] 5 (1, 2))
  have hv := bytes_new w1 #[.int .u8 97] 5 (1, 2) [97] rfl (by simp)
  refine (sign_new _ b mb [] 1 _ [97] (hb.upd hu2 (by simp) (by simp)) hv (by simp) (by simp)).mono ?_
  rintro e w2 ⟨rfl, hb3, hu3⟩
  have kc1 := kc (w2.alloc (.cells #[.int .i64 1, .int .i64 1] 30)) #[.int .u8 97] 1 1
  rw [World.size_alloc] at kc1
  go_wp2_with fail
  generalize hX : w2.alloc (.cells #[.int .i64 1, .int .i64 1] 30) = X
  have hsz : X.heap.size = w2.heap.size + 1 := by rw [← hX]; simp
  rw [← hsz]
  have hu4 : Upd [] w2 X := by rw [← hX]; exact (Upd.refl _ _).alloc _
  have hc0 : X.cell? ⟨w2.heap.size, 0, none⟩ = some (.int .i64 1) := by rw [← hX]; exact cell_of_heap (heap_alloc_at _ _) 0
  have hc1 : X.cell? ⟨w2.heap.size, 1, none⟩ = some (.int .i64 1) := by rw [← hX]; exact cell_of_heap (heap_alloc_at _ _) 1
  have hX0 : w2.heap.size < X.heap.size := by omega
  clear hX hsz kc1
  have hb5 := (hb3.upd hu4 (by simp) (by simp)).upd ((Upd.refl [] X).alloc (.cells #[.int .u8 97] 5 (1, 2))) (by simp) (by simp)
  refine (right_any _ b mb _ 1 1 _ [97] hb5 (bytes_new X #[.int .u8 97] 5 (1, 2) [97] rfl (by simp))).mono ?_
  rw [show rightB ([] ++ [⟨1, [97]⟩]) 1 1 [97] = true by decide]
  rintro e w5 ⟨rfl, hu5⟩
  have d0 : w5.cell? ⟨w2.heap.size, 0, none⟩ = some (.int .i64 1) := hu5.cell (cell_alloc _ _ _ hc0) (by simp)
  have d1 : w5.cell? ⟨w2.heap.size, 1, none⟩ = some (.int .i64 1) := hu5.cell (cell_alloc _ _ _ hc1) (by simp)
  have hb6 := hb5.upd hu5 (by simp) (by simp)
  go_wp2_with fail
  have hb7 := hb6.upd ((Upd.refl [] w5).alloc (.cells #[.int .u8 98] 5 (1, 2))) (by simp) (by simp)
  refine (right_any _ b mb _ 1 1 _ [98] hb7 (bytes_new w5 #[.int .u8 98] 5 (1, 2) [98] rfl (by simp))).mono ?_
  rw [show rightB ([] ++ [⟨1, [97]⟩]) 1 1 [98] = false by decide]
  rintro e w6 ⟨rfl, hu6⟩
  go_wp2_with fail
  go_ret
  refine ⟨rfl, ?_⟩
  have h1 : Upd [mb] w1 w6 := hu2.nil.trans (hu3.trans (hu4.nil.trans (((Upd.refl [mb] X).alloc _).trans (hu5.nil.trans (((Upd.refl [mb] w5).alloc _).trans hu6.nil)))))
  exact hu.own h1 (by simp; omega)
end Go.Proofs.Ytjcoeokmoibppaa
