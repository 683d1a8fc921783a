/- WHAT IS PROVED: the functions that cert.Make hands to the library: same replica, difference of replicas: contracts. No condition but the captured stamp's. -/
import Derived.Test.YtbpeofcoceaahaaMake10M
import Derived.Shelf.SlSortCmp.InsertionK
namespace Go.Proofs.Ytbpeofcoceaahaa
open Go.RowKit
set_option maxRecDepth 100000
set_option maxHeartbeats 1000000 in
theorem clos2_any (x y : StampD) (W : World) : Calls Try.prog 55 #[.agg ⟨encSt x⟩, .agg ⟨encSt y⟩] W fun e w' => e = .returned (.int .i64 (IntKind.i64.wrap (x.r - y.r))) ∧ ∃ q os', w' = Sort.grow (W.drewN q) os' := by
  have hx : (encSt x)[0]? = some (.int .i64 x.r) := by kernel_rfl
  have hy : (encSt y)[0]? = some (.int .i64 y.r) := by kernel_rfl
  generalize encSt x = cx at hx ⊢
  generalize encSt y = cy at hy ⊢
  go_enter Try.func55, Try.ntmps55
  go_wp2
  go_ret
  exact ⟨by simp [IntWalk.i64_left], 0, _, by rw [Sort.alloc_eq_grow, Sort.alloc_eq_grow, Sort.grow_grow]; rfl⟩
set_option maxHeartbeats 1000000 in
theorem clos1_any (w : World) (B : Nat) (x s : StampD) (hb : w.heap[B]? = some (.cells ⟨encSt s⟩ 49 (0, 0))) : Calls Try.prog 52 #[.agg ⟨encSt x⟩, .pointer (some ⟨B, 0, none⟩)] w fun e w' => e = .returned (.bool (decide (x.r = s.r))) ∧ Upd [] w w' := by
  have hx : (encSt x)[0]? = some (.int .i64 x.r) := by kernel_rfl
  have hs : (encSt s)[0]? = some (.int .i64 s.r) := by kernel_rfl
  have hc : w.cell? ⟨B, 0, none⟩ = some (.int .i64 s.r) := by rw [cell_of_heap hb]; simpa using hs
  have hB : B < w.heap.size := heap_lt hb
  have hne : B ≠ w.heap.size := by omega
  clear hb
  generalize encSt x = cx at hx ⊢
  go_enter Try.func52, Try.ntmps52
  go_wp2
  all_goals (go_ret; exact ⟨by simp_all [Bool.beq_eq_decide_eq], Below.upd ((Below.refl _ w).alloc (Nat.le_refl _) _)⟩)
end Go.Proofs.Ytbpeofcoceaahaa
