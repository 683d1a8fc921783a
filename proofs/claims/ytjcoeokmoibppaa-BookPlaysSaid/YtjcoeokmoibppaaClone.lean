/- WHAT IS PROVED: the contract of a book's Clone. Conditions: stated with it. -/
import Derived.Test.YtjcoeokmoibppaaBook
import Derived.Test.YtjcoeokmoibppaaMaps
namespace Go.Proofs.Ytjcoeokmoibppaa
open Go.RowKit

set_option maxRecDepth 100000 in
set_option maxHeartbeats 1000000 in
theorem bclone_raw (b : Nat) (es : Array MapEntry) (clock : Nat) (w : World) (hb : w.heap[b]? = some (.map es clock)) :
    Calls Try.prog 19 #[.map (some b)] w fun e w' => e = .returned (.map (some w.heap.size)) ∧ w' = w.alloc (.map es clock) := by
  have hq := fun w => run_eql_map_nil (P := Try.prog) w 48 53 3 (some b) Try.underlying48
  go_enter Try.func19, Try.ntmps19
  go_wp2
  rw [run_callFunc_extern Try.func23 (by kernel_rfl) (by kernel_rfl) (by kernel_rfl) (e := Extern.MapsClone.clone) (by kernel_rfl), run_maps_clone w 48 hb]
  simp only [Result.andThen]
  rw [Oper.upon_value]
  go_wp2
  rw [run_typeAssert_map _ 48 20 _ _ _ Try.underlying48]
  simp only [Result.andThen]
  rw [Oper.upon_value]
  go_wp2
  go_ret
  exact ⟨rfl, rfl⟩
/-- a map and its clone -/
theorem bclone_any {κ ν : Type} {encK : κ → Value} {encV : ν → Value} {l : List (κ × ν)} (b : Nat) (w : World) (hm : MapAt w b encK encV l) :
    Calls Try.prog 19 #[.map (some b)] w fun e w' => ∃ c, e = .returned (.map (some c)) ∧ MapAt w' c encK encV l ∧ Upd [] w w' ∧ w.heap.size ≤ c := by
  obtain ⟨es, clock, hb, h1, h2⟩ := hm
  refine (bclone_raw b es clock w hb).mono ?_
  rintro e w' ⟨rfl, rfl⟩
  exact ⟨w.heap.size, rfl, ⟨es, clock, heap_alloc_at w _, h1, h2⟩, (Upd.refl _ _).alloc _, Nat.le_refl _⟩

set_option maxHeartbeats 1000000 in
theorem clone_any (w : World) (b mb : Nat) (l : List Signed) (hb : BookAt w b mb l) :
    Calls Try.prog 15 #[.pointer (some ⟨b, 0, none⟩)] w fun e w' => ∃ c mc, e = .returned (.pointer (some ⟨c, 0, none⟩)) ∧ BookAt w' c mc l ∧ Upd [] w w' ∧ w.heap.size ≤ c ∧ w.heap.size ≤ mc := by
  have hc : w.cell? ⟨b, 0, none⟩ = some (.map (some mb)) := cell_of_heap hb.1 0
  go_enter Try.func15, Try.ntmps15
  go_wp2_with fail
  refine (bclone_any mb w hb.2.2).mono ?_
  rintro e w1 ⟨mc, rfl, hm, hu, hmc⟩
  go_wp2_with fail
  go_ret
  exact ⟨w1.heap.size, mc, rfl, ⟨heap_alloc_at _ _, by have := hm.lt; omega, hm.alloc _⟩, hu.alloc _, hu.size, hmc⟩
end Go.Proofs.Ytjcoeokmoibppaa
