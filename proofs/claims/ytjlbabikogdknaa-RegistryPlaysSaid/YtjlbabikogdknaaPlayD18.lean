/- WHAT IS PROVED: both registries beside each other; acts that lie off them; the copy of a map. Conditions: stated with each. -/
import Derived.Test.YtjlbabikogdknaaRr18C
import Derived.Test.YtjlbabikogdknaaMaps
namespace Go.Proofs.Ytjlbabikogdknaa
open Go.RowKit
set_option maxRecDepth 100000 in
set_option maxHeartbeats 1000000 in
theorem clS_raw (b : Nat) (es : Array MapEntry) (clock : Nat) (w : World) (hb : w.heap[b]? = some (.map es clock)) :
    Calls Try.prog 28 #[.map (some b)] w fun e w' => e = .returned (.map (some w.heap.size)) ∧ w' = w.alloc (.map es clock) := by
  have hq := fun w => run_eql_map_nil (P := Try.prog) w 50 9 3 (some b) Try.underlying50
  go_enter Try.func28, Try.ntmps28
  go_wp2
  rw [run_callFunc_extern Try.func34 (by kernel_rfl) (by kernel_rfl) (by kernel_rfl) (e := Extern.MapsClone.clone) (by kernel_rfl), run_maps_clone w 50 hb]
  simp only [Result.andThen]
  rw [Oper.upon_value]
  go_wp2
  rw [run_typeAssert_map _ 50 20 _ _ _ Try.underlying50]
  simp only [Result.andThen]
  rw [Oper.upon_value]
  go_wp2
  go_ret
  exact ⟨rfl, rfl⟩
/-- a map and its clone -/
theorem clS_any {κ ν : Type} {encK : κ → Value} {encV : ν → Value} {l : List (κ × ν)} (b : Nat) (w : World) (hm : MapAt w b encK encV l) :
    Calls Try.prog 28 #[.map (some b)] w fun e w' => ∃ c, e = .returned (.map (some c)) ∧ MapAt w' c encK encV l ∧ Upd [] w w' ∧ w.heap.size ≤ c := by
  obtain ⟨es, clock, hb, h1, h2⟩ := hm
  refine (clS_raw b es clock w hb).mono ?_
  rintro e w' ⟨rfl, rfl⟩
  exact ⟨w.heap.size, rfl, ⟨es, clock, heap_alloc_at w _, h1, h2⟩, (Upd.refl _ _).alloc _, Nat.le_refl _⟩
def bothL (r b : Nat) (M : RegL) (q : Nat) (a : Option Addr) (c : Nat) (L : RegL) : List Ck := regL r b M ++ rrL q a c L
theorem slice_addr {va : Option Addr} {n c n' c' : Nat} {ad : Addr} (h : Value.slice va n c = .slice (some ad) n' c') : va = some ad := by
  simp only [Value.slice.injEq] at h; exact h.1
theorem acts_off {W w : World} {G : List Ck} (H : Sat W G w) (is : List Nat) (j : Nat) {B : List Ck} (hB : (is.filterMap fun i => G[i]?) = B) (hj : G[j]? = some (restC W fun _ => False)) (hne : is.all (fun i => !Nat.beq i j) = true) {va : Option Addr} {vc : Nat} {ls : List ActS} (hv : ListAt encA 3 W (.slice va ls.length vc) ls) : 0 < ls.length → ∀ a, va = some a → ¬ (sepC B).fp a.block := by
  intro h0 a ha hfp
  obtain ⟨vb, vo, vc', hva, hvs⟩ := hv.cells encA_len (by decide) h0
  simp only [Value.slice.injEq] at hva
  obtain ⟨h1, _, _⟩ := hva
  rw [h1] at ha
  obtain rfl := (Option.some.inj ha)
  obtain ⟨u, hu⟩ : ∃ u, (ls.flatMap encA)[0]? = some u := by
    match ls, h0 with
    | x :: l, _ => exact ⟨_, rfl⟩
  have hc := hvs 0 u hu
  rw [Addr.add_lit] at hc
  have hlt := World.block_lt_of_cell? W _ hc
  subst hB
  obtain ⟨A, hA, hAf⟩ := hfp
  obtain ⟨i, hi, he⟩ := List.mem_filterMap.1 hA
  have hij : Nat.beq i j = false := by simpa using List.all_eq_true.1 hne i hi
  exact H.apart i j he hj hij _ hAf ⟨hlt, fun h => h⟩
end Go.Proofs.Ytjlbabikogdknaa
