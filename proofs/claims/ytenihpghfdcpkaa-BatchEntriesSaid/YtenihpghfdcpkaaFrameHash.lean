/- WHAT IS PROVED: how a hash among a law's arguments is opened. Conditions: stated with each. -/
import Derived.Test.YtenihpghfdcpkaaFrame
import Derived.Test.YtenihpghfdcpkaaHash
namespace Go.Proofs.Ytenihpghfdcpkaa
open Go.ChangeShapes Go.WideShapes Go.ChangeAt Go.RowKit Go.Deep
set_option maxRecDepth 100000
section
variable {H : Type} {enc : TypeId × Value → H} {W : World}
theorem hash_cells {n : Nat} {cs : List Value} {y : DataW H × List MemPlace} (h : DataW.trod enc Try.prog W 0 (fun _ => true) true n 37 cs = some y) : ∃ a : Hash, cs = hc a := by
  obtain ⟨xs, m, _, _, hl, hx, hf⟩ := DataW.trod_array (n := 32) (e := 5) (by kernel_rfl) h
  have hl' : cs.length = 32 := hl
  have each : ∀ i, i < 32 → ∃ z : UInt8, cs[i]? = some (byteV z) := by
    intro i hi
    have h1 := hf i hi
    have hxi : xs[i]? = some xs[i] := List.getElem?_eq_getElem (by omega)
    rw [hxi] at h1
    obtain ⟨z, hz, hw⟩ := trod_int_cell (k := .u8) (by kernel_rfl) h1
    have hb := wf_u8 hw
    have h2 : cs[i]? = some (.int .u8 z) := by
      have h3 := congrArg (fun l => l[0]?) hz
      simp only [show Try.prog.cellsOf 5 = 1 by kernel_rfl, Nat.mul_one] at h3
      rw [List.getElem?_take, List.getElem?_drop] at h3
      simpa using h3
    refine ⟨UInt8.ofNat z.toNat, ?_⟩
    have e1 : ((UInt8.ofNat z.toNat).toNat : Int) = z := by simp; omega
    simp only [byteV, e1]
    exact h2
  obtain ⟨zs, hzl, hz⟩ := choose_list 32 each
  refine ⟨⟨zs, hzl⟩, ?_⟩
  rw [hc_eq]
  refine List.ext_getElem (by simp [hl', hzl]) fun i h1 h2 => ?_
  have h3 := hz i (by simpa using h2)
  rw [List.getElem?_eq_getElem h1] at h3
  simpa using h3
theorem open_hash {v : Value} {d : DataW H} {ps : List MemPlace} (hv : ∃ cs, v = .agg cs) (h : DataW.Trod enc Try.prog W 0 (fun _ => true) true 37 v d ps) : ∃ a : Hash, v = .agg ⟨hc a⟩ := by
  obtain ⟨cs, rfl⟩ := hv
  obtain ⟨fuel, h⟩ := h
  obtain ⟨a, ha⟩ := hash_cells h
  exact ⟨a, by cases cs; simp [Value.cells] at ha; rw [ha]⟩
end
theorem okWide_agg {P : Program} {w : World} {r : Reach} {base : Nat} {t : TypeId} {v : Value} (ht : aggTy P t = true) (h : Value.okWide P w r base t v) : ∃ cs, v = .agg cs := by
  unfold aggTy at ht
  unfold Value.okWide at h
  split at ht
  · rename_i hu; rw [hu] at h; obtain ⟨cs, h1, _⟩ := h; exact ⟨cs, h1⟩
  · rename_i hu; rw [hu] at h; obtain ⟨cs, h1, _⟩ := h; exact ⟨cs, h1⟩
  · cases ht
end Go.Proofs.Ytenihpghfdcpkaa
