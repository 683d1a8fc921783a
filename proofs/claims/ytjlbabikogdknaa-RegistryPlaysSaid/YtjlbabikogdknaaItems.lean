/- WHAT IS PROVED: slices.Sorted(maps.Keys(m)) over a map with texts as keys: the keys, sorted, in a list of the call's own. Conditions: stated with each. -/
import Derived.Test.YtjlbabikogdknaaLaid18
import Derived.Test.YtjlbabikogdknaaLists
namespace Go.Proofs.Ytjlbabikogdknaa
open Go.RowKit Go.Maps Go.Sort Go.Shelf Go.WideElems Go.MapKept
def Rany (_ : Value) : Option (DataW Unit × List MemPlace) := some (.nil, [])
/-- the keys of a map, sorted -/
def sortK {ν : Type} (l : List (List UInt8 × ν)) : List (List UInt8) := (l.map (·.1)).mergeSort fun x y => decide (x ≤ y)
theorem map_strV_inj : ∀ a b : List (List UInt8), a.map strV = b.map strV → a = b
  | [], [], _ => rfl
  | [], _ :: _, h => by simp at h
  | _ :: _, [], h => by simp at h
  | x :: a, y :: b, h => by
    simp only [List.map_cons, List.cons.injEq] at h
    rw [strV_inj h.1, map_strV_inj a b h.2]
theorem own_of_mapAt {P : Program} {k : TypeId} (hk : P.underlying k = some .string) {w : World} {b : Nat} {ν : Type} {encV : ν → Value} {l : List (List UInt8 × ν)} (h : MapAt w b strV encV l) (hl : l.length ≤ 1000000) (hs : ∀ x ∈ l, x.1.length ≤ 1000000) :
    ∃ D0 : DataW Unit, w.ownsMap P k Rany b l.length D0 ∧ Maps.size D0 = l.length ∧ ∀ ss : List (List UInt8), ss.Perm (strKeys D0) → ss.Perm (l.map (·.1)) := by
  obtain ⟨es, clock, hb, he, hn, hp, hc⟩ := h
  have hlen : es.toList.length = l.length := by have := congrArg List.length he; simpa using this
  have hkeys := MapAt.keys he
  have hread : ∀ x ∈ es.toList, ∃ s : List UInt8, x.key = strV s ∧ s.length ≤ 1000000 := fun x hx => by
    have h1 : x.key ∈ (l.map (·.1)).map strV := by rw [← hkeys]; exact List.mem_map_of_mem hx
    obtain ⟨s, hs1, hs2⟩ := List.mem_map.1 h1
    obtain ⟨y, hy, rfl⟩ := List.mem_map.1 hs1
    exact ⟨_, hs2.symm, hs y hy⟩
  have hkey : ∀ s : List UInt8, s.length ≤ 1000000 → keyOf P k (strV s) = some (.string s) := fun s hs => by
    simp only [strV, keyOf, hk, mapKey]
    have : (⟨s.toArray⟩ : ByteArray).size = s.length := rfl
    rw [if_pos (by unfold maxLen; omega)]
  have F : Fit P k Rany es clock := ⟨by have : es.size = l.length := (by simpa using hlen); unfold maxLen; omega, (stamped_iff es clock).2 ⟨hc, hp.imp (fun h => Nat.ne_of_lt h), by
      have h2 : (es.toList.map (·.key)).Pairwise (· ≠ ·) := by rw [hkeys]; exact List.pairwise_map.2 (hn.imp fun h e => h (strV_inj e))
      exact List.pairwise_map.1 h2⟩, fun x hx => by
    obtain ⟨s, h1, h2⟩ := hread x hx
    exact ⟨_, by unfold WideElems.rd; rw [h1, hkey s h2]; rfl⟩⟩
  refine ⟨.map ((es.toList.map (rg P k Rany)).foldr DataW.insert []), ⟨es, clock, hb, F, by have : es.size = l.length := (by simpa using hlen); omega, rfl⟩, ?_, fun ss hss => hss.trans ?_⟩
  · rw [size_eq, length_sorted, List.length_map, hlen]
  · refine ((Go.WideShapes.sorted_perm _).map fun p => strOf p.1).trans ?_
    have : (es.toList.map (rg P k Rany)).map (fun p => strOf p.1) = l.map (·.1) := by
      refine map_strV_inj _ _ ?_
      rw [← hkeys, List.map_map, List.map_map]
      refine List.map_congr_left fun x hx => ?_
      obtain ⟨s, h1, h2⟩ := hread x hx
      have : WideElems.rd P k Rany x = some (.string s, .nil) := by unfold WideElems.rd; rw [h1, hkey s h2]; rfl
      show strV (strOf (rg P k Rany x).1) = x.key
      rw [rg_of this, h1]
      rfl
    rw [this]
theorem sorts18 (m : Nat) : AnyZ.SortsIn Try.prog sortedA_ren Fence.wide m :=
  ⟨fun blk off cap ss W hH hblk hsz => callsIn_wide.2 (AnyM.slices_Sort_string sortA blk off cap ss W hH hblk hsz),
   fun p cap W => callsIn_wide.2 (AnyM.slices_Sort_string_none sortA p cap W)⟩
theorem keys18_any (w : World) (b : Nat) : Calls Try.prog 22 #[.map (some b)] w fun e w' => e = .returned (.func (.func 32) #[] #[.pointer (some ⟨w.heap.size, 0, none⟩)]) ∧ w' = w.alloc (.cells #[.map (some b)] 50) :=
  callsIn_wide.1 (AnyZ.keys_in keysA Fence.wide 5 trivial rfl (some b) w)
theorem sorted18_any (w : World) (b bx : Nat) (l : List (List UInt8 × Int)) (hbx : w.cell? ⟨bx, 0, none⟩ = some (.map (some b))) (hm : MapAt w b strV (Value.int .i64) l) (hl : l.length ≤ 1000000) (hs : ∀ x ∈ l, x.1.length ≤ 1000000) :
    Calls Try.prog 21 #[.func (.func 32) #[] #[.pointer (some ⟨bx, 0, none⟩)]] w fun e w' => ∃ u, e = .returned u ∧ (rowC 9 1 u l.length ((sortK l).map strV)).ok w' ∧ Upd [] w w' ∧ ∀ k, u.ownBlock = some k → w.heap.size ≤ k := by
  obtain ⟨D0, hown, hsz, hperm⟩ := own_of_mapAt Try.underlying9 hm hl hs
  have hseq := AnyZ.keys_gives (ρ := keysA_ren) { keysA with } Fence.wide 2 trivial rfl (by omega) bx b l.length D0 w (World.block_lt_of_cell? _ _ hbx) hbx hown
  have cS := AnyZ.sorted_in sortedA Fence.wide 5 trivial trivial trivial trivial rfl (by omega) (sorts18 _) (enters_of Try.func31 (by kernel_rfl) rfl) 32 #[.pointer (some ⟨bx, 0, none⟩)] trivial (enters_of Try.func32 (by kernel_rfl) rfl) _ _ (by rw [hsz]; unfold maxLen; omega) (by rw [hsz]; omega) w hseq
  change CallsIn _ _ Try.prog 21 _ _ _ at cS
  refine (callsIn_wide.1 cS).mono ?_
  rintro e w' ⟨v, ss, rfl, hS, hrow, _, hb⟩
  have h1 := hperm ss hS
  have h2 : ss.length = l.length := by rw [h1.length_eq, List.length_map]
  have h3 : ss.mergeSort (fun x y => decide (x ≤ y)) = sortK l := mergeSort_of_perm h1
  rw [h2, h3] at hrow
  refine ⟨v, rfl, ⟨hrow.1, ?_⟩, Below.upd hb, fun k hk => ?_⟩
  · rcases hrow.2 with hn | ⟨g, cap, cur, hv, hb, rest⟩
    · exact .inl hn
    · exact .inr ⟨g, cap, cur, hv, Nat.zero_le _, rest⟩
  · rcases hrow.2 with ⟨rfl, _⟩ | ⟨g, cap, cur, rfl, hg, _⟩
    · simp [Value.ownBlock] at hk
    · simp [Value.ownBlock] at hk; omega
end Go.Proofs.Ytjlbabikogdknaa
