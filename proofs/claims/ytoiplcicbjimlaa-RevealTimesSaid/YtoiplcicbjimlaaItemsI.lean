/- WHAT IS PROVED: slices.Sorted(maps.Keys(m)) over a map with ints as keys: the keys, sorted, in a list of the call's own. Conditions: stated with each. -/
import Derived.Test.YtoiplcicbjimlaaLaid16
import Derived.Test.YtoiplcicbjimlaaLists
import Derived.Test.YtoiplcicbjimlaaRevG
namespace Go.Proofs.Ytoiplcicbjimlaa
open Go.RowKit Go.Maps Go.Sort Go.Shelf Go.WideElems Go.MapKept
def RanyI (_ : Value) : Option (DataW Unit × List MemPlace) := some (.nil, [])
/-- the keys of a map, sorted -/
def sortI {ν : Type} (l : List (Int × ν)) : List Int := (l.map (·.1)).mergeSort fun x y => decide (x ≤ y)
def I64 (z : Int) : Prop := -9223372036854775808 ≤ z ∧ z ≤ 9223372036854775807
theorem map_encZ_inj : ∀ a b : List Int, a.map encZ = b.map encZ → a = b
  | [], [], _ => rfl
  | [], _ :: _, h => by simp at h
  | _ :: _, [], h => by simp at h
  | x :: a, y :: b, h => by
    simp only [List.map_cons, List.cons.injEq] at h
    rw [encZ_inj h.1, map_encZ_inj a b h.2]
theorem own_of_mapAtI {P : Program} {k : TypeId} (hk : P.underlying k = some (.int .i64)) {w : World} {b : Nat} {ν : Type} {encV : ν → Value} {l : List (Int × ν)} (h : MapAt w b (Value.int .i64) encV l) (hl : l.length ≤ 1000000) (hs : ∀ x ∈ l, I64 x.1) :
    ∃ D0 : DataW Unit, w.ownsMap P k RanyI b l.length D0 ∧ Maps.size D0 = l.length ∧ ∀ ss : List Int, ss.Perm (intKeys D0) → ss.Perm (l.map (·.1)) := by
  obtain ⟨es, clock, hb, he, hn, hp, hc⟩ := h
  have hlen : es.toList.length = l.length := by have := congrArg List.length he; simpa using this
  have hkeys := MapAt.keys he
  have hread : ∀ x ∈ es.toList, ∃ s : Int, x.key = encZ s ∧ I64 s := fun x hx => by
    have h1 : x.key ∈ (l.map (·.1)).map encZ := by rw [← hkeys]; exact List.mem_map_of_mem hx
    obtain ⟨s, hs1, hs2⟩ := List.mem_map.1 h1
    obtain ⟨y, hy, rfl⟩ := List.mem_map.1 hs1
    exact ⟨_, hs2.symm, hs y hy⟩
  have hkey : ∀ s : Int, I64 s → keyOf P k (encZ s) = some (.int .i64 s) := fun s hs => by
    simp only [encZ, keyOf, hk, mapKey]
    rw [if_pos ⟨trivial, by simp only [Lit.wf, IntKind.min, IntKind.max, IntKind.signed, IntKind.bits, Bool.and_eq_true, decide_eq_true_eq]; exact hs⟩]
  have F : Fit P k RanyI es clock := ⟨by have : es.size = l.length := (by simpa using hlen); unfold maxLen; omega, (stamped_iff es clock).2 ⟨hc, hp.imp (fun h => Nat.ne_of_lt h), by
      have h2 : (es.toList.map (·.key)).Pairwise (· ≠ ·) := by rw [hkeys]; exact List.pairwise_map.2 (hn.imp fun h e => h (encZ_inj e))
      exact List.pairwise_map.1 h2⟩, fun x hx => by
    obtain ⟨s, h1, h2⟩ := hread x hx
    exact ⟨_, by unfold WideElems.rd; rw [h1, hkey s h2]; rfl⟩⟩
  refine ⟨.map ((es.toList.map (rg P k RanyI)).foldr DataW.insert []), ⟨es, clock, hb, F, by have : es.size = l.length := (by simpa using hlen); omega, rfl⟩, ?_, fun ss hss => hss.trans ?_⟩
  · rw [size_eq, length_sorted, List.length_map, hlen]
  · refine ((Go.WideShapes.sorted_perm _).map fun p => Go.intOf p.1).trans ?_
    have : (es.toList.map (rg P k RanyI)).map (fun p => Go.intOf p.1) = l.map (·.1) := by
      refine map_encZ_inj _ _ ?_
      rw [← hkeys, List.map_map, List.map_map]
      refine List.map_congr_left fun x hx => ?_
      obtain ⟨s, h1, h2⟩ := hread x hx
      have : WideElems.rd P k RanyI x = some (.int .i64 s, .nil) := by unfold WideElems.rd; rw [h1, hkey s h2]; rfl
      show encZ (Go.intOf (rg P k RanyI x).1) = x.key
      rw [rg_of this, h1]
      rfl
    rw [this]
theorem sorts16 (m : Nat) : AnyZI.SortsIn Try.prog sortedA_ren Fence.wide m :=
  ⟨fun blk off cap ss W hH hblk hsz => callsIn_wide.2 (AnyM.slices_Sort_int sortA blk off cap ss W hH hblk hsz),
   fun p cap W => callsIn_wide.2 (AnyM.slices_Sort_int_none sortA p cap W)⟩
def encI (x : Int) : List Value := [.int .i64 x]
theorem encI_len (x : Int) : (encI x).length = 1 := rfl
theorem encI_one (x : Int) : (encI x).all (·.oneCell') = true := rfl
theorem sortPK_any (w : World) (b : Nat) : Calls Try.prog 49 #[.map (some b)] w fun e w' => e = .returned (.func (.func 65) #[] #[.pointer (some ⟨w.heap.size, 0, none⟩)]) ∧ w' = w.alloc (.cells #[.map (some b)] 84) :=
  callsIn_wide.1 (AnyZI.keys_in keysP Fence.wide 5 trivial rfl (some b) w)
theorem sortPS_any {ν : Type} {encV : ν → Value} (w : World) (b bx : Nat) (l : List (Int × ν)) (hbx : w.cell? ⟨bx, 0, none⟩ = some (.map (some b))) (hm : MapAt w b (Value.int .i64) encV l) (hl : l.length ≤ 1000000) (hs : ∀ x ∈ l, I64 x.1) :
    Calls Try.prog 43 #[.func (.func 65) #[] #[.pointer (some ⟨bx, 0, none⟩)]] w fun e w' => ∃ u, e = .returned u ∧ (rowC 3 1 u (sortI l).length ((sortI l).flatMap encI)).ok w' ∧ Upd [] w w' ∧ ∀ k, u.ownBlock = some k → w.heap.size ≤ k := by
  obtain ⟨D0, hown, hsz, hperm⟩ := own_of_mapAtI Try.underlying3 hm hl hs
  have hseq := AnyZI.keys_gives (ρ := keysP_ren) { keysP with } Fence.wide 2 trivial rfl (by omega) bx b l.length D0 w (World.block_lt_of_cell? _ _ hbx) hbx hown
  have cS := AnyZI.sorted_in sortedA Fence.wide 5 trivial trivial trivial trivial rfl (by omega) (sorts16 _) (enters_of Try.func57 (by kernel_rfl) rfl) 65 #[.pointer (some ⟨bx, 0, none⟩)] trivial (enters_of Try.func65 (by kernel_rfl) rfl) _ _ (by rw [hsz]; unfold maxLen; omega) (by rw [hsz]; omega) w hseq
  change CallsIn _ _ Try.prog 43 _ _ _ at cS
  refine (callsIn_wide.1 cS).mono ?_
  rintro e w' ⟨v, ss, rfl, hS, hrow, _, hb⟩
  have h1 := hperm ss hS
  have h2 : ss.length = (sortI l).length := by unfold sortI; rw [List.length_mergeSort, h1.length_eq]
  have h3 : ss.mergeSort (fun x y => decide (x ≤ y)) = sortI l := mergeSort_of_perm_i h1
  have h4 : (sortI l).map encZ = (sortI l).flatMap encI := by rw [List.map_eq_flatMap]; rfl
  rw [h2, h3, h4] at hrow
  refine ⟨v, rfl, ⟨hrow.1, ?_⟩, Below.upd hb, fun k hk => ?_⟩
  · rcases hrow.2 with hn | ⟨g, cap, cur, hv, hb, rest⟩
    · exact .inl hn
    · exact .inr ⟨g, cap, cur, hv, Nat.zero_le _, rest⟩
  · rcases hrow.2 with ⟨rfl, _⟩ | ⟨g, cap, cur, rfl, hg, _⟩
    · simp [Value.ownBlock] at hk
    · simp [Value.ownBlock] at hk; omega
theorem sortNK_any (w : World) (b : Nat) : Calls Try.prog 44 #[.map (some b)] w fun e w' => e = .returned (.func (.func 58) #[] #[.pointer (some ⟨w.heap.size, 0, none⟩)]) ∧ w' = w.alloc (.cells #[.map (some b)] 87) :=
  callsIn_wide.1 (AnyZI.keys_in keysN Fence.wide 5 trivial rfl (some b) w)
theorem sortNS_any {ν : Type} {encV : ν → Value} (w : World) (b bx : Nat) (l : List (Int × ν)) (hbx : w.cell? ⟨bx, 0, none⟩ = some (.map (some b))) (hm : MapAt w b (Value.int .i64) encV l) (hl : l.length ≤ 1000000) (hs : ∀ x ∈ l, I64 x.1) :
    Calls Try.prog 43 #[.func (.func 58) #[] #[.pointer (some ⟨bx, 0, none⟩)]] w fun e w' => ∃ u, e = .returned u ∧ (rowC 3 1 u (sortI l).length ((sortI l).flatMap encI)).ok w' ∧ Upd [] w w' ∧ ∀ k, u.ownBlock = some k → w.heap.size ≤ k := by
  obtain ⟨D0, hown, hsz, hperm⟩ := own_of_mapAtI Try.underlying3 hm hl hs
  have hseq := AnyZI.keys_gives (ρ := keysN_ren) { keysN with } Fence.wide 2 trivial rfl (by omega) bx b l.length D0 w (World.block_lt_of_cell? _ _ hbx) hbx hown
  have cS := AnyZI.sorted_in sortedA Fence.wide 5 trivial trivial trivial trivial rfl (by omega) (sorts16 _) (enters_of Try.func57 (by kernel_rfl) rfl) 58 #[.pointer (some ⟨bx, 0, none⟩)] trivial (enters_of Try.func58 (by kernel_rfl) rfl) _ _ (by rw [hsz]; unfold maxLen; omega) (by rw [hsz]; omega) w hseq
  change CallsIn _ _ Try.prog 43 _ _ _ at cS
  refine (callsIn_wide.1 cS).mono ?_
  rintro e w' ⟨v, ss, rfl, hS, hrow, _, hb⟩
  have h1 := hperm ss hS
  have h2 : ss.length = (sortI l).length := by unfold sortI; rw [List.length_mergeSort, h1.length_eq]
  have h3 : ss.mergeSort (fun x y => decide (x ≤ y)) = sortI l := mergeSort_of_perm_i h1
  have h4 : (sortI l).map encZ = (sortI l).flatMap encI := by rw [List.map_eq_flatMap]; rfl
  rw [h2, h3, h4] at hrow
  refine ⟨v, rfl, ⟨hrow.1, ?_⟩, Below.upd hb, fun k hk => ?_⟩
  · rcases hrow.2 with hn | ⟨g, cap, cur, hv, hb, rest⟩
    · exact .inl hn
    · exact .inr ⟨g, cap, cur, hv, Nat.zero_le _, rest⟩
  · rcases hrow.2 with ⟨rfl, _⟩ | ⟨g, cap, cur, rfl, hg, _⟩
    · simp [Value.ownBlock] at hk
    · simp [Value.ownBlock] at hk; omega
theorem sortI_perm {ν : Type} (l : List (Int × ν)) : (sortI l).Perm (l.map (·.1)) := List.mergeSort_perm _ _
theorem sortI_len {ν : Type} (l : List (Int × ν)) : (sortI l).length = l.length := by rw [(sortI_perm l).length_eq, List.length_map]
theorem sortI_mem {ν : Type} {l : List (Int × ν)} {x : Int} : x ∈ sortI l ↔ x ∈ l.map (·.1) := (sortI_perm l).mem_iff
theorem sortI_nodup {ν : Type} {l : List (Int × ν)} (h : (l.map (·.1)).Nodup) : (sortI l).Nodup := (sortI_perm l).nodup_iff.2 h
theorem sortI_le {ν : Type} (l : List (Int × ν)) : (sortI l).Pairwise (· ≤ ·) := by
  have tr : ∀ a b c : Int, (decide (a ≤ b)) = true → (decide (b ≤ c)) = true → (decide (a ≤ c)) = true := fun a b c h1 h2 => by simp only [decide_eq_true_eq] at *; omega
  have to : ∀ a b : Int, (decide (a ≤ b) || decide (b ≤ a)) = true := fun a b => by simp only [Bool.or_eq_true, decide_eq_true_eq]; omega
  exact (List.pairwise_mergeSort tr to (l.map (·.1))).imp fun h => of_decide_eq_true h
theorem sortI_lt {ν : Type} {l : List (Int × ν)} (h : (l.map (·.1)).Nodup) : (sortI l).Pairwise (· < ·) := by
  have h1 := sortI_le l
  have h2 := sortI_nodup h
  exact List.Pairwise.imp₂ (fun a b h3 h4 => by omega) h1 h2
theorem sortI_keys {ν μ : Type} {l : List (Int × ν)} {m : List (Int × μ)} (h : l.map (·.1) = m.map (·.1)) : sortI l = sortI m := by unfold sortI; rw [h]
end Go.Proofs.Ytoiplcicbjimlaa
