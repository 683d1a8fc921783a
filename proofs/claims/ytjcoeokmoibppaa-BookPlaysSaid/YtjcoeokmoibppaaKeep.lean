/- WHAT IS PROVED: the contracts of package gavelkeep's small functions on numbers and bytes. Conditions: stated with each. -/
import Derived.Test.YtjcoeokmoibppaaReg
import Derived.StillTailTactics
namespace Go.Proofs.Ytjcoeokmoibppaa
open Go.RowKit

def within (v n : Int) : Int := if n < 1 then 0 else if v.tmod n < 0 then v.tmod n + n else v.tmod n
theorem tmod_bd (v n : Int) (h : ¬ n < 1) : -n < v.tmod n ∧ v.tmod n < n := by
  have h1 := Int.tmod_lt_of_pos v (show 0 < n by omega)
  have h2 := Int.lt_tmod_of_pos v (show 0 < n by omega)
  omega
theorem within_bd (v n : Int) (h : 1 ≤ n) : 0 ≤ within v n ∧ within v n < n := by
  have := tmod_bd v n (by omega)
  unfold within
  rw [if_neg (by omega)]
  split <;> omega
set_option maxHeartbeats 400000 in
theorem within_any (v n : Int) (w : World) (_hv : -9223372036854775808 ≤ v ∧ v ≤ 9223372036854775807) (hn : -9223372036854775808 ≤ n ∧ n ≤ 9223372036854775807) :
    Calls Try.prog 14 #[.int .i64 v, .int .i64 n] w fun e w' => e = .returned (.int .i64 (within v n)) ∧ w = w' := by
  unfold within
  by_cases h : n < 1
  · go_enter Try.func14, Try.ntmps14
    go_wp2
    go_ret
    exact ⟨by simp, rfl⟩
  · have hb := tmod_bd v n h
    by_cases h2 : v.tmod n < 0
    · go_enter Try.func14, Try.ntmps14
      go_wp2
      go_ret
      exact ⟨by simp, rfl⟩
    · go_enter Try.func14, Try.ntmps14
      go_wp2
      go_ret
      exact ⟨by simp, rfl⟩

theorem infoU8 : (Try.prog.info? 5).map (fun i => (i.zero, i.size, i.bytes)) = some (some (.int .u8 0), 1, 1) := by kernel_rfl
set_option maxHeartbeats 400000 in
/-- bytes in new memory -/
theorem copy_bytes (w : World) (v : Value) (s : List UInt8) (hv : BytesAt w v s) (hs : s.length ≤ 1000000000) :
    Calls Try.prog 18 #[v] w fun e w' => ∃ v', e = .returned v' ∧ w'.ownsRow w.heap.size 5 1 v' s.length (s.map byteV) ∧ Upd [] w w' := by
  obtain ⟨i0, hi, hz0, hz1, hz2⟩ := info_parts infoU8
  have h0 := World.ownsRow_nil w w.heap.size 5 1
  have key : ∃ v' w', (Builtin.append_ #[27, 27] 27 #[.slice none 0 0, v]).run Try.prog w = .ok v' w' ∧ w'.ownsRow w.heap.size 5 1 v' s.length (s.map byteV) ∧ Upd [] w w' := by
    have gen : ∀ (ad : Addr) (c : Nat), (∀ i, i < s.length → w.cell? (ad.add i) = some (.int .u8 (s.getD i 0).toNat)) →
        ∃ v' w', (Builtin.append_ #[27, 27] 27 #[.slice none 0 0, .slice (some ad) s.length c]).run Try.prog w = .ok v' w' ∧ w'.ownsRow w.heap.size 5 1 v' s.length (s.map byteV) ∧ Upd [] w w' := by
      intro ad c hc
      obtain ⟨v', w', hr, ho, hg, _⟩ := run_append_own (P := Try.prog) w w.heap.size 27 27 5 i0 (.int .u8 0) 1 1 Try.underlying27 hi hz0 hz1 hz2 rfl (by decide) _ 0 [] h0 ad s.length c (s.map byteV)
        (by simp) (fun j u hj => by
          have hjl : j < s.length := by
            rcases Nat.lt_or_ge j s.length with h | h
            · exact h
            · rw [List.getElem?_eq_none (by simpa using h)] at hj; cases hj
          rw [hc j hjl]
          simp only [List.getElem?_map, List.getElem?_eq_getElem hjl, Option.map_some, Option.some.injEq] at hj
          subst hj
          simp [byteV, List.getD, List.getElem?_eq_getElem hjl]) (fun u hu => by obtain ⟨x, _, rfl⟩ := List.mem_map.1 hu; rfl) (by unfold maxLen; omega) (by omega) (Nat.le_refl _)
      exact ⟨v', w', hr, by simpa using ho, (Upd.refl _ _).grown hg (fun k hk => by simp [Value.ownBlock] at hk)⟩
    rcases hv with ⟨a, cap, rfl, rfl, _, ha⟩ | ⟨_, b, off, cap, rfl, _, hc⟩
    · cases a with
      | none =>
        obtain rfl := ha rfl
        exact ⟨_, _, run_append_owned_none (P := Try.prog) (w := w) w.heap.size 27 27 5 i0 1 Try.underlying27 hi _ 0 [] h0, h0, Upd.refl _ _⟩
      | some ad => exact gen ad cap (fun i hi => by simp at hi)
    · exact gen ⟨b, off, none⟩ cap (fun i hi => by
        have := hc i hi
        simp only [CellU8, Nat.mul_one, byteV] at this
        rw [Addr.add_lit, this]
        simp [List.getD, List.getElem?_eq_getElem hi])
  obtain ⟨v', w', hr, ho, hu⟩ := key
  go_enter Try.func18, Try.ntmps18
  go_wp2_with (at_builtin; refine wpList_append_run rfl _ _ _ rfl hr rfl rfl rfl ?_)
  go_ret
  exact ⟨v', rfl, ho, hu⟩

set_option maxHeartbeats 400000 in
/-- at most n bytes, in new memory -/
theorem cut_bytes (w : World) (v : Value) (s : List UInt8) (n : Nat) (hv : BytesAt w v s) (hn : n ≤ 1000000000) :
    Calls Try.prog 8 #[v, .int .i64 n] w fun e w' => ∃ v', e = .returned v' ∧ w'.ownsRow w.heap.size 5 1 v' (s.take n).length ((s.take n).map byteV) ∧ Upd [] w w' := by
  by_cases h0 : s.length = 0
  · obtain rfl : s = [] := List.eq_nil_of_length_eq_zero h0
    clear h0
    have hcp := copy_bytes w v [] hv (by simp)
    rcases hv with ⟨a, cap, rfl, _, hcap, ha⟩ | ⟨h, _⟩
    · unfold maxLen at hcap
      have hs0 : a.map (·.add 0) = a := by cases a <;> simp [Addr.add]
      go_enter Try.func8, Try.ntmps8
      go_wp2_with fail
      refine hcp.mono ?_
      rintro e w' ⟨v', rfl, h1, h2⟩
      go_wp2_with fail
      go_ret
      exact ⟨v', rfl, by simpa using h1, h2⟩
    · simp at h
  · obtain ⟨b, off, cap, rfl, ⟨h1, h2⟩, hc⟩ := hv.some (by omega)
    have hcp := copy_bytes w _ (s.take n) (SliceOf.take hv n) (by rw [List.length_take]; omega)
    clear hv hc
    unfold maxLen at h2
    by_cases h : n < s.length
    · rw [Nat.min_eq_right (by omega)] at hcp
      go_enter Try.func8, Try.ntmps8
      go_wp2_with fail
      refine hcp.mono ?_
      rintro e w' ⟨v', rfl, h1, h2⟩
      go_wp2_with fail
      go_ret
      exact ⟨v', rfl, h1, h2⟩
    · rw [Nat.min_eq_left (by omega)] at hcp
      go_enter Try.func8, Try.ntmps8
      go_wp2_with fail
      refine hcp.mono ?_
      rintro e w' ⟨v', rfl, h1, h2⟩
      go_wp2_with fail
      go_ret
      exact ⟨v', rfl, h1, h2⟩

theorem same_take (s t : List UInt8) (k : Nat) (hk : k < s.length) (hl : s.length = t.length) : s.take (k + 1) = t.take (k + 1) ↔ s.take k = t.take k ∧ s.getD k 0 = t.getD k 0 := by
  have hk' : k < t.length := by omega
  rw [List.take_succ_eq_append_getElem hk, List.take_succ_eq_append_getElem hk']
  simp only [List.getD, List.getElem?_eq_getElem hk, List.getElem?_eq_getElem hk', Option.getD_some]
  constructor
  · intro h
    have := List.append_inj h (by simp; omega)
    simpa using this
  · rintro ⟨h1, h2⟩
    rw [h1, h2]

theorem u8_ne (x y : UInt8) : ((x.toNat : Int) != y.toNat) = !decide (x = y) := by
  have e : ((x.toNat : Int) = y.toNat) ↔ x = y := ⟨fun h => UInt8.toNat_inj.1 (by omega), fun h => h ▸ rfl⟩
  by_cases h : x = y
  · subst h; simp
  · have : ¬ ((x.toNat : Int) = y.toNat) := fun h' => h (e.1 h')
    simp [h, bne, this]

set_option maxHeartbeats 1000000 in
/-- the same bytes? -/
theorem same_bytes (w : World) (v u : Value) (s t : List UInt8) (hv : BytesAt w v s) (hu : BytesAt w u t) (hs : s.length ≤ 1000000000) (ht : t.length ≤ 1000000000) :
    Calls Try.prog 10 #[v, u] w fun e w' => e = .returned (.bool (decide (s = t))) ∧ ∃ n, w' = w.drewN n := by
  by_cases hl : s.length = t.length
  · by_cases h0 : 0 < s.length
    · obtain ⟨b, off, cap, rfl, _, hc⟩ := hv.some h0
      obtain ⟨b', off', cap', rfl, _, hc'⟩ := hu.some (by omega)
      rw [← hl]
      have HL : Hid (s.length = t.length) := hl
      have HC : Hid (∀ i, i < s.length → w.cell? ⟨b, off + i, none⟩ = some (.int .u8 (s.getD i 0).toNat)) := hc
      have HC' : Hid (∀ i, i < t.length → w.cell? ⟨b', off' + i, none⟩ = some (.int .u8 (t.getD i 0).toNat)) := hc'
      clear hl hc hc' hv hu
      go_enter Try.func10, Try.ntmps10
      go_wp2
      go_loopw [5] (fun i wr => ∃ k n : Nat, k ≤ s.length ∧ i = .int .i64 k ∧ wr = w.drewN n ∧ Hid (s.take k = t.take k)) (fun i _ => s.length - (intOf i).toNat)
      case atStart => exact ⟨0, 0, Nat.zero_le _, rfl, rfl, rfl⟩
      case round =>
        obtain ⟨k, n, hk, rfl, rfl, HT⟩ := hrel
        by_cases hlt : k < s.length
        · have c1 := HC.out k hlt
          have c2 := HC'.out k (HL.out ▸ hlt)
          have hx := u8_ne (s.getD k 0) (t.getD k 0)
          have hst := same_take s t k hlt HL.out
          have HST : Hid (s.take (k + 1) = t.take (k + 1) ↔ s.take k = t.take k ∧ s.getD k 0 = t.getD k 0) := hst
          clear hst
          generalize s.getD k 0 = x at *
          generalize t.getD k 0 = y at *
          by_cases hxy : x = y
          · subst hxy
            clear hx
            go_wp2
            go_quiet (fail)
            go_wp2
            exact ⟨⟨k + 1, n + nq, by omega, by go_num, rfl, HST.out.2 ⟨HT.out, trivial⟩⟩, by simp [intOf]; omega⟩
          · have hx : ((x.toNat : Int) != y.toNat) = true := by rw [hx]; simp [hxy]
            go_wp2
            go_quiet (fail)
            go_wp2
            go_ret
            refine ⟨?_, n + nq, by simp⟩
            have : ¬ s = t := fun h => hxy (HST.out.1 (by rw [h])).2
            simp [this]
        · obtain rfl : k = s.length := by omega
          go_wp2
          go_ret
          refine ⟨?_, n, rfl⟩
          have h1 := HT.out
          rw [List.take_length, List.take_of_length_le (by rw [HL.out]; exact Nat.le_refl _)] at h1
          simp [h1]
    · have hs0 : s = [] := List.eq_nil_of_length_eq_zero (by omega)
      have ht0 : t = [] := List.eq_nil_of_length_eq_zero (by omega)
      subst hs0 ht0
      obtain ⟨av, cv, rfl⟩ := hv.len
      obtain ⟨au, cu, rfl⟩ := hu.len
      clear hv hu
      go_enter Try.func10, Try.ntmps10
      go_wp2
      go_loopw [5] (fun i wr => i = .int .i64 0 ∧ wr = w) (fun i _ => 0)
      case atStart => exact ⟨rfl, rfl⟩
      case round =>
        obtain ⟨rfl, rfl⟩ := hrel
        go_wp2
        go_ret
        exact ⟨by simp, 0, rfl⟩
  · have hln : ((s.length : Int) != t.length) = true := by simp; omega
    obtain ⟨av, cv, rfl⟩ := hv.len
    obtain ⟨au, cu, rfl⟩ := hu.len
    go_enter Try.func10, Try.ntmps10
    go_wp2
    go_ret
    refine ⟨?_, 0, rfl⟩
    have : ¬ s = t := fun h => hl (by rw [h])
    simp [this]
end Go.Proofs.Ytjcoeokmoibppaa
