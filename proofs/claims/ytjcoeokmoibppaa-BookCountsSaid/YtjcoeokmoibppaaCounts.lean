/- WHAT IS PROVED: BookCounts answers true whatever its input. No condition. -/
import Derived.Test.YtjcoeokmoibppaaWakes03
import Derived.Deep.RegionWith
import Derived.Deep.DeepCutAuto
import Derived.Deep.RegionHeld3
namespace Go.Proofs.Ytjcoeokmoibppaa
open Go.RowKit

/-- the i-th signed text of BookCounts -/
def cntAt (S i : Nat) : Signed := ⟨((i % S : Nat) : Int), [UInt8.ofNat (i / S)]⟩
def cntL (S k : Nat) : List Signed := (List.range k).map (cntAt S)
theorem cntAt_inj {S i j : Nat} (_hS : 0 < S) (hi : i / S < 256) (hj : j / S < 256) (h : cntAt S i = cntAt S j) : i = j := by
  unfold cntAt at h
  injection h with h1 h2
  have h3 : i / S = j / S := by
    simp only [List.cons.injEq, and_true] at h2
    have := congrArg UInt8.toNat h2
    simpa [Nat.mod_eq_of_lt hi, Nat.mod_eq_of_lt hj] using this
  have h4 : i % S = j % S := by omega
  rw [← Nat.div_add_mod i S, ← Nat.div_add_mod j S, h3, h4]
theorem cntL_succ (S k : Nat) : cntL S (k + 1) = cntL S k ++ [cntAt S k] := by simp [cntL, List.range_succ]
theorem cntL_len (S k : Nat) : (cntL S k).length = k := by simp [cntL]
theorem div_lt {S T i : Nat} (hT : T ≤ 5) (hi : i < S * T) : i / S < 256 := by
  have : i / S < T := Nat.div_lt_of_lt_mul hi
  omega
theorem cntL_new {S T k : Nat} (hS : 0 < S) (hT : T ≤ 5) (hk : k < S * T) : cntAt S k ∉ cntL S k := by
  intro h
  obtain ⟨i, hi, he⟩ := List.mem_map.1 h
  have hi' := List.mem_range.1 hi
  have := cntAt_inj hS (div_lt hT (by omega)) (div_lt hT hk) he
  omega

theorem markOf_at {S T j k : Nat} (hS : 0 < S) (hT : T ≤ 5) (hk : k = S * T) (hj : j < k) : cntAt S j ∈ cntL S k ∧ markOf (cntL S k) (cntAt S j) = j + 1 := by
  have hmem : cntAt S j ∈ cntL S k := List.mem_map.2 ⟨j, List.mem_range.2 hj, rfl⟩
  refine ⟨hmem, ?_⟩
  have : (cntL S k).idxOf? (cntAt S j) = some j := by
    rw [List.idxOf?_eq_some_iff]
    refine ⟨by rw [cntL_len]; exact hj, by simp [cntL], fun i hi => ?_⟩
    simp only [cntL, List.getElem_map, List.getElem_range]
    intro e
    have := cntAt_inj hS (div_lt (T := T) hT (by omega)) (div_lt (T := T) hT (by omega)) e
    omega
  simp [markOf, this]

set_option maxHeartbeats 4000000 in
theorem counts_walk (w : World) (a b : Int) (vo : Option Addr) (vc : Nat) (ns : List Int) (hns : IntsAt w (.slice vo ns.length vc) ns) (hln : ns.length ≤ 9223372036854775807) (ha : -9223372036854775808 ≤ a ∧ a ≤ 9223372036854775807) (hb : -9223372036854775808 ≤ b ∧ b ≤ 9223372036854775807) :
    Calls Try.prog 4 #[.int .i64 a, .int .i64 b, .slice vo ns.length vc] w fun e w' => e = .returned (.bool true) ∧ Below w.heap.size w w' := by
  have h4 := within_bd a 4 (by omega)
  have h5 := within_bd b 5 (by omega)
  have ha' := within_any a 4
  have hb' := within_any b 5
  obtain ⟨S, hS⟩ : ∃ S : Nat, within a 4 = (S : Int) := ⟨(within a 4).toNat, by omega⟩
  obtain ⟨T, hT⟩ : ∃ T : Nat, within b 5 = (T : Int) := ⟨(within b 5).toNat, by omega⟩
  simp only [hS] at h4 ha'
  simp only [hT] at h5 hb'
  clear hS hT
  have HA : Hid _ := ha'
  have HB : Hid _ := hb'
  clear ha' hb'
  go_enter Try.func4, Try.ntmps4
  go_wp2_with fail
  refine (new_any _).mono ?_
  rintro e w1 ⟨pb, mb, rfl, hbk, hu, hb1, hb2⟩
  go_wp2_with fail
  refine (HA.out _ ha (by omega)).mono ?_
  rintro e w2 ⟨rfl, rfl⟩
  go_wp2_with fail
  refine (HB.out _ hb (by omega)).mono ?_
  rintro e w2 ⟨rfl, rfl⟩
  go_wp2_with fail
  obtain ⟨N, HN⟩ : ∃ N : Nat, Hid (N = (1 + S) * (1 + T)) := ⟨_, rfl⟩
  have hN20 : N ≤ 20 := by
    have : (1 + S) * (1 + T) ≤ 4 * 5 := Nat.mul_le_mul (by omega) (by omega)
    have := HN.out
    omega
  have hwr : IntKind.i64.wrap ((1 + (S : Int)) * (1 + (T : Int))) = (N : Int) := by
    have e : (1 + (S : Int)) * (1 + (T : Int)) = (N : Int) := by rw [HN.out]; push_cast; rfl
    rw [e]; exact IntWalk.i64_in _ (by omega)
  have hbl := hbk.lt
  go_loopw [8] (fun i wr => ∃ k : Nat, k ≤ N ∧ i = .int .i64 k ∧ BookAt wr pb mb (cntL (1 + S) k) ∧ Upd [mb] w1 wr) (fun i _ => N - (intOf i).toNat)
  case atStart => exact ⟨0, Nat.zero_le _, rfl, hbk, Upd.refl _ _⟩
  case round =>
    obtain ⟨k, hk, rfl, hbk', hu'⟩ := hrel
    by_cases hlt : k < N
    · have hnew : cntAt (1 + S) k ∉ cntL (1 + S) k := cntL_new (T := 1 + T) (by omega) (by omega) (by rw [← HN.out]; exact hlt)
      have hq5 : k / (1 + S) < 256 := div_lt (T := 1 + T) (by omega) (by rw [← HN.out]; exact hlt)
      obtain ⟨q, HQ⟩ : ∃ q : Nat, Hid (k / (1 + S) = q) := ⟨_, rfl⟩
      obtain ⟨r, HR⟩ : ∃ r : Nat, Hid (k % (1 + S) = r) := ⟨_, rfl⟩
      have hq : q < 256 := by rw [← HQ.out]; exact hq5
      have hr : r ≤ 5 := by rw [← HR.out]; have := Nat.mod_lt k (show 0 < 1 + S by omega); omega
      have hne : ¬ (1 + (S : Int) = 0) := by omega
      have e1 : (k : Int) / (1 + (S : Int)) = (q : Int) := by rw [← HQ.out]; push_cast; rfl
      have e2 : (k : Int) % (1 + (S : Int)) = (r : Int) := by rw [← HR.out]; push_cast; rfl
      have e3 : Int.tmod (k : Int) (1 + (S : Int)) = (r : Int) := by rw [Int.tmod_eq_emod_of_nonneg (by omega)]; exact e2
      have e4 : Int.tdiv (k : Int) (1 + (S : Int)) = (q : Int) := by rw [Int.tdiv_eq_ediv_of_nonneg (by omega)]; exact e1
      have e5 : IntKind.i64.wrap (q : Int) = (q : Int) := IntWalk.i64_in _ (by omega)
      have e6 : IntKind.u8.wrap (q : Int) = (q : Int) := by
        simp [IntKind.wrap, IntKind.signed, IntKind.bits]; omega
      have hn0 : ¬ wr.heap.size = mb := by have := hbk'.lt; omega
      have hn1 : ¬ wr.heap.size + 1 = mb := by have := hbk'.lt; omega
      have HB : Hid ((#[Value.int .u8 (q : Int)] : Array Value).toList = [UInt8.ofNat q].map byteV) := by
        show [Value.int .u8 (q : Int)] = [byteV (UInt8.ofNat q)]
        simp [byteV]; omega
      rw [show cntAt (1 + S) k = ⟨(r : Int), [UInt8.ofNat q]⟩ by unfold cntAt; rw [HQ.out, HR.out]] at hnew
      have hsucc := cntL_succ (1 + S) k
      rw [show cntAt (1 + S) k = ⟨(r : Int), [UInt8.ofNat q]⟩ by unfold cntAt; rw [HQ.out, HR.out]] at hsucc
      have HS : Hid _ := hsucc
      clear hsucc hq5
      have hbl' := hbk'.lt
      have hlen := cntL_len (1 + S) k
      have HL : Hid _ := hlen
      clear hlen
      go_upto_region 8 with fail
      go_cut [9] (fun s9 wx => ∃ n : Nat, s9 = .pointer (some ⟨n, 0, none⟩) ∧ wx.cell? ⟨n, 0, none⟩ = some (.int .i64 r) ∧ wx.cell? ⟨n, 1, none⟩ = some (.int .i64 (k + 1)) ∧ BookAt wx pb mb (cntL (1 + S) (k + 1)) ∧ Upd [mb] wr wx)
      case first =>
        go_region_with (first
          | (go_at_call 9; go_loud (refine (sign_new _ pb mb (cntL (1 + S) k) r _ [UInt8.ofNat q] (by repeat (first | exact hbk' | refine BookAt.alloc ?_ _ | refine BookAt.drew ?_)) (by first | exact bytes_of_heap (heap_new (by simp)) HB.out (by simp) | exact (bytes_of_heap (heap_new (by simp)) HB.out (by simp)).mono (cell_alloc _)) hnew (by rw [HL.out]; omega)).mono ?_); rw [HL.out, ← HS.out];rintro e w2 ⟨rfl, hb2, hu2⟩; have hc2 := hu2.rule; have hf2 := hu2.ruleF))
        all_goals
          go_wp2_with fail
          go_meet
          case rel =>
            refine ⟨_, rfl, ?_, ?_, ?_, ?_⟩
            · have hc3 := hu2.rule
              first | (go_simp; done) | rw [setCell_off (by decide), setCell_same (by go_simp)]
            · have hc3 := hu2.rule
              first | (go_simp; done) | rw [setCell_same (by rw [setCell_off (by decide)]; go_simp)]
            ·
              repeat (first | exact hb2 | refine BookAt.drew ?_ | refine BookAt.alloc ?_ _ | refine BookAt.setCell ?_ (by simp; omega) (by simp; omega) _)
            ·
              repeat (first | exact Upd.refl _ _ | refine Upd.drew ?_ | refine Upd.alloc ?_ _ | refine Upd.setCell ?_ (Or.inl (by simp)) _ | refine Upd.trans ?_ hu2)
      case rest =>
        obtain ⟨n, rfl, c0, c1, hb2, hu2⟩ := hcut
        go_wp2
        exact ⟨⟨k + 1, by omega, by go_num, hb2, hu'.trans hu2⟩, by simp [intOf]; omega⟩
    · obtain rfl : k = N := by omega
      clear hwr hlt
      have hwr : IntKind.i64.wrap ((1 + (S : Int)) * (1 + (T : Int))) = (k : Int) := by
        have e : (1 + (S : Int)) * (1 + (T : Int)) = (k : Int) := by rw [HN.out]; push_cast; rfl
        rw [e]; exact IntWalk.i64_in _ (by omega)
      have hk1 : 1 ≤ k := by rw [HN.out]; exact Nat.mul_pos (by omega) (by omega)
      go_wp2_with fail
      go_loopw [10] (fun i wx => ∃ m : Nat, m ≤ 20 ∧ i = .int .i64 m ∧ BookAt wx pb mb (cntL (1 + S) k) ∧ Upd [mb] w1 wx) (fun i _ => 20 - (intOf i).toNat)
      case atStart => exact ⟨0, by omega, rfl, hbk', hu'⟩
      case round =>
        clear hbk' hu'
        obtain ⟨m, hm, rfl, hbk', hu'⟩ := hrel
        by_cases hlt : m < ns.length ∧ m < 20
        · obtain ⟨hl1, hl2⟩ := hlt
          obtain ⟨ob, oo, oc, heq, _, hcs⟩ := hns.some (by omega)
          simp only [Value.slice.injEq] at heq
          obtain ⟨hvo, _, hvc⟩ := heq
          rw [hvo]
          clear hvo hvc
          have hcell := hu'.cell (hu.cell (hcs m hl1) (by simp)) (by have := World.block_lt_of_cell? w _ (hcs m hl1); simp at this; simp; omega)
          have hob := hns.bd m
          clear hcs
          generalize ns.getD m 0 = o at *
          have hwi := within_bd o k (by omega)
          have hwa := within_any o k
          obtain ⟨j, hj⟩ : ∃ j : Nat, within o k = (j : Int) := ⟨(within o k).toNat, by omega⟩
          rw [hj] at hwi
          simp only [hj] at hwa
          have HW : Hid _ := hwa
          clear hj hwa
          have hmk := markOf_at (S := 1 + S) (T := 1 + T) (j := j) (by omega) (by omega) HN.out (by omega)
          have hq5 : j / (1 + S) < 256 := div_lt (T := 1 + T) (by omega) (by rw [← HN.out]; omega)
          obtain ⟨q, HQ⟩ : ∃ q : Nat, Hid (j / (1 + S) = q) := ⟨_, rfl⟩
          obtain ⟨r, HR⟩ : ∃ r : Nat, Hid (j % (1 + S) = r) := ⟨_, rfl⟩
          have hq : q < 256 := by rw [← HQ.out]; exact hq5
          have hr : r ≤ 5 := by rw [← HR.out]; have := Nat.mod_lt j (show 0 < 1 + S by omega); omega
          have hne : ¬ (1 + (S : Int) = 0) := by omega
          have e1 : (j : Int) / (1 + (S : Int)) = (q : Int) := by rw [← HQ.out]; push_cast; rfl
          have e2 : (j : Int) % (1 + (S : Int)) = (r : Int) := by rw [← HR.out]; push_cast; rfl
          have e3 : Int.tmod (j : Int) (1 + (S : Int)) = (r : Int) := by rw [Int.tmod_eq_emod_of_nonneg (by omega)]; exact e2
          have e4 : Int.tdiv (j : Int) (1 + (S : Int)) = (q : Int) := by rw [Int.tdiv_eq_ediv_of_nonneg (by omega)]; exact e1
          have e5 : IntKind.i64.wrap (q : Int) = (q : Int) := IntWalk.i64_in _ (by omega)
          have e6 : IntKind.u8.wrap (q : Int) = (q : Int) := by
            simp [IntKind.wrap, IntKind.signed, IntKind.bits]; omega
          have hn0 : ¬ wr.heap.size = mb := by have := hbk'.lt; omega
          have hn1 : ¬ wr.heap.size + 1 = mb := by have := hbk'.lt; omega
          have HB : Hid ((#[Value.int .u8 (q : Int)] : Array Value).toList = [UInt8.ofNat q].map byteV) := by
            show [Value.int .u8 (q : Int)] = [byteV (UInt8.ofNat q)]
            simp [byteV]; omega
          rw [show cntAt (1 + S) j = ⟨(r : Int), [UInt8.ofNat q]⟩ by unfold cntAt; rw [HQ.out, HR.out]] at hmk
          have HM : Hid (markOf (cntL (1 + S) k) ⟨(r : Int), [UInt8.ofNat q]⟩ = j + 1) := hmk.2
          have hold := hmk.1
          clear hmk hq5
          have hbl' := hbk'.lt
          go_wp2_with fail
          refine (HW.out _ hob (by omega)).mono ?_
          rintro e w2 ⟨rfl, rfl⟩
          go_upto_region 15 with fail
          go_cut [12] (fun s9 wx => ∃ n : Nat, s9 = .pointer (some ⟨n, 0, none⟩) ∧ wx.cell? ⟨n, 0, none⟩ = some (.int .i64 r) ∧ wx.cell? ⟨n, 1, none⟩ = some (.int .i64 (j + 1)) ∧ BookAt wx pb mb (cntL (1 + S) k) ∧ Upd [mb] wr wx)
          case first =>
            go_region_with (first
              | (go_at_call 9; go_loud (refine (sign_old _ pb mb (cntL (1 + S) k) r _ [UInt8.ofNat q] (by repeat (first | exact hbk' | refine BookAt.alloc ?_ _ | refine BookAt.drew ?_)) (by first | exact bytes_of_heap (heap_new (by simp)) HB.out (by simp) | exact (bytes_of_heap (heap_new (by simp)) HB.out (by simp)).mono (cell_alloc _)) hold).mono ?_); rw [HM.out];rintro e w2 ⟨rfl, hb2, hu2⟩; have hc2 := hu2.rule; have hf2 := hu2.ruleF))
            all_goals
              go_wp2_with fail
              go_meet
              case rel =>
                refine ⟨_, rfl, ?_, ?_, ?_, ?_⟩
                · have hc3 := hu2.rule
                  first | (go_simp; done) | rw [setCell_off (by decide), setCell_same (by go_simp)]
                · have hc3 := hu2.rule
                  first | (go_simp; done) | rw [setCell_same (by rw [setCell_off (by decide)]; go_simp)]
                ·
                  repeat (first | exact hb2 | refine BookAt.drew ?_ | refine BookAt.alloc ?_ _ | refine BookAt.setCell ?_ (by simp; omega) (by simp; omega) _)
                ·
                  repeat (first | exact Upd.refl _ _ | refine Upd.drew ?_ | refine Upd.alloc ?_ _ | refine Upd.setCell ?_ (Or.inl (by simp)) _ | refine Upd.trans ?_ hu2)
          case rest =>
            obtain ⟨n, rfl, c0, c1, hb2, hu2⟩ := hcut
            have e7 : IntKind.i64.wrap ((j : Int) + 1) = (j : Int) + 1 := IntWalk.i64_in _ (by omega)
            go_wp2
            go_quiet (fail)
            go_wp2
            exact ⟨⟨m + 1, by omega, by go_num, hb2.upd ((Upd.refl [] _).drewN _) (by simp) (by simp), (hu'.trans hu2).drewN _⟩, by simp [intOf]; omega⟩
        · have hlen := len_any
          have hlL := cntL_len (1 + S) k
          have HL : Hid _ := hlL
          clear hlL
          have hfin : ∀ {w4 w5 : World}, Upd [mb] w1 w4 → Upd [] w4 w5 → Below w.heap.size w w5 := fun {w4 w5} h1 h2 => ((hu.own (h1.trans h2.nil) (by simp; omega)).toBelow (by simp))
          have HF : Hid _ := @hfin
          clear hfin
          by_cases h1 : m < ns.length
          · have h2 : ¬ m < 20 := by omega
            clear hlt
            go_wp2_with fail
            refine (hlen _ pb mb _ hbk').mono ?_
            rw [HL.out]
            rintro e w4 ⟨rfl, rfl⟩
            go_wp2_with fail
            refine (wakes_any _).mono ?_
            rintro e w5 ⟨rfl, hu5⟩
            go_wp2_with fail
            go_ret
            exact ⟨rfl, HF.out hu' hu5⟩
          · clear hlt
            go_wp2_with fail
            refine (hlen _ pb mb _ hbk').mono ?_
            rw [HL.out]
            rintro e w4 ⟨rfl, rfl⟩
            go_wp2_with fail
            refine (wakes_any _).mono ?_
            rintro e w5 ⟨rfl, hu5⟩
            go_wp2_with fail
            go_ret
            exact ⟨rfl, HF.out hu' hu5⟩
end Go.Proofs.Ytjcoeokmoibppaa
