/- WHAT IS PROVED: bits.Len, the next power of two, a random step: contracts. Conditions: stated with each. -/
import Derived.Test.YtbpeofcoceaahaaBits
import Derived.Test.YtbpeofcoceaahaaObj
namespace Go.Proofs.Ytbpeofcoceaahaa
open Go.RowKit
theorem nextpow_rng {x : Int} (hx : 1 ≤ x ∧ x ≤ 1000000000000) : 1 ≤ bShl .u64 1 (Lib.bitLen x.toNat : Int) ∧ bShl .u64 1 (Lib.bitLen x.toNat : Int) ≤ 2 * x := by
  obtain ⟨h1, h2, h3⟩ := bitLen_rng x.toNat (by omega)
  have h4 := h3 (by omega)
  have h5 : 0 < 2 ^ Lib.bitLen x.toNat := Nat.pow_pos (by omega)
  have e : (2 : Int) ^ Lib.bitLen x.toNat = ((2 ^ Lib.bitLen x.toNat : Nat) : Int) := by simp
  unfold bShl
  rw [Int.toNat_natCast, Nat.min_eq_left (show Lib.bitLen x.toNat ≤ IntKind.u64.bits from h1), Int.one_mul, e, wrap_u64 (by omega)]
  omega
theorem bXor_u64 (a b : Int) : 0 ≤ bXor .u64 a b ∧ bXor .u64 a b < 18446744073709551616 := wrap_u64_rng _

set_option maxRecDepth 100000 in
set_option maxHeartbeats 2000000 in
theorem len64_any (w : World) (x : Int) (hx : 0 ≤ x ∧ x < 18446744073709551616) :
    Calls Try.prog 95 #[(.int .u64 (x))] w fun e w' => e = .returned (.int .i64 (Lib.bitLen x.toNat : Int)) ∧ Upd [] w w' := by
  have H := Sat.start0 w
  refine calls_fr Try.func95 rfl 25 rfl (Nat.le_of_ble_eq_true rfl) ?_
  refine w_seq ?_
  refine w_lit ?_
  refine wl_pure (wants0 rfl) (d := 2) (v := (.int .i64 (0))) rfl (by kernel_rfl) ?_
  refine w_nil ?_
  refine then_normal ?_
  refine w_seq ?_
  refine w_seq ?_
  refine w_lit ?_
  refine wl_pure (wants0 rfl) (d := 3) (v := (.int .u64 (x))) rfl (by kernel_rfl) ?_
  refine wl_pure (wants0 rfl) (d := 4) (v := (.bool (decide (x ≥ 4294967296)))) rfl (by kernel_rfl) ?_
  refine w_nil ?_
  refine then_normal ?_
  refine (bsplit (decide (x ≥ 4294967296))).elim (fun b1 => ?_) (fun b1 => ?_)
  · have g2 := of_decide_eq_true b1
    refine wp_know 4 (.bool true) (congrArg Value.bool b1) ?_
    have g3 := of_decide_eq_true b1
    refine wp_ift rfl ?_
    refine w_seq ?_
    refine w_lit ?_
    refine wl_pure (wants0 rfl) (d := 5) (v := (.int .u64 (x))) rfl (by kernel_rfl) ?_
    refine wl_pure (wants0 rfl) (d := 6) (v := (.int .u64 (x / 4294967296))) rfl (e_shr rfl rfl (by decide) (by decide) (by decide)) ?_
    refine wl_pure (wants0 rfl) (d := 0) (v := (.int .u64 (x / 4294967296))) rfl (by kernel_rfl) ?_
    refine w_nil ?_
    refine then_normal ?_
    refine w_lit ?_
    refine wl_pure (wants0 rfl) (d := 2) (v := (.int .i64 (32))) rfl (by kernel_rfl) ?_
    refine w_nil ?_
    refine then_normal ?_
    refine w_seq ?_
    refine w_seq ?_
    refine w_lit ?_
    refine wl_pure (wants0 rfl) (d := 7) (v := (.int .u64 (x / 4294967296))) rfl (by kernel_rfl) ?_
    refine wl_pure (wants0 rfl) (d := 8) (v := (.bool (decide ((x / 4294967296) ≥ 65536)))) rfl (by kernel_rfl) ?_
    refine w_nil ?_
    refine then_normal ?_
    refine (bsplit (decide ((x / 4294967296) ≥ 65536))).elim (fun b4 => ?_) (fun b4 => ?_)
    · have g5 := of_decide_eq_true b4
      refine wp_know 8 (.bool true) (congrArg Value.bool b4) ?_
      have g6 := of_decide_eq_true b4
      refine wp_ift rfl ?_
      refine w_seq ?_
      refine w_lit ?_
      refine wl_pure (wants0 rfl) (d := 9) (v := (.int .u64 (x / 4294967296))) rfl (by kernel_rfl) ?_
      refine wl_pure (wants0 rfl) (d := 10) (v := (.int .u64 ((x / 4294967296) / 65536))) rfl (e_shr rfl rfl (by decide) (by decide) (by decide)) ?_
      refine wl_pure (wants0 rfl) (d := 0) (v := (.int .u64 ((x / 4294967296) / 65536))) rfl (by kernel_rfl) ?_
      refine w_nil ?_
      refine then_normal ?_
      refine w_lit ?_
      refine wl_pure (wants0 rfl) (d := 11) (v := (.int .i64 (32))) rfl (by kernel_rfl) ?_
      refine wl_pure (wants0 rfl) (d := 12) (v := (.int .i64 (48))) rfl (by kernel_rfl) ?_
      refine wl_pure (wants0 rfl) (d := 2) (v := (.int .i64 (48))) rfl (by kernel_rfl) ?_
      refine w_nil ?_
      refine then_normal ?_
      refine w_seq ?_
      refine w_seq ?_
      refine w_lit ?_
      refine wl_pure (wants0 rfl) (d := 13) (v := (.int .u64 ((x / 4294967296) / 65536))) rfl (by kernel_rfl) ?_
      refine wl_pure (wants0 rfl) (d := 14) (v := (.bool (decide (((x / 4294967296) / 65536) ≥ 256)))) rfl (by kernel_rfl) ?_
      refine w_nil ?_
      refine then_normal ?_
      refine (bsplit (decide (((x / 4294967296) / 65536) ≥ 256))).elim (fun b7 => ?_) (fun b7 => ?_)
      · have g8 := of_decide_eq_true b7
        refine wp_know 14 (.bool true) (congrArg Value.bool b7) ?_
        have g9 := of_decide_eq_true b7
        refine wp_ift rfl ?_
        refine w_seq ?_
        refine w_lit ?_
        refine wl_pure (wants0 rfl) (d := 15) (v := (.int .u64 ((x / 4294967296) / 65536))) rfl (by kernel_rfl) ?_
        refine wl_pure (wants0 rfl) (d := 16) (v := (.int .u64 (((x / 4294967296) / 65536) / 256))) rfl (e_shr rfl rfl (by decide) (by decide) (by decide)) ?_
        refine wl_pure (wants0 rfl) (d := 0) (v := (.int .u64 (((x / 4294967296) / 65536) / 256))) rfl (by kernel_rfl) ?_
        refine w_nil ?_
        refine then_normal ?_
        refine w_lit ?_
        refine wl_pure (wants0 rfl) (d := 17) (v := (.int .i64 (48))) rfl (by kernel_rfl) ?_
        refine wl_pure (wants0 rfl) (d := 18) (v := (.int .i64 (56))) rfl (by kernel_rfl) ?_
        refine wl_pure (wants0 rfl) (d := 2) (v := (.int .i64 (56))) rfl (by kernel_rfl) ?_
        refine w_nil ?_
        refine then_normal ?_
        refine w_seq ?_
        have hy8 : 0 ≤ ((x / 4294967296) / 65536) / 256 ∧ ((x / 4294967296) / 65536) / 256 ≤ 255 := by omega
        have hl8 := Lib.len8_of (((x / 4294967296) / 65536) / 256) hy8.1 hy8.2
        have hb8 := Lib.bitLen_le8' (((x / 4294967296) / 65536) / 256) hy8.1 hy8.2
        have hs8 : Lib.bitLen x.toNat = 56 + Lib.bitLen (((x / 4294967296) / 65536) / 256).toNat := by
          rw [show (((x / 4294967296) / 65536) / 256).toNat = x.toNat / 72057594037927936 by omega]
          exact Lib.bitLen_shift56 x.toNat (by omega) (by omega)
        obtain ⟨y8, hy8e⟩ : ∃ y8, ((x / 4294967296) / 65536) / 256 = y8 := ⟨_, rfl⟩
        rw [hy8e] at hy8 hl8 hb8 hs8
        refine wp_know 0 (.int .u64 (y8)) (show ((.int .u64 (((x / 4294967296) / 65536) / 256)) : Value) = _ by rw [hy8e]) ?_
        have hl9 := len8_rng y8 hy8.1 hy8.2
        refine w_lit ?_
        refine wl_pure (wants0 rfl) (d := 19) (v := (.int .i64 (56))) rfl (by kernel_rfl) ?_
        refine wl_pure (wants0 rfl) (d := 20) (v := (.int .u64 (y8))) rfl (by kernel_rfl) ?_
        refine wl_pure (wants0 rfl) (d := 21) (v := (.int .u8 (y8))) rfl (e_int (z := y8) (by kernel_rfl) (wrap_u8 (by omega))) ?_
        refine wl_pure (wants0 rfl) (d := 22) (v := (.int .u8 (Lib.len8 y8))) rfl (e_len8 (by kernel_rfl) (by kernel_rfl) rfl (by omega) (by omega)) ?_
        refine wl_pure (wants0 rfl) (d := 23) (v := (.int .i64 (Lib.len8 y8))) rfl (e_int (z := Lib.len8 y8) (by kernel_rfl) (IntWalk.i64_in _ (by omega))) ?_
        refine wl_pure (wants0 rfl) (d := 24) (v := (.int .i64 (56 + (Lib.len8 y8)))) rfl (e_int (z := 56 + (Lib.len8 y8)) (by kernel_rfl) (IntWalk.i64_in _ (by omega))) ?_
        refine wl_pure (wants0 rfl) (d := 2) (v := (.int .i64 (56 + (Lib.len8 y8)))) rfl (by kernel_rfl) ?_
        refine w_nil ?_
        refine then_normal ?_
        refine w_ret ?_
        refine end1 rfl (res_tmp (v := (.int .i64 (56 + (Lib.len8 y8)))) rfl) ?_
        exact ⟨by rw [hl8, hs8]; congr 2; try omega, H.upd 0 rfl [] (fun _ h => h.elim)⟩
      · have g10 := of_decide_eq_false b7
        refine wp_know 14 (.bool false) (congrArg Value.bool b7) ?_
        have g11 := of_decide_eq_false b7
        refine wp_iff rfl ?_
        refine w_skip ?_
        refine then_normal ?_
        refine w_seq ?_
        have hy8 : 0 ≤ (x / 4294967296) / 65536 ∧ (x / 4294967296) / 65536 ≤ 255 := by omega
        have hl8 := Lib.len8_of ((x / 4294967296) / 65536) hy8.1 hy8.2
        have hb8 := Lib.bitLen_le8' ((x / 4294967296) / 65536) hy8.1 hy8.2
        have hs8 : Lib.bitLen x.toNat = 48 + Lib.bitLen ((x / 4294967296) / 65536).toNat := by
          rw [show ((x / 4294967296) / 65536).toNat = x.toNat / 281474976710656 by omega]
          exact Lib.bitLen_shift48 x.toNat (by omega) (by omega)
        obtain ⟨y8, hy8e⟩ : ∃ y8, (x / 4294967296) / 65536 = y8 := ⟨_, rfl⟩
        rw [hy8e] at hy8 hl8 hb8 hs8
        refine wp_know 0 (.int .u64 (y8)) (show ((.int .u64 ((x / 4294967296) / 65536)) : Value) = _ by rw [hy8e]) ?_
        have hl9 := len8_rng y8 hy8.1 hy8.2
        refine w_lit ?_
        refine wl_pure (wants0 rfl) (d := 19) (v := (.int .i64 (48))) rfl (by kernel_rfl) ?_
        refine wl_pure (wants0 rfl) (d := 20) (v := (.int .u64 (y8))) rfl (by kernel_rfl) ?_
        refine wl_pure (wants0 rfl) (d := 21) (v := (.int .u8 (y8))) rfl (e_int (z := y8) (by kernel_rfl) (wrap_u8 (by omega))) ?_
        refine wl_pure (wants0 rfl) (d := 22) (v := (.int .u8 (Lib.len8 y8))) rfl (e_len8 (by kernel_rfl) (by kernel_rfl) rfl (by omega) (by omega)) ?_
        refine wl_pure (wants0 rfl) (d := 23) (v := (.int .i64 (Lib.len8 y8))) rfl (e_int (z := Lib.len8 y8) (by kernel_rfl) (IntWalk.i64_in _ (by omega))) ?_
        refine wl_pure (wants0 rfl) (d := 24) (v := (.int .i64 (48 + (Lib.len8 y8)))) rfl (e_int (z := 48 + (Lib.len8 y8)) (by kernel_rfl) (IntWalk.i64_in _ (by omega))) ?_
        refine wl_pure (wants0 rfl) (d := 2) (v := (.int .i64 (48 + (Lib.len8 y8)))) rfl (by kernel_rfl) ?_
        refine w_nil ?_
        refine then_normal ?_
        refine w_ret ?_
        refine end1 rfl (res_tmp (v := (.int .i64 (48 + (Lib.len8 y8)))) rfl) ?_
        exact ⟨by rw [hl8, hs8]; congr 2; try omega, H.upd 0 rfl [] (fun _ h => h.elim)⟩
    · have g12 := of_decide_eq_false b4
      refine wp_know 8 (.bool false) (congrArg Value.bool b4) ?_
      have g13 := of_decide_eq_false b4
      refine wp_iff rfl ?_
      refine w_skip ?_
      refine then_normal ?_
      refine w_seq ?_
      refine w_seq ?_
      refine w_lit ?_
      refine wl_pure (wants0 rfl) (d := 13) (v := (.int .u64 (x / 4294967296))) rfl (by kernel_rfl) ?_
      refine wl_pure (wants0 rfl) (d := 14) (v := (.bool (decide ((x / 4294967296) ≥ 256)))) rfl (by kernel_rfl) ?_
      refine w_nil ?_
      refine then_normal ?_
      refine (bsplit (decide ((x / 4294967296) ≥ 256))).elim (fun b14 => ?_) (fun b14 => ?_)
      · have g15 := of_decide_eq_true b14
        refine wp_know 14 (.bool true) (congrArg Value.bool b14) ?_
        have g16 := of_decide_eq_true b14
        refine wp_ift rfl ?_
        refine w_seq ?_
        refine w_lit ?_
        refine wl_pure (wants0 rfl) (d := 15) (v := (.int .u64 (x / 4294967296))) rfl (by kernel_rfl) ?_
        refine wl_pure (wants0 rfl) (d := 16) (v := (.int .u64 ((x / 4294967296) / 256))) rfl (e_shr rfl rfl (by decide) (by decide) (by decide)) ?_
        refine wl_pure (wants0 rfl) (d := 0) (v := (.int .u64 ((x / 4294967296) / 256))) rfl (by kernel_rfl) ?_
        refine w_nil ?_
        refine then_normal ?_
        refine w_lit ?_
        refine wl_pure (wants0 rfl) (d := 17) (v := (.int .i64 (32))) rfl (by kernel_rfl) ?_
        refine wl_pure (wants0 rfl) (d := 18) (v := (.int .i64 (40))) rfl (by kernel_rfl) ?_
        refine wl_pure (wants0 rfl) (d := 2) (v := (.int .i64 (40))) rfl (by kernel_rfl) ?_
        refine w_nil ?_
        refine then_normal ?_
        refine w_seq ?_
        have hy8 : 0 ≤ (x / 4294967296) / 256 ∧ (x / 4294967296) / 256 ≤ 255 := by omega
        have hl8 := Lib.len8_of ((x / 4294967296) / 256) hy8.1 hy8.2
        have hb8 := Lib.bitLen_le8' ((x / 4294967296) / 256) hy8.1 hy8.2
        have hs8 : Lib.bitLen x.toNat = 40 + Lib.bitLen ((x / 4294967296) / 256).toNat := by
          rw [show ((x / 4294967296) / 256).toNat = x.toNat / 1099511627776 by omega]
          exact Lib.bitLen_shift40 x.toNat (by omega) (by omega)
        obtain ⟨y8, hy8e⟩ : ∃ y8, (x / 4294967296) / 256 = y8 := ⟨_, rfl⟩
        rw [hy8e] at hy8 hl8 hb8 hs8
        refine wp_know 0 (.int .u64 (y8)) (show ((.int .u64 ((x / 4294967296) / 256)) : Value) = _ by rw [hy8e]) ?_
        have hl9 := len8_rng y8 hy8.1 hy8.2
        refine w_lit ?_
        refine wl_pure (wants0 rfl) (d := 19) (v := (.int .i64 (40))) rfl (by kernel_rfl) ?_
        refine wl_pure (wants0 rfl) (d := 20) (v := (.int .u64 (y8))) rfl (by kernel_rfl) ?_
        refine wl_pure (wants0 rfl) (d := 21) (v := (.int .u8 (y8))) rfl (e_int (z := y8) (by kernel_rfl) (wrap_u8 (by omega))) ?_
        refine wl_pure (wants0 rfl) (d := 22) (v := (.int .u8 (Lib.len8 y8))) rfl (e_len8 (by kernel_rfl) (by kernel_rfl) rfl (by omega) (by omega)) ?_
        refine wl_pure (wants0 rfl) (d := 23) (v := (.int .i64 (Lib.len8 y8))) rfl (e_int (z := Lib.len8 y8) (by kernel_rfl) (IntWalk.i64_in _ (by omega))) ?_
        refine wl_pure (wants0 rfl) (d := 24) (v := (.int .i64 (40 + (Lib.len8 y8)))) rfl (e_int (z := 40 + (Lib.len8 y8)) (by kernel_rfl) (IntWalk.i64_in _ (by omega))) ?_
        refine wl_pure (wants0 rfl) (d := 2) (v := (.int .i64 (40 + (Lib.len8 y8)))) rfl (by kernel_rfl) ?_
        refine w_nil ?_
        refine then_normal ?_
        refine w_ret ?_
        refine end1 rfl (res_tmp (v := (.int .i64 (40 + (Lib.len8 y8)))) rfl) ?_
        exact ⟨by rw [hl8, hs8]; congr 2; try omega, H.upd 0 rfl [] (fun _ h => h.elim)⟩
      · have g17 := of_decide_eq_false b14
        refine wp_know 14 (.bool false) (congrArg Value.bool b14) ?_
        have g18 := of_decide_eq_false b14
        refine wp_iff rfl ?_
        refine w_skip ?_
        refine then_normal ?_
        refine w_seq ?_
        have hy8 : 0 ≤ x / 4294967296 ∧ x / 4294967296 ≤ 255 := by omega
        have hl8 := Lib.len8_of (x / 4294967296) hy8.1 hy8.2
        have hb8 := Lib.bitLen_le8' (x / 4294967296) hy8.1 hy8.2
        have hs8 : Lib.bitLen x.toNat = 32 + Lib.bitLen (x / 4294967296).toNat := by
          rw [show (x / 4294967296).toNat = x.toNat / 4294967296 by omega]
          exact Lib.bitLen_shift32 x.toNat (by omega) (by omega)
        obtain ⟨y8, hy8e⟩ : ∃ y8, x / 4294967296 = y8 := ⟨_, rfl⟩
        rw [hy8e] at hy8 hl8 hb8 hs8
        refine wp_know 0 (.int .u64 (y8)) (show ((.int .u64 (x / 4294967296)) : Value) = _ by rw [hy8e]) ?_
        have hl9 := len8_rng y8 hy8.1 hy8.2
        refine w_lit ?_
        refine wl_pure (wants0 rfl) (d := 19) (v := (.int .i64 (32))) rfl (by kernel_rfl) ?_
        refine wl_pure (wants0 rfl) (d := 20) (v := (.int .u64 (y8))) rfl (by kernel_rfl) ?_
        refine wl_pure (wants0 rfl) (d := 21) (v := (.int .u8 (y8))) rfl (e_int (z := y8) (by kernel_rfl) (wrap_u8 (by omega))) ?_
        refine wl_pure (wants0 rfl) (d := 22) (v := (.int .u8 (Lib.len8 y8))) rfl (e_len8 (by kernel_rfl) (by kernel_rfl) rfl (by omega) (by omega)) ?_
        refine wl_pure (wants0 rfl) (d := 23) (v := (.int .i64 (Lib.len8 y8))) rfl (e_int (z := Lib.len8 y8) (by kernel_rfl) (IntWalk.i64_in _ (by omega))) ?_
        refine wl_pure (wants0 rfl) (d := 24) (v := (.int .i64 (32 + (Lib.len8 y8)))) rfl (e_int (z := 32 + (Lib.len8 y8)) (by kernel_rfl) (IntWalk.i64_in _ (by omega))) ?_
        refine wl_pure (wants0 rfl) (d := 2) (v := (.int .i64 (32 + (Lib.len8 y8)))) rfl (by kernel_rfl) ?_
        refine w_nil ?_
        refine then_normal ?_
        refine w_ret ?_
        refine end1 rfl (res_tmp (v := (.int .i64 (32 + (Lib.len8 y8)))) rfl) ?_
        exact ⟨by rw [hl8, hs8]; congr 2; try omega, H.upd 0 rfl [] (fun _ h => h.elim)⟩
  · have g19 := of_decide_eq_false b1
    refine wp_know 4 (.bool false) (congrArg Value.bool b1) ?_
    have g20 := of_decide_eq_false b1
    refine wp_iff rfl ?_
    refine w_skip ?_
    refine then_normal ?_
    refine w_seq ?_
    refine w_seq ?_
    refine w_lit ?_
    refine wl_pure (wants0 rfl) (d := 7) (v := (.int .u64 (x))) rfl (by kernel_rfl) ?_
    refine wl_pure (wants0 rfl) (d := 8) (v := (.bool (decide (x ≥ 65536)))) rfl (by kernel_rfl) ?_
    refine w_nil ?_
    refine then_normal ?_
    refine (bsplit (decide (x ≥ 65536))).elim (fun b21 => ?_) (fun b21 => ?_)
    · have g22 := of_decide_eq_true b21
      refine wp_know 8 (.bool true) (congrArg Value.bool b21) ?_
      have g23 := of_decide_eq_true b21
      refine wp_ift rfl ?_
      refine w_seq ?_
      refine w_lit ?_
      refine wl_pure (wants0 rfl) (d := 9) (v := (.int .u64 (x))) rfl (by kernel_rfl) ?_
      refine wl_pure (wants0 rfl) (d := 10) (v := (.int .u64 (x / 65536))) rfl (e_shr rfl rfl (by decide) (by decide) (by decide)) ?_
      refine wl_pure (wants0 rfl) (d := 0) (v := (.int .u64 (x / 65536))) rfl (by kernel_rfl) ?_
      refine w_nil ?_
      refine then_normal ?_
      refine w_lit ?_
      refine wl_pure (wants0 rfl) (d := 11) (v := (.int .i64 (0))) rfl (by kernel_rfl) ?_
      refine wl_pure (wants0 rfl) (d := 12) (v := (.int .i64 (16))) rfl (by kernel_rfl) ?_
      refine wl_pure (wants0 rfl) (d := 2) (v := (.int .i64 (16))) rfl (by kernel_rfl) ?_
      refine w_nil ?_
      refine then_normal ?_
      refine w_seq ?_
      refine w_seq ?_
      refine w_lit ?_
      refine wl_pure (wants0 rfl) (d := 13) (v := (.int .u64 (x / 65536))) rfl (by kernel_rfl) ?_
      refine wl_pure (wants0 rfl) (d := 14) (v := (.bool (decide ((x / 65536) ≥ 256)))) rfl (by kernel_rfl) ?_
      refine w_nil ?_
      refine then_normal ?_
      refine (bsplit (decide ((x / 65536) ≥ 256))).elim (fun b24 => ?_) (fun b24 => ?_)
      · have g25 := of_decide_eq_true b24
        refine wp_know 14 (.bool true) (congrArg Value.bool b24) ?_
        have g26 := of_decide_eq_true b24
        refine wp_ift rfl ?_
        refine w_seq ?_
        refine w_lit ?_
        refine wl_pure (wants0 rfl) (d := 15) (v := (.int .u64 (x / 65536))) rfl (by kernel_rfl) ?_
        refine wl_pure (wants0 rfl) (d := 16) (v := (.int .u64 ((x / 65536) / 256))) rfl (e_shr rfl rfl (by decide) (by decide) (by decide)) ?_
        refine wl_pure (wants0 rfl) (d := 0) (v := (.int .u64 ((x / 65536) / 256))) rfl (by kernel_rfl) ?_
        refine w_nil ?_
        refine then_normal ?_
        refine w_lit ?_
        refine wl_pure (wants0 rfl) (d := 17) (v := (.int .i64 (16))) rfl (by kernel_rfl) ?_
        refine wl_pure (wants0 rfl) (d := 18) (v := (.int .i64 (24))) rfl (by kernel_rfl) ?_
        refine wl_pure (wants0 rfl) (d := 2) (v := (.int .i64 (24))) rfl (by kernel_rfl) ?_
        refine w_nil ?_
        refine then_normal ?_
        refine w_seq ?_
        have hy8 : 0 ≤ (x / 65536) / 256 ∧ (x / 65536) / 256 ≤ 255 := by omega
        have hl8 := Lib.len8_of ((x / 65536) / 256) hy8.1 hy8.2
        have hb8 := Lib.bitLen_le8' ((x / 65536) / 256) hy8.1 hy8.2
        have hs8 : Lib.bitLen x.toNat = 24 + Lib.bitLen ((x / 65536) / 256).toNat := by
          rw [show ((x / 65536) / 256).toNat = x.toNat / 16777216 by omega]
          exact Lib.bitLen_shift24 x.toNat (by omega) (by omega)
        obtain ⟨y8, hy8e⟩ : ∃ y8, (x / 65536) / 256 = y8 := ⟨_, rfl⟩
        rw [hy8e] at hy8 hl8 hb8 hs8
        refine wp_know 0 (.int .u64 (y8)) (show ((.int .u64 ((x / 65536) / 256)) : Value) = _ by rw [hy8e]) ?_
        have hl9 := len8_rng y8 hy8.1 hy8.2
        refine w_lit ?_
        refine wl_pure (wants0 rfl) (d := 19) (v := (.int .i64 (24))) rfl (by kernel_rfl) ?_
        refine wl_pure (wants0 rfl) (d := 20) (v := (.int .u64 (y8))) rfl (by kernel_rfl) ?_
        refine wl_pure (wants0 rfl) (d := 21) (v := (.int .u8 (y8))) rfl (e_int (z := y8) (by kernel_rfl) (wrap_u8 (by omega))) ?_
        refine wl_pure (wants0 rfl) (d := 22) (v := (.int .u8 (Lib.len8 y8))) rfl (e_len8 (by kernel_rfl) (by kernel_rfl) rfl (by omega) (by omega)) ?_
        refine wl_pure (wants0 rfl) (d := 23) (v := (.int .i64 (Lib.len8 y8))) rfl (e_int (z := Lib.len8 y8) (by kernel_rfl) (IntWalk.i64_in _ (by omega))) ?_
        refine wl_pure (wants0 rfl) (d := 24) (v := (.int .i64 (24 + (Lib.len8 y8)))) rfl (e_int (z := 24 + (Lib.len8 y8)) (by kernel_rfl) (IntWalk.i64_in _ (by omega))) ?_
        refine wl_pure (wants0 rfl) (d := 2) (v := (.int .i64 (24 + (Lib.len8 y8)))) rfl (by kernel_rfl) ?_
        refine w_nil ?_
        refine then_normal ?_
        refine w_ret ?_
        refine end1 rfl (res_tmp (v := (.int .i64 (24 + (Lib.len8 y8)))) rfl) ?_
        exact ⟨by rw [hl8, hs8]; congr 2; try omega, H.upd 0 rfl [] (fun _ h => h.elim)⟩
      · have g27 := of_decide_eq_false b24
        refine wp_know 14 (.bool false) (congrArg Value.bool b24) ?_
        have g28 := of_decide_eq_false b24
        refine wp_iff rfl ?_
        refine w_skip ?_
        refine then_normal ?_
        refine w_seq ?_
        have hy8 : 0 ≤ x / 65536 ∧ x / 65536 ≤ 255 := by omega
        have hl8 := Lib.len8_of (x / 65536) hy8.1 hy8.2
        have hb8 := Lib.bitLen_le8' (x / 65536) hy8.1 hy8.2
        have hs8 : Lib.bitLen x.toNat = 16 + Lib.bitLen (x / 65536).toNat := by
          rw [show (x / 65536).toNat = x.toNat / 65536 by omega]
          exact Lib.bitLen_shift16 x.toNat (by omega) (by omega)
        obtain ⟨y8, hy8e⟩ : ∃ y8, x / 65536 = y8 := ⟨_, rfl⟩
        rw [hy8e] at hy8 hl8 hb8 hs8
        refine wp_know 0 (.int .u64 (y8)) (show ((.int .u64 (x / 65536)) : Value) = _ by rw [hy8e]) ?_
        have hl9 := len8_rng y8 hy8.1 hy8.2
        refine w_lit ?_
        refine wl_pure (wants0 rfl) (d := 19) (v := (.int .i64 (16))) rfl (by kernel_rfl) ?_
        refine wl_pure (wants0 rfl) (d := 20) (v := (.int .u64 (y8))) rfl (by kernel_rfl) ?_
        refine wl_pure (wants0 rfl) (d := 21) (v := (.int .u8 (y8))) rfl (e_int (z := y8) (by kernel_rfl) (wrap_u8 (by omega))) ?_
        refine wl_pure (wants0 rfl) (d := 22) (v := (.int .u8 (Lib.len8 y8))) rfl (e_len8 (by kernel_rfl) (by kernel_rfl) rfl (by omega) (by omega)) ?_
        refine wl_pure (wants0 rfl) (d := 23) (v := (.int .i64 (Lib.len8 y8))) rfl (e_int (z := Lib.len8 y8) (by kernel_rfl) (IntWalk.i64_in _ (by omega))) ?_
        refine wl_pure (wants0 rfl) (d := 24) (v := (.int .i64 (16 + (Lib.len8 y8)))) rfl (e_int (z := 16 + (Lib.len8 y8)) (by kernel_rfl) (IntWalk.i64_in _ (by omega))) ?_
        refine wl_pure (wants0 rfl) (d := 2) (v := (.int .i64 (16 + (Lib.len8 y8)))) rfl (by kernel_rfl) ?_
        refine w_nil ?_
        refine then_normal ?_
        refine w_ret ?_
        refine end1 rfl (res_tmp (v := (.int .i64 (16 + (Lib.len8 y8)))) rfl) ?_
        exact ⟨by rw [hl8, hs8]; congr 2; try omega, H.upd 0 rfl [] (fun _ h => h.elim)⟩
    · have g29 := of_decide_eq_false b21
      refine wp_know 8 (.bool false) (congrArg Value.bool b21) ?_
      have g30 := of_decide_eq_false b21
      refine wp_iff rfl ?_
      refine w_skip ?_
      refine then_normal ?_
      refine w_seq ?_
      refine w_seq ?_
      refine w_lit ?_
      refine wl_pure (wants0 rfl) (d := 13) (v := (.int .u64 (x))) rfl (by kernel_rfl) ?_
      refine wl_pure (wants0 rfl) (d := 14) (v := (.bool (decide (x ≥ 256)))) rfl (by kernel_rfl) ?_
      refine w_nil ?_
      refine then_normal ?_
      refine (bsplit (decide (x ≥ 256))).elim (fun b31 => ?_) (fun b31 => ?_)
      · have g32 := of_decide_eq_true b31
        refine wp_know 14 (.bool true) (congrArg Value.bool b31) ?_
        have g33 := of_decide_eq_true b31
        refine wp_ift rfl ?_
        refine w_seq ?_
        refine w_lit ?_
        refine wl_pure (wants0 rfl) (d := 15) (v := (.int .u64 (x))) rfl (by kernel_rfl) ?_
        refine wl_pure (wants0 rfl) (d := 16) (v := (.int .u64 (x / 256))) rfl (e_shr rfl rfl (by decide) (by decide) (by decide)) ?_
        refine wl_pure (wants0 rfl) (d := 0) (v := (.int .u64 (x / 256))) rfl (by kernel_rfl) ?_
        refine w_nil ?_
        refine then_normal ?_
        refine w_lit ?_
        refine wl_pure (wants0 rfl) (d := 17) (v := (.int .i64 (0))) rfl (by kernel_rfl) ?_
        refine wl_pure (wants0 rfl) (d := 18) (v := (.int .i64 (8))) rfl (by kernel_rfl) ?_
        refine wl_pure (wants0 rfl) (d := 2) (v := (.int .i64 (8))) rfl (by kernel_rfl) ?_
        refine w_nil ?_
        refine then_normal ?_
        refine w_seq ?_
        have hy8 : 0 ≤ x / 256 ∧ x / 256 ≤ 255 := by omega
        have hl8 := Lib.len8_of (x / 256) hy8.1 hy8.2
        have hb8 := Lib.bitLen_le8' (x / 256) hy8.1 hy8.2
        have hs8 : Lib.bitLen x.toNat = 8 + Lib.bitLen (x / 256).toNat := by
          rw [show (x / 256).toNat = x.toNat / 256 by omega]
          exact Lib.bitLen_shift8 x.toNat (by omega) (by omega)
        obtain ⟨y8, hy8e⟩ : ∃ y8, x / 256 = y8 := ⟨_, rfl⟩
        rw [hy8e] at hy8 hl8 hb8 hs8
        refine wp_know 0 (.int .u64 (y8)) (show ((.int .u64 (x / 256)) : Value) = _ by rw [hy8e]) ?_
        have hl9 := len8_rng y8 hy8.1 hy8.2
        refine w_lit ?_
        refine wl_pure (wants0 rfl) (d := 19) (v := (.int .i64 (8))) rfl (by kernel_rfl) ?_
        refine wl_pure (wants0 rfl) (d := 20) (v := (.int .u64 (y8))) rfl (by kernel_rfl) ?_
        refine wl_pure (wants0 rfl) (d := 21) (v := (.int .u8 (y8))) rfl (e_int (z := y8) (by kernel_rfl) (wrap_u8 (by omega))) ?_
        refine wl_pure (wants0 rfl) (d := 22) (v := (.int .u8 (Lib.len8 y8))) rfl (e_len8 (by kernel_rfl) (by kernel_rfl) rfl (by omega) (by omega)) ?_
        refine wl_pure (wants0 rfl) (d := 23) (v := (.int .i64 (Lib.len8 y8))) rfl (e_int (z := Lib.len8 y8) (by kernel_rfl) (IntWalk.i64_in _ (by omega))) ?_
        refine wl_pure (wants0 rfl) (d := 24) (v := (.int .i64 (8 + (Lib.len8 y8)))) rfl (e_int (z := 8 + (Lib.len8 y8)) (by kernel_rfl) (IntWalk.i64_in _ (by omega))) ?_
        refine wl_pure (wants0 rfl) (d := 2) (v := (.int .i64 (8 + (Lib.len8 y8)))) rfl (by kernel_rfl) ?_
        refine w_nil ?_
        refine then_normal ?_
        refine w_ret ?_
        refine end1 rfl (res_tmp (v := (.int .i64 (8 + (Lib.len8 y8)))) rfl) ?_
        exact ⟨by rw [hl8, hs8]; congr 2; try omega, H.upd 0 rfl [] (fun _ h => h.elim)⟩
      · have g34 := of_decide_eq_false b31
        refine wp_know 14 (.bool false) (congrArg Value.bool b31) ?_
        have g35 := of_decide_eq_false b31
        refine wp_iff rfl ?_
        refine w_skip ?_
        refine then_normal ?_
        refine w_seq ?_
        have hy8 : 0 ≤ x ∧ x ≤ 255 := by omega
        have hl8 := Lib.len8_of x hy8.1 hy8.2
        have hb8 := Lib.bitLen_le8' x hy8.1 hy8.2
        obtain ⟨y8, hy8e⟩ : ∃ y8, x = y8 := ⟨_, rfl⟩
        rw [hy8e] at hy8 hl8 hb8
        refine wp_know 0 (.int .u64 (y8)) (show ((.int .u64 (x)) : Value) = _ by rw [hy8e]) ?_
        have hl9 := len8_rng y8 hy8.1 hy8.2
        refine w_lit ?_
        refine wl_pure (wants0 rfl) (d := 19) (v := (.int .i64 (0))) rfl (by kernel_rfl) ?_
        refine wl_pure (wants0 rfl) (d := 20) (v := (.int .u64 (y8))) rfl (by kernel_rfl) ?_
        refine wl_pure (wants0 rfl) (d := 21) (v := (.int .u8 (y8))) rfl (e_int (z := y8) (by kernel_rfl) (wrap_u8 (by omega))) ?_
        refine wl_pure (wants0 rfl) (d := 22) (v := (.int .u8 (Lib.len8 y8))) rfl (e_len8 (by kernel_rfl) (by kernel_rfl) rfl (by omega) (by omega)) ?_
        refine wl_pure (wants0 rfl) (d := 23) (v := (.int .i64 (Lib.len8 y8))) rfl (e_int (z := Lib.len8 y8) (by kernel_rfl) (IntWalk.i64_in _ (by omega))) ?_
        refine wl_pure (wants0 rfl) (d := 24) (v := (.int .i64 (0 + (Lib.len8 y8)))) rfl (e_int (z := 0 + (Lib.len8 y8)) (by kernel_rfl) (IntWalk.i64_in _ (by omega))) ?_
        refine wl_pure (wants0 rfl) (d := 2) (v := (.int .i64 (0 + (Lib.len8 y8)))) rfl (by kernel_rfl) ?_
        refine w_nil ?_
        refine then_normal ?_
        refine w_ret ?_
        refine end1 rfl (res_tmp (v := (.int .i64 (0 + (Lib.len8 y8)))) rfl) ?_
        exact ⟨by rw [hl8, ← hy8e]; congr 2; try omega, H.upd 0 rfl [] (fun _ h => h.elim)⟩

set_option maxRecDepth 100000 in
set_option maxHeartbeats 400000 in
theorem blen_any (w : World) (x : Int) (hx : 0 ≤ x ∧ x < 18446744073709551616) :
    Calls Try.prog 78 #[(.int .u64 (x))] w fun e w' => e = .returned (.int .i64 (Lib.bitLen x.toNat : Int)) ∧ Upd [] w w' := by
  have H := Sat.start0 w
  refine calls_fr Try.func78 rfl 8 rfl (Nat.le_of_ble_eq_true rfl) ?_
  refine w_seq ?_
  refine w_lit ?_
  refine wl_pure (wants0 rfl) (d := 2) (v := (.int .i64 (0))) rfl (by kernel_rfl) ?_
  refine w_nil ?_
  refine then_normal ?_
  refine w_seq ?_
  refine wp_iff rfl ?_
  refine w_skip ?_
  refine then_normal ?_
  refine w_seq ?_
  refine w_lit ?_
  refine wl_pure (wants0 rfl) (d := 6) (v := (.int .u64 (x))) rfl (by kernel_rfl) ?_
  refine wl_do (wants0 rfl) (fun K1 hK1 => ?_)
  refine d_call (d := 7) rfl (by kernel_rfl) (len64_any w x (by omega)) ?_
  rintro _ w2 ⟨rfl, u4⟩
  have H3 := H.keepU u4
  refine ⟨_, rfl, ?_⟩
  refine hK1 _ _ ?_
  clear hK1 K1
  refine wl_pure (wants0 rfl) (d := 2) (v := (.int .i64 ((Lib.bitLen x.toNat : Int)))) rfl (by kernel_rfl) ?_
  refine w_nil ?_
  refine then_normal ?_
  refine w_ret ?_
  refine end1 rfl (res_tmp (v := (.int .i64 ((Lib.bitLen x.toNat : Int)))) rfl) ?_
  exact ⟨rfl, H3.upd 0 rfl [] (fun _ h => h.elim)⟩

set_option maxRecDepth 100000 in
set_option maxHeartbeats 400000 in
theorem pow2_any (w : World) (x : Int) (hx : 1 ≤ x ∧ x ≤ 1000000000000) :
    Calls Try.prog 108 #[(.int .i64 (x))] w fun e w' => ∃ m : Int, e = .returned (.int .u64 m) ∧ (1 ≤ m ∧ m ≤ 2 * x) ∧ Upd [] w w' := by
  have H := Sat.start0 w
  refine calls_fr Try.func108 rfl 7 rfl (Nat.le_of_ble_eq_true rfl) ?_
  refine w_seq ?_
  refine w_lit ?_
  refine wl_pure (wants0 rfl) (d := 2) (v := (.int .u64 (0))) rfl (by kernel_rfl) ?_
  refine w_nil ?_
  refine then_normal ?_
  refine w_seq ?_
  refine w_lit ?_
  refine wl_pure (wants0 rfl) (d := 3) (v := (.int .i64 (x))) rfl (by kernel_rfl) ?_
  refine wl_pure (wants0 rfl) (d := 4) (v := (.int .u64 (x))) rfl (e_int (z := x) (by kernel_rfl) (wrap_u64 (by omega))) ?_
  refine wl_do (wants0 rfl) (fun K1 hK1 => ?_)
  refine d_call (d := 5) rfl (by kernel_rfl) (blen_any w x (by omega)) ?_
  rintro _ w2 ⟨rfl, u4⟩
  have H3 := H.keepU u4
  refine ⟨_, rfl, ?_⟩
  refine hK1 _ _ ?_
  clear hK1 K1
  refine wl_pure (wants0 rfl) (d := 6) (v := (.int .u64 (bShl .u64 1 (Lib.bitLen x.toNat : Int)))) rfl (e_shl rfl rfl (by omega)) ?_
  refine wl_pure (wants0 rfl) (d := 2) (v := (.int .u64 (bShl .u64 1 (Lib.bitLen x.toNat : Int)))) rfl (by kernel_rfl) ?_
  refine w_nil ?_
  refine then_normal ?_
  refine w_ret ?_
  refine end1 rfl (res_tmp (v := (.int .u64 (bShl .u64 1 (Lib.bitLen x.toNat : Int)))) rfl) ?_
  exact ⟨bShl .u64 1 (Lib.bitLen x.toNat : Int), rfl, nextpow_rng hx, H3.upd 0 rfl [] (fun _ h => h.elim)⟩

set_option maxRecDepth 100000 in
set_option maxHeartbeats 400000 in
theorem xornext_any (w : World) (r : Nat) (x : Int) (hT : (cellC r 159 [.int .u64 x]).ok w) :
    Calls Try.prog 109 #[(.pointer (some ⟨r, 0, none⟩))] w fun e w' => ∃ z : Int, e = .returned (.int .u64 z) ∧ (0 ≤ z ∧ z < 18446744073709551616) ∧ Sat w [cellC r 159 [.int .u64 z], restC w (cellC r 159 [.int .u64 x]).fp] w' := by
  have H : Sat w [cellC r 159 ([(.int .u64 (x))] : List Value), restC w (cellC r 159 [.int .u64 x]).fp] w := Sat.start1 hT
  refine calls_fr Try.func109 rfl 33 rfl (Nat.le_of_ble_eq_true rfl) ?_
  refine w_seq ?_
  refine w_lit ?_
  refine wl_pure (wants0 rfl) (d := 2) (v := (.int .u64 (0))) rfl (by kernel_rfl) ?_
  refine w_nil ?_
  refine then_normal ?_
  refine w_seq ?_
  refine k_start H [cellC r 159 ([(.int .u64 (x))] : List Value), restC w (cellC r 159 [.int .u64 x]).fp] [9] 10 rfl (by kernel_rfl) (fun Hx => (Hx.pick [0, 1] (by decide))) ?_
  intro w1 H2 S3
  refine k_pure 0 rfl (by kernel_rfl) (by kernel_rfl) (by kernel_rfl) (fun _ _ _ h => h) S3 (wants0 rfl) rfl (d := 3) (v := (.pointer (some ⟨r, 0, none⟩))) rfl (fun _ => (by kernel_rfl)) ?_
  refine k_pure 1 rfl (by kernel_rfl) (by kernel_rfl) (by kernel_rfl) (fun _ _ _ h => h) S3 (wants0 rfl) rfl (d := 4) (v := (.pointer (some ⟨r, 0, none⟩))) rfl (fun _ => (by kernel_rfl)) ?_
  refine k_val 2 rfl (by kernel_rfl) (by kernel_rfl) (by kernel_rfl) (fun _ _ _ h => h) S3 (wants0 rfl) rfl (by kernel_rfl) (d := 5) (v := (.int .u64 (x))) rfl (fun _ H' => (e_load1 rfl (by kernel_rfl) (H'.cell 0 rfl rfl))) ?_
  refine k_pure 3 rfl (by kernel_rfl) (by kernel_rfl) (by kernel_rfl) (fun _ _ _ h => h) S3 (wants0 rfl) rfl (d := 6) (v := (.pointer (some ⟨r, 0, none⟩))) rfl (fun _ => (by kernel_rfl)) ?_
  refine k_pure 4 rfl (by kernel_rfl) (by kernel_rfl) (by kernel_rfl) (fun _ _ _ h => h) S3 (wants0 rfl) rfl (d := 7) (v := (.pointer (some ⟨r, 0, none⟩))) rfl (fun _ => (by kernel_rfl)) ?_
  refine k_val 5 rfl (by kernel_rfl) (by kernel_rfl) (by kernel_rfl) (fun _ _ _ h => h) S3 (wants0 rfl) rfl (by kernel_rfl) (d := 8) (v := (.int .u64 (x))) rfl (fun _ H' => (e_load1 rfl (by kernel_rfl) (H'.cell 0 rfl rfl))) ?_
  refine k_pure 6 rfl (by kernel_rfl) (by kernel_rfl) (by kernel_rfl) (fun _ _ _ h => h) S3 (wants0 rfl) rfl (d := 9) (v := (.int .u64 (bShl .u64 x 13))) rfl (fun _ => (e_shl rfl rfl (by decide))) ?_
  refine k_pure 7 rfl (by kernel_rfl) (by kernel_rfl) (by kernel_rfl) (fun _ _ _ h => h) S3 (wants0 rfl) rfl (d := 10) (v := (.int .u64 (bXor .u64 x (bShl .u64 x 13)))) rfl (fun _ => (by kernel_rfl)) ?_
  refine k_pure 8 rfl (by kernel_rfl) (by kernel_rfl) (by kernel_rfl) (fun _ _ _ h => h) S3 (wants0 rfl) rfl (d := 11) (v := (.pointer (some ⟨r, 0, none⟩))) rfl (fun _ => (by kernel_rfl)) ?_
  refine k_brk 9 (Sat w [restC w (cellC r 159 [.int .u64 x]).fp]) rfl (by kernel_rfl) (wants0 rfl) rfl (fun K4 hK4 => ?_)
  refine d_store (vs := ([(.int .u64 (bXor .u64 x (bShl .u64 x 13)))] : List Value)) rfl H2 0 rfl rfl rfl rfl (by kernel_rfl) (Nat.le_of_ble_eq_true (by kernel_rfl)) (Nat.le_of_ble_eq_true (by kernel_rfl)) (by kernel_rfl) ?_
  intro w5 (H6 : Sat w [cellC r 159 ([(.int .u64 (bXor .u64 x (bShl .u64 x 13)))] : List Value), restC w (cellC r 159 [.int .u64 x]).fp] w5)
  have S8 := H6.pick [1] (by decide)
  refine hK4 _ _ S8 ?_
  clear hK4 K4
  refine h_fin (by kernel_rfl) ?_
  refine then_normal ?_
  refine w_seq ?_
  refine k_start H6 [cellC r 159 ([(.int .u64 (bXor .u64 x (bShl .u64 x 13)))] : List Value), restC w (cellC r 159 [.int .u64 x]).fp] [9] 10 rfl (by kernel_rfl) (fun Hx => (Hx.pick [0, 1] (by decide))) ?_
  intro w9 H10 S11
  refine k_pure 0 rfl (by kernel_rfl) (by kernel_rfl) (by kernel_rfl) (fun _ _ _ h => h) S11 (wants0 rfl) rfl (d := 12) (v := (.pointer (some ⟨r, 0, none⟩))) rfl (fun _ => (by kernel_rfl)) ?_
  refine k_pure 1 rfl (by kernel_rfl) (by kernel_rfl) (by kernel_rfl) (fun _ _ _ h => h) S11 (wants0 rfl) rfl (d := 13) (v := (.pointer (some ⟨r, 0, none⟩))) rfl (fun _ => (by kernel_rfl)) ?_
  refine k_val 2 rfl (by kernel_rfl) (by kernel_rfl) (by kernel_rfl) (fun _ _ _ h => h) S11 (wants0 rfl) rfl (by kernel_rfl) (d := 14) (v := (.int .u64 (bXor .u64 x (bShl .u64 x 13)))) rfl (fun _ H' => (e_load1 rfl (by kernel_rfl) (H'.cell 0 rfl rfl))) ?_
  refine k_pure 3 rfl (by kernel_rfl) (by kernel_rfl) (by kernel_rfl) (fun _ _ _ h => h) S11 (wants0 rfl) rfl (d := 15) (v := (.pointer (some ⟨r, 0, none⟩))) rfl (fun _ => (by kernel_rfl)) ?_
  refine k_pure 4 rfl (by kernel_rfl) (by kernel_rfl) (by kernel_rfl) (fun _ _ _ h => h) S11 (wants0 rfl) rfl (d := 16) (v := (.pointer (some ⟨r, 0, none⟩))) rfl (fun _ => (by kernel_rfl)) ?_
  refine k_val 5 rfl (by kernel_rfl) (by kernel_rfl) (by kernel_rfl) (fun _ _ _ h => h) S11 (wants0 rfl) rfl (by kernel_rfl) (d := 17) (v := (.int .u64 (bXor .u64 x (bShl .u64 x 13)))) rfl (fun _ H' => (e_load1 rfl (by kernel_rfl) (H'.cell 0 rfl rfl))) ?_
  refine k_pure 6 rfl (by kernel_rfl) (by kernel_rfl) (by kernel_rfl) (fun _ _ _ h => h) S11 (wants0 rfl) rfl (d := 18) (v := (.int .u64 ((bXor .u64 x (bShl .u64 x 13)) / 128))) rfl (fun _ => (e_shr rfl rfl (by decide) (by decide) (by decide))) ?_
  refine k_pure 7 rfl (by kernel_rfl) (by kernel_rfl) (by kernel_rfl) (fun _ _ _ h => h) S11 (wants0 rfl) rfl (d := 19) (v := (.int .u64 (bXor .u64 (bXor .u64 x (bShl .u64 x 13)) ((bXor .u64 x (bShl .u64 x 13)) / 128)))) rfl (fun _ => (by kernel_rfl)) ?_
  refine k_pure 8 rfl (by kernel_rfl) (by kernel_rfl) (by kernel_rfl) (fun _ _ _ h => h) S11 (wants0 rfl) rfl (d := 20) (v := (.pointer (some ⟨r, 0, none⟩))) rfl (fun _ => (by kernel_rfl)) ?_
  refine k_brk 9 (Sat w [restC w (cellC r 159 [.int .u64 x]).fp]) rfl (by kernel_rfl) (wants0 rfl) rfl (fun K12 hK12 => ?_)
  refine d_store (vs := ([(.int .u64 (bXor .u64 (bXor .u64 x (bShl .u64 x 13)) ((bXor .u64 x (bShl .u64 x 13)) / 128)))] : List Value)) rfl H10 0 rfl rfl rfl rfl (by kernel_rfl) (Nat.le_of_ble_eq_true (by kernel_rfl)) (Nat.le_of_ble_eq_true (by kernel_rfl)) (by kernel_rfl) ?_
  intro w13 (H14 : Sat w [cellC r 159 ([(.int .u64 (bXor .u64 (bXor .u64 x (bShl .u64 x 13)) ((bXor .u64 x (bShl .u64 x 13)) / 128)))] : List Value), restC w (cellC r 159 [.int .u64 x]).fp] w13)
  have S16 := H14.pick [1] (by decide)
  refine hK12 _ _ S16 ?_
  clear hK12 K12
  refine h_fin (by kernel_rfl) ?_
  refine then_normal ?_
  refine w_seq ?_
  refine k_start H14 [cellC r 159 ([(.int .u64 (bXor .u64 (bXor .u64 x (bShl .u64 x 13)) ((bXor .u64 x (bShl .u64 x 13)) / 128)))] : List Value), restC w (cellC r 159 [.int .u64 x]).fp] [9] 10 rfl (by kernel_rfl) (fun Hx => (Hx.pick [0, 1] (by decide))) ?_
  intro w17 H18 S19
  refine k_pure 0 rfl (by kernel_rfl) (by kernel_rfl) (by kernel_rfl) (fun _ _ _ h => h) S19 (wants0 rfl) rfl (d := 21) (v := (.pointer (some ⟨r, 0, none⟩))) rfl (fun _ => (by kernel_rfl)) ?_
  refine k_pure 1 rfl (by kernel_rfl) (by kernel_rfl) (by kernel_rfl) (fun _ _ _ h => h) S19 (wants0 rfl) rfl (d := 22) (v := (.pointer (some ⟨r, 0, none⟩))) rfl (fun _ => (by kernel_rfl)) ?_
  refine k_val 2 rfl (by kernel_rfl) (by kernel_rfl) (by kernel_rfl) (fun _ _ _ h => h) S19 (wants0 rfl) rfl (by kernel_rfl) (d := 23) (v := (.int .u64 (bXor .u64 (bXor .u64 x (bShl .u64 x 13)) ((bXor .u64 x (bShl .u64 x 13)) / 128)))) rfl (fun _ H' => (e_load1 rfl (by kernel_rfl) (H'.cell 0 rfl rfl))) ?_
  refine k_pure 3 rfl (by kernel_rfl) (by kernel_rfl) (by kernel_rfl) (fun _ _ _ h => h) S19 (wants0 rfl) rfl (d := 24) (v := (.pointer (some ⟨r, 0, none⟩))) rfl (fun _ => (by kernel_rfl)) ?_
  refine k_pure 4 rfl (by kernel_rfl) (by kernel_rfl) (by kernel_rfl) (fun _ _ _ h => h) S19 (wants0 rfl) rfl (d := 25) (v := (.pointer (some ⟨r, 0, none⟩))) rfl (fun _ => (by kernel_rfl)) ?_
  refine k_val 5 rfl (by kernel_rfl) (by kernel_rfl) (by kernel_rfl) (fun _ _ _ h => h) S19 (wants0 rfl) rfl (by kernel_rfl) (d := 26) (v := (.int .u64 (bXor .u64 (bXor .u64 x (bShl .u64 x 13)) ((bXor .u64 x (bShl .u64 x 13)) / 128)))) rfl (fun _ H' => (e_load1 rfl (by kernel_rfl) (H'.cell 0 rfl rfl))) ?_
  refine k_pure 6 rfl (by kernel_rfl) (by kernel_rfl) (by kernel_rfl) (fun _ _ _ h => h) S19 (wants0 rfl) rfl (d := 27) (v := (.int .u64 (bShl .u64 (bXor .u64 (bXor .u64 x (bShl .u64 x 13)) ((bXor .u64 x (bShl .u64 x 13)) / 128)) 17))) rfl (fun _ => (e_shl rfl rfl (by decide))) ?_
  refine k_pure 7 rfl (by kernel_rfl) (by kernel_rfl) (by kernel_rfl) (fun _ _ _ h => h) S19 (wants0 rfl) rfl (d := 28) (v := (.int .u64 (bXor .u64 (bXor .u64 (bXor .u64 x (bShl .u64 x 13)) ((bXor .u64 x (bShl .u64 x 13)) / 128)) (bShl .u64 (bXor .u64 (bXor .u64 x (bShl .u64 x 13)) ((bXor .u64 x (bShl .u64 x 13)) / 128)) 17)))) rfl (fun _ => (by kernel_rfl)) ?_
  refine k_pure 8 rfl (by kernel_rfl) (by kernel_rfl) (by kernel_rfl) (fun _ _ _ h => h) S19 (wants0 rfl) rfl (d := 29) (v := (.pointer (some ⟨r, 0, none⟩))) rfl (fun _ => (by kernel_rfl)) ?_
  refine k_brk 9 (Sat w [restC w (cellC r 159 [.int .u64 x]).fp]) rfl (by kernel_rfl) (wants0 rfl) rfl (fun K20 hK20 => ?_)
  refine d_store (vs := ([(.int .u64 (bXor .u64 (bXor .u64 (bXor .u64 x (bShl .u64 x 13)) ((bXor .u64 x (bShl .u64 x 13)) / 128)) (bShl .u64 (bXor .u64 (bXor .u64 x (bShl .u64 x 13)) ((bXor .u64 x (bShl .u64 x 13)) / 128)) 17)))] : List Value)) rfl H18 0 rfl rfl rfl rfl (by kernel_rfl) (Nat.le_of_ble_eq_true (by kernel_rfl)) (Nat.le_of_ble_eq_true (by kernel_rfl)) (by kernel_rfl) ?_
  intro w21 (H22 : Sat w [cellC r 159 ([(.int .u64 (bXor .u64 (bXor .u64 (bXor .u64 x (bShl .u64 x 13)) ((bXor .u64 x (bShl .u64 x 13)) / 128)) (bShl .u64 (bXor .u64 (bXor .u64 x (bShl .u64 x 13)) ((bXor .u64 x (bShl .u64 x 13)) / 128)) 17)))] : List Value), restC w (cellC r 159 [.int .u64 x]).fp] w21)
  have S24 := H22.pick [1] (by decide)
  refine hK20 _ _ S24 ?_
  clear hK20 K20
  refine h_fin (by kernel_rfl) ?_
  refine then_normal ?_
  refine w_seq ?_
  refine w_lit ?_
  refine wl_pure (wants0 rfl) (d := 30) (v := (.pointer (some ⟨r, 0, none⟩))) rfl (by kernel_rfl) ?_
  refine wl_pure (wants0 rfl) (d := 31) (v := (.pointer (some ⟨r, 0, none⟩))) rfl (by kernel_rfl) ?_
  refine wl_pure (wants0 rfl) (d := 32) (v := (.int .u64 (bXor .u64 (bXor .u64 (bXor .u64 x (bShl .u64 x 13)) ((bXor .u64 x (bShl .u64 x 13)) / 128)) (bShl .u64 (bXor .u64 (bXor .u64 x (bShl .u64 x 13)) ((bXor .u64 x (bShl .u64 x 13)) / 128)) 17)))) rfl (e_load1 rfl (by kernel_rfl) (H22.cell 0 rfl rfl)) ?_
  refine wl_pure (wants0 rfl) (d := 2) (v := (.int .u64 (bXor .u64 (bXor .u64 (bXor .u64 x (bShl .u64 x 13)) ((bXor .u64 x (bShl .u64 x 13)) / 128)) (bShl .u64 (bXor .u64 (bXor .u64 x (bShl .u64 x 13)) ((bXor .u64 x (bShl .u64 x 13)) / 128)) 17)))) rfl (by kernel_rfl) ?_
  refine w_nil ?_
  refine then_normal ?_
  refine w_ret ?_
  refine end1 rfl (res_tmp (v := (.int .u64 (bXor .u64 (bXor .u64 (bXor .u64 x (bShl .u64 x 13)) ((bXor .u64 x (bShl .u64 x 13)) / 128)) (bShl .u64 (bXor .u64 (bXor .u64 x (bShl .u64 x 13)) ((bXor .u64 x (bShl .u64 x 13)) / 128)) 17)))) rfl) ?_
  exact ⟨bXor .u64 (bXor .u64 (bXor .u64 x (bShl .u64 x 13)) ((bXor .u64 x (bShl .u64 x 13)) / 128)) (bShl .u64 (bXor .u64 (bXor .u64 x (bShl .u64 x 13)) ((bXor .u64 x (bShl .u64 x 13)) / 128)) 17), rfl, bXor_u64 _ _, H22⟩

end Go.Proofs.Ytbpeofcoceaahaa
