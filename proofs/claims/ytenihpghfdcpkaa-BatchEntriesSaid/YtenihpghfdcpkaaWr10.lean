/- WHAT IS PROVED: the program's writer: contracts. Conditions: stated with each. -/
import Derived.Test.YtenihpghfdcpkaaVarB
import Derived.Test.YtenihpghfdcpkaaMinMax
namespace Go.Proofs.Ytenihpghfdcpkaa
open Go.RowKit
theorem varF_more {f m : Nat} (hm : m < 128 ^ f) (h : 128 ≤ m) : 0 < f - 1 ∧ m / 128 < 128 ^ (f - 1) ∧ varF f m = UInt8.ofNat (bOr .u8 ((m : Int) % 256) 128).toNat :: varF (f - 1) (m / 128) := by
  cases f with
  | zero => simp at hm; omega
  | succ f =>
    have h1 : m / 128 < 128 ^ f := Nat.div_lt_of_lt_mul (by rw [Nat.pow_succ] at hm; omega)
    refine ⟨?_, h1, ?_⟩
    · cases f with
      | zero => simp at h1; omega
      | succ f => simp
    · rw [or_more (by omega), show (((m : Int) % 128 + 128).toNat) = m % 128 + 128 by omega]
      conv => lhs; unfold varF
      rw [if_neg (by omega)]; rfl
theorem varF_last {f m : Nat} (hf : 0 < f) (h : m < 128) : varF f m = [UInt8.ofNat ((m : Int) % 256).toNat] := by
  cases f with
  | zero => omega
  | succ f => unfold varF; rw [if_pos h, show ((m : Int) % 256).toNat = m by omega]
def wrL (r : Nat) (a : Option Addr) (c : Nat) (B : List UInt8) : List Ck := [cellC r 159 [.slice a B.length c], rowC 5 1 (.slice a B.length c) B.length (B.flatMap encB)]

set_option maxRecDepth 100000 in
set_option maxHeartbeats 400000 in
theorem wNum_any (w : World) (r : Nat) (a0 : Option Addr) (c0 : Nat) (B : List UInt8) (hB : (sepC (wrL r a0 c0 B)).ok w) (hl : B.length ≤ 1000000) (n : Nat) (hn : n < 18446744073709551616) :
    Calls Try.prog 73 #[(.pointer (some ⟨r, 0, none⟩)), (.int .u64 ((n : Int)))] w fun e w' => ∃ a' c', e = .returned (.pointer (some ⟨r, 0, none⟩)) ∧ Sat w [cellC r 159 [.slice a' (B ++ varB n).length c'], rowC 5 1 (.slice a' (B ++ varB n).length c') (B ++ varB n).length ((B ++ varB n).flatMap encB), restC w (sepC (wrL r a0 c0 B)).fp] w' := by
  have H : Sat w [cellC r 159 ([(.slice a0 B.length c0)] : List Value), rowC 5 1 (.slice a0 B.length c0) B.length (B.flatMap encB), restC w (sepC (wrL r a0 c0 B)).fp] w := Sat.start (wrL r a0 c0 B) hB
  refine calls_fr Try.func73 rfl 33 rfl (Nat.le_of_ble_eq_true rfl) ?_
  refine w_seq ?_
  refine w_lit ?_
  refine wl_pure (wants0 rfl) (d := 4) (v := (.pointer none)) rfl (by kernel_rfl) ?_
  refine w_nil ?_
  refine then_normal ?_
  refine w_seq ?_
  refine w_block ?_
  refine wp_round [1, 5, 6, 7, 8, 9, 10, 11, 12, 13, 14, 15, 16, 17, 18, 19, 20] (fun F_ W_ m_ => ∃ (m : Nat) (a : Option Addr) (c : Nat) (D : List UInt8) (f : Nat), F_ 1 = (.int .u64 ((m : Int))) ∧ (0 < f ∧ m < 128 ^ f ∧ m < 18446744073709551616) ∧ (D ++ varF f m = B ++ varB n) ∧ (D.length + f ≤ B.length + 10) ∧ Sat w [cellC r 159 ([(.slice a D.length c)] : List Value), rowC 5 1 (.slice a D.length c) D.length (D.flatMap encB), restC w (sepC (wrL r a0 c0 B)).fp] W_ ∧ m_ = m + 1) _ ⟨n, a0, c0, B, 10, (show ((.int .u64 ((n : Int))) : Value) = _ by first | rfl | go_num), ⟨by omega, by omega, hn⟩, rfl, by omega, H, rfl⟩ ?_
  rintro g1 w2 _ ⟨m, a, c, D, f, v4, hm, hD, hf, H3, rfl⟩
  refine wp_know 1 _ v4 ?_
  refine w_seq ?_
  refine w_seq ?_
  refine w_lit ?_
  refine wl_pure (wants0 rfl) (d := 5) (v := (.int .u64 ((m : Int)))) rfl (by kernel_rfl) ?_
  refine wl_pure (wants0 rfl) (d := 6) (v := (.bool (decide ((m : Int) ≥ 128)))) rfl (by kernel_rfl) ?_
  refine w_nil ?_
  refine then_normal ?_
  refine (bsplit (decide ((m : Int) ≥ 128))).elim (fun b6 => ?_) (fun b6 => ?_)
  · have g7 := of_decide_eq_true b6
    refine wp_know 6 (.bool true) (congrArg Value.bool b6) ?_
    have g8 := of_decide_eq_true b6
    refine wp_ift rfl ?_
    refine w_skip ?_
    refine then_normal ?_
    refine w_block ?_
    refine w_seq ?_
    refine w_lit ?_
    refine wl_pure (wants0 rfl) (d := 7) (v := (.pointer (some ⟨r, 0, none⟩))) rfl (by kernel_rfl) ?_
    refine wl_pure (wants0 rfl) (d := 8) (v := (.pointer (some ⟨r, 0, none⟩))) rfl (by kernel_rfl) ?_
    refine wl_pure (wants0 rfl) (d := 9) (v := (.pointer (some ⟨r, 0, none⟩))) rfl (by kernel_rfl) ?_
    refine wl_pure (wants0 rfl) (d := 10) (v := (.pointer (some ⟨r, 0, none⟩))) rfl (by kernel_rfl) ?_
    refine wl_pure (wants0 rfl) (d := 11) (v := (.slice a D.length c)) rfl (e_load1 rfl (by kernel_rfl) (H3.cell 0 rfl rfl)) ?_
    refine wl_pure (wants0 rfl) (d := 12) (v := (.int .u64 ((m : Int)))) rfl (by kernel_rfl) ?_
    refine wl_pure (wants0 rfl) (d := 13) (v := (.int .u8 ((m : Int) % 256))) rfl (e_int (z := (m : Int)) (by kernel_rfl) (by rw [wrap_u8_mod])) ?_
    refine wl_pure (wants0 rfl) (d := 14) (v := (.int .u8 (bOr .u8 ((m : Int) % 256) 128))) rfl (by kernel_rfl) ?_
    refine wl_do (wants0 rfl) (fun K9 hK9 => ?_)
    refine d_buildSlice (e := 5) (size := 1) (bytes := 1) (z := (.int .u8 (0))) (pvs := [(0, (.int .u8 (bOr .u8 ((m : Int) % 256) 128)))]) (vs := ([(.int .u8 (bOr .u8 ((m : Int) % 256) 128))] : List Value)) rfl H3 (by kernel_rfl) (by kernel_rfl) (by kernel_rfl) (by kernel_rfl) (by kernel_rfl) rfl rfl ?_
    intro b10 w11 (H12 : Sat w [cellC r 159 ([(.slice a D.length c)] : List Value), rowC 5 1 (.slice a D.length c) D.length (D.flatMap encB), restC w (sepC (wrL r a0 c0 B)).fp, rowC 5 1 (.slice (some ⟨b10, 0, none⟩) 1 1) 1 ([(.int .u8 (bOr .u8 ((m : Int) % 256) 128))] : List Value)] w11)
    have H13 : Sat w [cellC r 159 ([(.slice a D.length c)] : List Value), rowC 5 1 (.slice a D.length c) D.length (D.flatMap encB), restC w (sepC (wrL r a0 c0 B)).fp, rowC 5 1 (.slice (some ⟨b10, 0, none⟩) 1 1) 1 ([UInt8.ofNat (bOr .u8 ((m : Int) % 256) 128).toNat].flatMap encB)] w11 := H12.cast (by rw [byte_enc (by rw [or_more (by omega)]; omega)])
    refine hK9 _ _ ?_
    clear hK9 K9
    refine wl_do (wants0 rfl) (fun K14 hK14 => ?_)
    refine d_append (T := 81) (e := 5) (size := 1) (bytes := 1) rfl H13 (by kernel_rfl) 1 3 rfl rfl rfl rfl (flat_one encB encB_one [UInt8.ofNat (bOr .u8 ((m : Int) % 256) 128).toNat]) (by omega) (by omega) ?_
    intro v15 w16 (H17 : Sat w [cellC r 159 ([(.slice a D.length c)] : List Value), rowC 5 1 v15 (D.length + 1) ((D.flatMap encB) ++ ([UInt8.ofNat (bOr .u8 ((m : Int) % 256) 128).toNat].flatMap encB)), restC w (sepC (wrL r a0 c0 B)).fp, rowC 5 1 (.slice (some ⟨b10, 0, none⟩) 1 1) 1 ([UInt8.ofNat (bOr .u8 ((m : Int) % 256) 128).toNat].flatMap encB)] w16)
    have H20 : Sat w [cellC r 159 ([(.slice a D.length c)] : List Value), rowC 5 1 v15 ((D ++ [UInt8.ofNat (bOr .u8 ((m : Int) % 256) 128).toNat]).length) ((D ++ [UInt8.ofNat (bOr .u8 ((m : Int) % 256) 128).toNat]).flatMap encB), restC w (sepC (wrL r a0 c0 B)).fp, rowC 5 1 (.slice (some ⟨b10, 0, none⟩) 1 1) 1 ([UInt8.ofNat (bOr .u8 ((m : Int) % 256) 128).toNat].flatMap encB)] w16 := H17.cast (by simp only [List.length_append, List.flatMap_append] <;> rfl)
    obtain ⟨a18, c19, rfl⟩ := ownsRow_shape (H20.at 1 rfl)
    refine hK14 _ _ ?_
    clear hK14 K14
    refine wl_pure (wants0 rfl) (d := 17) (v := (.pointer (some ⟨r, 0, none⟩))) rfl (by kernel_rfl) ?_
    refine wl_pure (wants0 rfl) (d := 18) (v := (.pointer (some ⟨r, 0, none⟩))) rfl (by kernel_rfl) ?_
    refine wl_do (wants0 rfl) (fun K21 hK21 => ?_)
    refine d_store (vs := ([(.slice a18 ((D ++ [UInt8.ofNat (bOr .u8 ((m : Int) % 256) 128).toNat]).length) c19)] : List Value)) rfl H20 0 rfl rfl rfl rfl (by kernel_rfl) (Nat.le_of_ble_eq_true (by kernel_rfl)) (Nat.le_of_ble_eq_true (by kernel_rfl)) (by kernel_rfl) ?_
    intro w22 (H23 : Sat w [cellC r 159 ([(.slice a18 ((D ++ [UInt8.ofNat (bOr .u8 ((m : Int) % 256) 128).toNat]).length) c19)] : List Value), rowC 5 1 (.slice a18 ((D ++ [UInt8.ofNat (bOr .u8 ((m : Int) % 256) 128).toNat]).length) c19) ((D ++ [UInt8.ofNat (bOr .u8 ((m : Int) % 256) 128).toNat]).length) ((D ++ [UInt8.ofNat (bOr .u8 ((m : Int) % 256) 128).toNat]).flatMap encB), restC w (sepC (wrL r a0 c0 B)).fp, rowC 5 1 (.slice (some ⟨b10, 0, none⟩) 1 1) 1 ([UInt8.ofNat (bOr .u8 ((m : Int) % 256) 128).toNat].flatMap encB)] w22)
    refine hK21 _ _ ?_
    clear hK21 K21
    refine w_nil ?_
    refine then_normal ?_
    refine w_lit ?_
    refine wl_pure (wants0 rfl) (d := 19) (v := (.int .u64 ((m : Int)))) rfl (by kernel_rfl) ?_
    refine wl_pure (wants0 rfl) (d := 20) (v := (.int .u64 ((m : Int) / 128))) rfl (e_shr rfl rfl (by decide) (by decide) (by decide)) ?_
    refine wl_pure (wants0 rfl) (d := 1) (v := (.int .u64 ((m : Int) / 128))) rfl (by kernel_rfl) ?_
    refine w_nil ?_
    refine blk_normal ?_
    have hv := varF_more hm.2.1 (show 128 ≤ m by omega)
    have H25 : Sat w [cellC r 159 ([(.slice a18 ((D ++ [UInt8.ofNat (bOr .u8 ((m : Int) % 256) 128).toNat]).length) c19)] : List Value), rowC 5 1 (.slice a18 ((D ++ [UInt8.ofNat (bOr .u8 ((m : Int) % 256) 128).toNat]).length) c19) ((D ++ [UInt8.ofNat (bOr .u8 ((m : Int) % 256) 128).toNat]).length) ((D ++ [UInt8.ofNat (bOr .u8 ((m : Int) % 256) 128).toNat]).flatMap encB), restC w (sepC (wrL r a0 c0 B)).fp] w22 := H23.pick [0, 1, 2] (by decide)
    refine round_back ?_ _ ⟨(m / 128), a18, c19, (D ++ [UInt8.ofNat (bOr .u8 ((m : Int) % 256) 128).toNat]), (f - 1), (show ((.int .u64 ((m : Int) / 128)) : Value) = _ by first | rfl | go_num), ⟨hv.1, hv.2.1, by omega⟩, (by rw [hv.2.2] at hD; simpa using hD), (by rw [List.length_append]; simp only [List.length_cons, List.length_nil]; omega), H25, rfl⟩ (by omega)
    exact (same_upd rfl (same_upd rfl (same_upd rfl (same_upd rfl (same_upd rfl (same_upd rfl (same_upd rfl (same_upd rfl (same_upd rfl (same_upd rfl (same_upd rfl (same_upd rfl (same_upd rfl (same_upd rfl (same_upd rfl (same_upd rfl (same_upd rfl (same_upd rfl (same_upd rfl (same_ovr))))))))))))))))))))
  · have g26 := of_decide_eq_false b6
    refine wp_know 6 (.bool false) (congrArg Value.bool b6) ?_
    have g27 := of_decide_eq_false b6
    refine wp_iff rfl ?_
    refine w_exit ?_
    refine then_exit ?_
    refine back_exit ?_
    refine blk_hit ?_
    refine then_normal ?_
    refine w_seq ?_
    refine w_lit ?_
    refine wl_pure (wants0 rfl) (d := 21) (v := (.pointer (some ⟨r, 0, none⟩))) rfl (by kernel_rfl) ?_
    refine wl_pure (wants0 rfl) (d := 22) (v := (.pointer (some ⟨r, 0, none⟩))) rfl (by kernel_rfl) ?_
    refine wl_pure (wants0 rfl) (d := 23) (v := (.pointer (some ⟨r, 0, none⟩))) rfl (by kernel_rfl) ?_
    refine wl_pure (wants0 rfl) (d := 24) (v := (.pointer (some ⟨r, 0, none⟩))) rfl (by kernel_rfl) ?_
    refine wl_pure (wants0 rfl) (d := 25) (v := (.slice a D.length c)) rfl (e_load1 rfl (by kernel_rfl) (H3.cell 0 rfl rfl)) ?_
    refine wl_pure (wants0 rfl) (d := 26) (v := (.int .u64 ((m : Int)))) rfl (by kernel_rfl) ?_
    refine wl_pure (wants0 rfl) (d := 27) (v := (.int .u8 ((m : Int) % 256))) rfl (e_int (z := (m : Int)) (by kernel_rfl) (by rw [wrap_u8_mod])) ?_
    refine wl_do (wants0 rfl) (fun K28 hK28 => ?_)
    refine d_buildSlice (e := 5) (size := 1) (bytes := 1) (z := (.int .u8 (0))) (pvs := [(0, (.int .u8 ((m : Int) % 256)))]) (vs := ([(.int .u8 ((m : Int) % 256))] : List Value)) rfl H3 (by kernel_rfl) (by kernel_rfl) (by kernel_rfl) (by kernel_rfl) (by kernel_rfl) rfl rfl ?_
    intro b29 w30 (H31 : Sat w [cellC r 159 ([(.slice a D.length c)] : List Value), rowC 5 1 (.slice a D.length c) D.length (D.flatMap encB), restC w (sepC (wrL r a0 c0 B)).fp, rowC 5 1 (.slice (some ⟨b29, 0, none⟩) 1 1) 1 ([(.int .u8 ((m : Int) % 256))] : List Value)] w30)
    have H32 : Sat w [cellC r 159 ([(.slice a D.length c)] : List Value), rowC 5 1 (.slice a D.length c) D.length (D.flatMap encB), restC w (sepC (wrL r a0 c0 B)).fp, rowC 5 1 (.slice (some ⟨b29, 0, none⟩) 1 1) 1 ([UInt8.ofNat ((m : Int) % 256).toNat].flatMap encB)] w30 := H31.cast (by rw [byte_enc (by omega)])
    refine hK28 _ _ ?_
    clear hK28 K28
    refine wl_do (wants0 rfl) (fun K33 hK33 => ?_)
    refine d_append (T := 81) (e := 5) (size := 1) (bytes := 1) rfl H32 (by kernel_rfl) 1 3 rfl rfl rfl rfl (flat_one encB encB_one [UInt8.ofNat ((m : Int) % 256).toNat]) (by omega) (by omega) ?_
    intro v34 w35 (H36 : Sat w [cellC r 159 ([(.slice a D.length c)] : List Value), rowC 5 1 v34 (D.length + 1) ((D.flatMap encB) ++ ([UInt8.ofNat ((m : Int) % 256).toNat].flatMap encB)), restC w (sepC (wrL r a0 c0 B)).fp, rowC 5 1 (.slice (some ⟨b29, 0, none⟩) 1 1) 1 ([UInt8.ofNat ((m : Int) % 256).toNat].flatMap encB)] w35)
    have H39 : Sat w [cellC r 159 ([(.slice a D.length c)] : List Value), rowC 5 1 v34 ((D ++ [UInt8.ofNat ((m : Int) % 256).toNat]).length) ((D ++ [UInt8.ofNat ((m : Int) % 256).toNat]).flatMap encB), restC w (sepC (wrL r a0 c0 B)).fp, rowC 5 1 (.slice (some ⟨b29, 0, none⟩) 1 1) 1 ([UInt8.ofNat ((m : Int) % 256).toNat].flatMap encB)] w35 := H36.cast (by simp only [List.length_append, List.flatMap_append] <;> rfl)
    obtain ⟨a37, c38, rfl⟩ := ownsRow_shape (H39.at 1 rfl)
    refine hK33 _ _ ?_
    clear hK33 K33
    refine wl_pure (wants0 rfl) (d := 30) (v := (.pointer (some ⟨r, 0, none⟩))) rfl (by kernel_rfl) ?_
    refine wl_pure (wants0 rfl) (d := 31) (v := (.pointer (some ⟨r, 0, none⟩))) rfl (by kernel_rfl) ?_
    refine wl_do (wants0 rfl) (fun K40 hK40 => ?_)
    refine d_store (vs := ([(.slice a37 ((D ++ [UInt8.ofNat ((m : Int) % 256).toNat]).length) c38)] : List Value)) rfl H39 0 rfl rfl rfl rfl (by kernel_rfl) (Nat.le_of_ble_eq_true (by kernel_rfl)) (Nat.le_of_ble_eq_true (by kernel_rfl)) (by kernel_rfl) ?_
    intro w41 (H42 : Sat w [cellC r 159 ([(.slice a37 ((D ++ [UInt8.ofNat ((m : Int) % 256).toNat]).length) c38)] : List Value), rowC 5 1 (.slice a37 ((D ++ [UInt8.ofNat ((m : Int) % 256).toNat]).length) c38) ((D ++ [UInt8.ofNat ((m : Int) % 256).toNat]).length) ((D ++ [UInt8.ofNat ((m : Int) % 256).toNat]).flatMap encB), restC w (sepC (wrL r a0 c0 B)).fp, rowC 5 1 (.slice (some ⟨b29, 0, none⟩) 1 1) 1 ([UInt8.ofNat ((m : Int) % 256).toNat].flatMap encB)] w41)
    refine hK40 _ _ ?_
    clear hK40 K40
    refine w_nil ?_
    refine then_normal ?_
    refine w_seq ?_
    refine w_lit ?_
    refine wl_pure (wants0 rfl) (d := 32) (v := (.pointer (some ⟨r, 0, none⟩))) rfl (by kernel_rfl) ?_
    refine wl_pure (wants0 rfl) (d := 4) (v := (.pointer (some ⟨r, 0, none⟩))) rfl (by kernel_rfl) ?_
    refine w_nil ?_
    refine then_normal ?_
    refine w_ret ?_
    refine end1 rfl (res_tmp (v := (.pointer (some ⟨r, 0, none⟩))) rfl) ?_
    have hv := varF_last hm.1 (show m < 128 by omega)
    have hfin : (D ++ [UInt8.ofNat ((m : Int) % 256).toNat]) = B ++ varB n := by rw [← hD, hv]
    exact ⟨a37, c38, rfl, (H42.pick [0, 1, 2] (by decide)).cast (by show [_, _, _] = _; rw [hfin])⟩

set_option maxRecDepth 100000 in
set_option maxHeartbeats 400000 in
theorem wInt_any (w : World) (r : Nat) (a0 : Option Addr) (c0 : Nat) (B : List UInt8) (hB : (sepC (wrL r a0 c0 B)).ok w) (hl : B.length ≤ 1000000) (n : Int) (hn : n ≤ 9223372036854775807) :
    Calls Try.prog 53 #[(.pointer (some ⟨r, 0, none⟩)), (.int .i64 (n))] w fun e w' => ∃ a' c', e = .returned (.pointer (some ⟨r, 0, none⟩)) ∧ Sat w [cellC r 159 [.slice a' (B ++ varB (max 0 n).toNat).length c'], rowC 5 1 (.slice a' (B ++ varB (max 0 n).toNat).length c') (B ++ varB (max 0 n).toNat).length ((B ++ varB (max 0 n).toNat).flatMap encB), restC w (sepC (wrL r a0 c0 B)).fp] w' := by
  have H : Sat w [cellC r 159 ([(.slice a0 B.length c0)] : List Value), rowC 5 1 (.slice a0 B.length c0) B.length (B.flatMap encB), restC w (sepC (wrL r a0 c0 B)).fp] w := Sat.start (wrL r a0 c0 B) hB
  obtain ⟨k, hk⟩ : ∃ k : Nat, (k : Int) = max 0 n := ⟨(max 0 n).toNat, by omega⟩
  refine calls_fr Try.func53 rfl 10 rfl (Nat.le_of_ble_eq_true rfl) ?_
  refine w_seq ?_
  refine w_lit ?_
  refine wl_pure (wants0 rfl) (d := 4) (v := (.pointer none)) rfl (by kernel_rfl) ?_
  refine w_nil ?_
  refine then_normal ?_
  refine w_seq ?_
  refine w_lit ?_
  refine wl_pure (wants0 rfl) (d := 5) (v := (.pointer (some ⟨r, 0, none⟩))) rfl (by kernel_rfl) ?_
  refine wl_pure (wants0 rfl) (d := 6) (v := (.int .i64 (n))) rfl (by kernel_rfl) ?_
  refine wl_pure (wants0 rfl) (d := 7) (v := (.int .i64 (max (0 : Int) n))) rfl (e_maxI (k := .i64) (a := 0) (b := n) (z := max (0 : Int) n) rfl rfl rfl) ?_
  refine wl_pure (wants0 rfl) (d := 8) (v := (.int .u64 ((k : Int)))) rfl (e_int (z := max (0 : Int) n) (by kernel_rfl) ((by rw [← hk]; exact wrap_u64 (by omega)))) ?_
  refine wl_do (wants0 rfl) (fun K1 hK1 => ?_)
  refine d_call (d := 9) rfl (by kernel_rfl) (wNum_any w r a0 c0 B (H.fin [0, 1] (by decide) rfl) (by omega) k (by omega)) ?_
  rintro _ w2 ⟨a4, c5, rfl, T3⟩
  have H6 : Sat w [cellC r 159 ([(.slice a4 ((B ++ varB k).length) c5)] : List Value), rowC 5 1 (.slice a4 ((B ++ varB k).length) c5) ((B ++ varB k).length) ((B ++ varB k).flatMap encB), restC w (sepC (wrL r a0 c0 B)).fp] w2 := (Sat.turnL (L' := [cellC r 159 ([(.slice a4 ((B ++ varB k).length) c5)] : List Value), rowC 5 1 (.slice a4 ((B ++ varB k).length) c5) ((B ++ varB k).length) ((B ++ varB k).flatMap encB)]) (R := [restC w (sepC (wrL r a0 c0 B)).fp]) H [0, 1] [2] (by decide) (by kernel_rfl) rfl T3).pick [0, 1, 2] (by decide)
  refine ⟨_, rfl, ?_⟩
  refine hK1 _ _ ?_
  clear hK1 K1
  refine wl_pure (wants0 rfl) (d := 4) (v := (.pointer (some ⟨r, 0, none⟩))) rfl (by kernel_rfl) ?_
  refine w_nil ?_
  refine then_normal ?_
  refine w_ret ?_
  refine end1 rfl (res_tmp (v := (.pointer (some ⟨r, 0, none⟩))) rfl) ?_
  have hkn : (max 0 n).toNat = k := by omega
  exact ⟨a4, c5, rfl, by rw [hkn]; exact H6⟩

set_option maxRecDepth 100000 in
set_option maxHeartbeats 400000 in
theorem wBytes_any (w : World) (r : Nat) (a0 : Option Addr) (c0 : Nat) (B : List UInt8) (hB : (sepC (wrL r a0 c0 B)).ok w) (hl : B.length ≤ 1000000) :
    Calls Try.prog 54 #[(.pointer (some ⟨r, 0, none⟩))] w fun e w' => ∃ u, e = .returned u ∧ Sat w [cellC r 159 [.slice a0 B.length c0], rowC 5 1 (.slice a0 B.length c0) B.length (B.flatMap encB), rowC 5 1 u B.length (B.flatMap encB), restC w (sepC (wrL r a0 c0 B)).fp] w' := by
  have H : Sat w [cellC r 159 ([(.slice a0 B.length c0)] : List Value), rowC 5 1 (.slice a0 B.length c0) B.length (B.flatMap encB), restC w (sepC (wrL r a0 c0 B)).fp] w := Sat.start (wrL r a0 c0 B) hB
  refine calls_fr Try.func54 rfl 8 rfl (Nat.le_of_ble_eq_true rfl) ?_
  refine w_seq ?_
  refine w_lit ?_
  refine wl_pure (wants0 rfl) (d := 2) (v := (.slice none 0 0)) rfl (by kernel_rfl) ?_
  refine w_nil ?_
  refine then_normal ?_
  refine w_seq ?_
  refine w_lit ?_
  refine wl_pure (wants0 rfl) (d := 3) (v := (.pointer (some ⟨r, 0, none⟩))) rfl (by kernel_rfl) ?_
  refine wl_pure (wants0 rfl) (d := 4) (v := (.pointer (some ⟨r, 0, none⟩))) rfl (by kernel_rfl) ?_
  refine wl_pure (wants0 rfl) (d := 5) (v := (.pointer (some ⟨r, 0, none⟩))) rfl (by kernel_rfl) ?_
  refine wl_pure (wants0 rfl) (d := 6) (v := (.slice a0 B.length c0)) rfl (e_load1 rfl (by kernel_rfl) (H.cell 0 rfl rfl)) ?_
  refine wl_do (wants0 rfl) (fun K1 hK1 => ?_)
  refine d_appendNil (T := 81) (e := 5) (size := 1) (bytes := 1) rfl H (by kernel_rfl) (H.at 1 rfl) rfl rfl (flat_one encB encB_one B) (by omega) (by omega) ?_
  intro v2 w3 (H4 : Sat w [cellC r 159 ([(.slice a0 B.length c0)] : List Value), rowC 5 1 (.slice a0 B.length c0) B.length (B.flatMap encB), restC w (sepC (wrL r a0 c0 B)).fp, rowC 5 1 v2 B.length (B.flatMap encB)] w3)
  obtain ⟨a5, c6, rfl⟩ := ownsRow_shape (H4.at 3 rfl)
  refine hK1 _ _ ?_
  clear hK1 K1
  refine wl_pure (wants0 rfl) (d := 2) (v := (.slice a5 B.length c6)) rfl (by kernel_rfl) ?_
  refine w_nil ?_
  refine then_normal ?_
  refine w_ret ?_
  refine end1 rfl (res_tmp (v := (.slice a5 B.length c6)) rfl) ?_
  exact ⟨_, rfl, H4.pick [0, 1, 3, 2] (by decide)⟩

def wtL (r : Nat) (a : Option Addr) (c : Nat) (B : List UInt8) (tv : Value) (tx : List UInt8) : List Ck := wrL r a c B ++ [rowC 5 1 tv tx.length (tx.flatMap encB)]
set_option maxRecDepth 100000 in
set_option maxHeartbeats 400000 in
theorem wRow_any (w : World) (r : Nat) (a0 : Option Addr) (c0 : Nat) (B : List UInt8) (tv : Value) (tx : List UInt8) (hB : (sepC (wtL r a0 c0 B tv tx)).ok w) (hl : B.length ≤ 1000000) (ht : tx.length ≤ 1000000) :
    Calls Try.prog 72 #[(.pointer (some ⟨r, 0, none⟩)), tv] w fun e w' => ∃ a' c', e = .returned (.pointer (some ⟨r, 0, none⟩)) ∧ Sat w [cellC r 159 [.slice a' (B ++ varB tx.length ++ tx).length c'], rowC 5 1 (.slice a' (B ++ varB tx.length ++ tx).length c') (B ++ varB tx.length ++ tx).length ((B ++ varB tx.length ++ tx).flatMap encB), rowC 5 1 tv tx.length (tx.flatMap encB), restC w (sepC (wtL r a0 c0 B tv tx)).fp] w' := by
  have H : Sat w [cellC r 159 ([(.slice a0 B.length c0)] : List Value), rowC 5 1 (.slice a0 B.length c0) B.length (B.flatMap encB), rowC 5 1 tv tx.length (tx.flatMap encB), restC w (sepC (wtL r a0 c0 B tv tx)).fp] w := Sat.start (wtL r a0 c0 B tv tx) hB
  have hvl := varF_len 10 (max 0 (tx.length : Int)).toNat
  have hbl : (B ++ varB (max 0 (tx.length : Int)).toNat).length ≤ B.length + 10 := by rw [List.length_append]; unfold varB; omega
  refine calls_fr Try.func72 rfl 19 rfl (Nat.le_of_ble_eq_true rfl) ?_
  refine w_seq ?_
  refine w_lit ?_
  refine wl_pure (wants0 rfl) (d := 4) (v := (.pointer none)) rfl (by kernel_rfl) ?_
  refine w_nil ?_
  refine then_normal ?_
  refine w_seq ?_
  refine w_lit ?_
  refine wl_pure (wants0 rfl) (d := 5) (v := (.pointer (some ⟨r, 0, none⟩))) rfl (by kernel_rfl) ?_
  refine wl_pure (wants0 rfl) (d := 6) (v := tv) rfl (by kernel_rfl) ?_
  refine wl_pure (wants0 rfl) (d := 7) (v := (.int .i64 ((tx.length : Int)))) rfl (e_lenRow (E := 5) (by kernel_rfl) (H.at 2 rfl) rfl) ?_
  refine wl_do (wants0 rfl) (fun K1 hK1 => ?_)
  refine d_call (d := 8) rfl (by kernel_rfl) (wInt_any w r a0 c0 B (H.fin [0, 1] (by decide) rfl) (by omega) (tx.length : Int) (by omega)) ?_
  rintro _ w2 ⟨a4, c5, rfl, T3⟩
  have H6 : Sat w [cellC r 159 ([(.slice a4 ((B ++ varB (max 0 (tx.length : Int)).toNat).length) c5)] : List Value), rowC 5 1 (.slice a4 ((B ++ varB (max 0 (tx.length : Int)).toNat).length) c5) ((B ++ varB (max 0 (tx.length : Int)).toNat).length) ((B ++ varB (max 0 (tx.length : Int)).toNat).flatMap encB), rowC 5 1 tv tx.length (tx.flatMap encB), restC w (sepC (wtL r a0 c0 B tv tx)).fp] w2 := (Sat.turnL (L' := [cellC r 159 ([(.slice a4 ((B ++ varB (max 0 (tx.length : Int)).toNat).length) c5)] : List Value), rowC 5 1 (.slice a4 ((B ++ varB (max 0 (tx.length : Int)).toNat).length) c5) ((B ++ varB (max 0 (tx.length : Int)).toNat).length) ((B ++ varB (max 0 (tx.length : Int)).toNat).flatMap encB)]) (R := [rowC 5 1 tv tx.length (tx.flatMap encB), restC w (sepC (wtL r a0 c0 B tv tx)).fp]) H [0, 1] [2, 3] (by decide) (by kernel_rfl) rfl T3).pick [0, 1, 2, 3] (by decide)
  refine ⟨_, rfl, ?_⟩
  refine hK1 _ _ ?_
  clear hK1 K1
  refine w_nil ?_
  refine then_normal ?_
  refine w_seq ?_
  refine w_lit ?_
  refine wl_pure (wants0 rfl) (d := 9) (v := (.pointer (some ⟨r, 0, none⟩))) rfl (by kernel_rfl) ?_
  refine wl_pure (wants0 rfl) (d := 10) (v := (.pointer (some ⟨r, 0, none⟩))) rfl (by kernel_rfl) ?_
  refine wl_pure (wants0 rfl) (d := 11) (v := (.pointer (some ⟨r, 0, none⟩))) rfl (by kernel_rfl) ?_
  refine wl_pure (wants0 rfl) (d := 12) (v := (.pointer (some ⟨r, 0, none⟩))) rfl (by kernel_rfl) ?_
  refine wl_pure (wants0 rfl) (d := 13) (v := (.slice a4 ((B ++ varB (max 0 (tx.length : Int)).toNat).length) c5)) rfl (e_load1 rfl (by kernel_rfl) (H6.cell 0 rfl rfl)) ?_
  refine wl_pure (wants0 rfl) (d := 14) (v := tv) rfl (by kernel_rfl) ?_
  refine wl_do (wants0 rfl) (fun K7 hK7 => ?_)
  refine d_append (T := 81) (e := 5) (size := 1) (bytes := 1) rfl H6 (by kernel_rfl) 1 2 rfl rfl rfl rfl (flat_one encB encB_one tx) (by omega) (by omega) ?_
  intro v8 w9 (H10 : Sat w [cellC r 159 ([(.slice a4 ((B ++ varB (max 0 (tx.length : Int)).toNat).length) c5)] : List Value), rowC 5 1 v8 ((B ++ varB (max 0 (tx.length : Int)).toNat).length + tx.length) (((B ++ varB (max 0 (tx.length : Int)).toNat).flatMap encB) ++ (tx.flatMap encB)), rowC 5 1 tv tx.length (tx.flatMap encB), restC w (sepC (wtL r a0 c0 B tv tx)).fp] w9)
  have H13 : Sat w [cellC r 159 ([(.slice a4 ((B ++ varB (max 0 (tx.length : Int)).toNat).length) c5)] : List Value), rowC 5 1 v8 (((B ++ varB (max 0 (tx.length : Int)).toNat) ++ tx).length) (((B ++ varB (max 0 (tx.length : Int)).toNat) ++ tx).flatMap encB), rowC 5 1 tv tx.length (tx.flatMap encB), restC w (sepC (wtL r a0 c0 B tv tx)).fp] w9 := H10.cast (by simp only [List.length_append, List.flatMap_append] <;> rfl)
  obtain ⟨a11, c12, rfl⟩ := ownsRow_shape (H13.at 1 rfl)
  refine hK7 _ _ ?_
  clear hK7 K7
  refine wl_pure (wants0 rfl) (d := 16) (v := (.pointer (some ⟨r, 0, none⟩))) rfl (by kernel_rfl) ?_
  refine wl_pure (wants0 rfl) (d := 17) (v := (.pointer (some ⟨r, 0, none⟩))) rfl (by kernel_rfl) ?_
  refine wl_do (wants0 rfl) (fun K14 hK14 => ?_)
  refine d_store (vs := ([(.slice a11 (((B ++ varB (max 0 (tx.length : Int)).toNat) ++ tx).length) c12)] : List Value)) rfl H13 0 rfl rfl rfl rfl (by kernel_rfl) (Nat.le_of_ble_eq_true (by kernel_rfl)) (Nat.le_of_ble_eq_true (by kernel_rfl)) (by kernel_rfl) ?_
  intro w15 (H16 : Sat w [cellC r 159 ([(.slice a11 (((B ++ varB (max 0 (tx.length : Int)).toNat) ++ tx).length) c12)] : List Value), rowC 5 1 (.slice a11 (((B ++ varB (max 0 (tx.length : Int)).toNat) ++ tx).length) c12) (((B ++ varB (max 0 (tx.length : Int)).toNat) ++ tx).length) (((B ++ varB (max 0 (tx.length : Int)).toNat) ++ tx).flatMap encB), rowC 5 1 tv tx.length (tx.flatMap encB), restC w (sepC (wtL r a0 c0 B tv tx)).fp] w15)
  refine hK14 _ _ ?_
  clear hK14 K14
  refine w_nil ?_
  refine then_normal ?_
  refine w_seq ?_
  refine w_lit ?_
  refine wl_pure (wants0 rfl) (d := 18) (v := (.pointer (some ⟨r, 0, none⟩))) rfl (by kernel_rfl) ?_
  refine wl_pure (wants0 rfl) (d := 4) (v := (.pointer (some ⟨r, 0, none⟩))) rfl (by kernel_rfl) ?_
  refine w_nil ?_
  refine then_normal ?_
  refine w_ret ?_
  refine end1 rfl (res_tmp (v := (.pointer (some ⟨r, 0, none⟩))) rfl) ?_
  have hk : (max 0 (tx.length : Int)).toNat = tx.length := by omega
  exact ⟨a11, c12, rfl, (H16.pick [0, 1, 2, 3] (by decide)).cast (by show [_, _, _, _] = _; rw [hk])⟩

end Go.Proofs.Ytenihpghfdcpkaa
