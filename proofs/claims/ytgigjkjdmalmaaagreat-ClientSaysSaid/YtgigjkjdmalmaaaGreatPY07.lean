/- WHAT IS PROVED: contracts and plain laws of MinMax, Wr10. Conditions: stated with each. -/
import Derived.Lib.MinMax
import Derived.Test.YtgigjkjdmalmaaaGreatPY04
import Derived.Test.YtgigjkjdmalmaaaGreatPY06
set_option maxHeartbeats 4000000
set_option maxRecDepth 100000
namespace Go.Proofs.YtgigjkjdmalmaaaGreat
open Go.RowKit
section
variable {P : Program} {n : Nat} {f : Nat → Value} {w : World} {dst : Option Tmp} {ty : TypeId} {pos : String} {aft : Array Edge} {gd : Option (Nat × Bool)}
theorem e_minI {T : Array TypeId} {x y : Operand} {k : IntKind} {a b z : Int} (hx : ev n f x = .int k a) (hy : ev n f y = .int k b) (hz : min a b = z) :
  (execOp (ev n f) ⟨dst, .call { callee := .builtin .min, args := #[x, y], argTypes := T }, ty, pos, aft, gd⟩).run P w = .ok (.value (.int k z)) w := by
 have := Lib.run_min_ints (P := P) w T ty k k a b
 subst hz
 simp [execOp, resolve, invoke, builtin, hx, hy, this, Result.andThen]
theorem Zax {T : Array TypeId} {x y : Operand} {k : IntKind} {a b z : Int} (hx : ev n f x = .int k a) (hy : ev n f y = .int k b) (hz : min a b = z) :
  (execOp (ev n f) ⟨dst, .call { callee := .builtin .min, args := #[x, y], argTypes := T }, ty, pos, aft, gd⟩).run P w = .ok (.value (.int k z)) w := e_minI hx hy hz
theorem e_maxI {T : Array TypeId} {x y : Operand} {k : IntKind} {a b z : Int} (hx : ev n f x = .int k a) (hy : ev n f y = .int k b) (hz : max a b = z) :
  (execOp (ev n f) ⟨dst, .call { callee := .builtin .max, args := #[x, y], argTypes := T }, ty, pos, aft, gd⟩).run P w = .ok (.value (.int k z)) w := by
 have := Lib.run_max_ints (P := P) w T ty k k a b
 subst hz
 simp [execOp, resolve, invoke, builtin, hx, hy, this, Result.andThen]
end
theorem Zaf {f m : Nat} (hm : m < 128 ^ f) (h : 128 ≤ m) : 0 < f - 1 ∧ m / 128 < 128 ^ (f - 1) ∧ Zad f m = UInt8.ofNat (bOr .u8 ((m : Int) % 256) 128).toNat :: Zad (f - 1) (m / 128) := by
 cases f with
 | zero => simp at hm; omega
 | succ f =>
  have h1 : m / 128 < 128 ^ f := Nat.div_lt_of_lt_mul (by rw [Nat.pow_succ] at hm; omega)
  refine ⟨?_, h1, ?_⟩
  ·cases f with
   | zero => simp at h1; omega
   | succ f => simp
  ·rw [Z9V (by omega), show (((m : Int) % 128 + 128).toNat) = m % 128 + 128 by omega]
   conv => lhs; unfold Zad
   rw [if_neg (by omega)]; rfl
theorem Zae {f m : Nat} (hf : 0 < f) (h : m < 128) : Zad f m = [UInt8.ofNat ((m : Int) % 256).toNat] := by
 cases f with
 | zero => omega
 | succ f => unfold Zad; rw [if_pos h, show ((m : Int) % 256).toNat = m by omega]
def wrL (r : Nat) (a : Option Addr) (c : Nat) (B : List UInt8) : List Ck := [Z3 r 187 [.slice a B.length c], Zc 5 1 (.slice a B.length c) B.length (B.flatMap ZH)]
theorem Z6d (w : World) (r : Nat) (a0 : Option Addr) (c0 : Nat) (B : List UInt8) (hB : (ZL (wrL r a0 c0 B)).ok w) (hl : B.length ≤ 1000000) (n : Nat) (hn : n < 18446744073709551616) :
  Calls Tryz.prog 89 #[(.pointer (some ⟨r, 0, none⟩)), (.int .u64 ((n : Int)))] w fun e w' => ∃ a' c', e = .returned (.pointer (some ⟨r, 0, none⟩)) ∧ Sat w [Z3 r 187 [.slice a' (B ++ Z1k n).length c'], Zc 5 1 (.slice a' (B ++ Z1k n).length c') (B ++ Z1k n).length ((B ++ Z1k n).flatMap ZH), Z7 w (ZL (wrL r a0 c0 B)).fp] w' := by
 have H : Sat w [Z3 r 187 ([(.slice a0 B.length c0)] : List Value), Zc 5 1 (.slice a0 B.length c0) B.length (B.flatMap ZH), Z7 w (ZL (wrL r a0 c0 B)).fp] w := Sat.start (wrL r a0 c0 B) hB
 refine Zg Tryz.func89 rfl 33 rfl (Nat.le_of_ble_eq_true rfl) ?_
 refine Zf ?_
 refine Zt ?_
 refine Z6 (Z5 rfl) (d := 4) (v := (.pointer none)) rfl (by kernel_rfl) ?_
 refine Zu ?_
 refine Zb ?_
 refine Zf ?_
 refine ZA ?_
 refine ZW [1, 5, 6, 7, 8, 9, 10, 11, 12, 13, 14, 15, 16, 17, 18, 19, 20] (fun F_ W_ m_ => ∃ (m : Nat) (a : Option Addr) (c : Nat) (D : List UInt8) (f : Nat), F_ 1 = (.int .u64 ((m : Int))) ∧ (0 < f ∧ m < 128 ^ f ∧ m < 18446744073709551616) ∧ (D ++ Zad f m = B ++ Z1k n) ∧ (D.length + f ≤ B.length + 10) ∧ Sat w [Z3 r 187 ([(.slice a D.length c)] : List Value), Zc 5 1 (.slice a D.length c) D.length (D.flatMap ZH), Z7 w (ZL (wrL r a0 c0 B)).fp] W_ ∧ m_ = m + 1) _ ⟨n, a0, c0, B, 10, (show ((.int .u64 ((n : Int))) : Value) = _ by first | rfl | go_num), ⟨by omega, by omega, hn⟩, rfl, by omega, H, rfl⟩ ?_
 rintro g1 w2 _ ⟨m, a, c, D, f, v4, hm, hD, hf, H3, rfl⟩
 refine Zo 1 _ v4 ?_
 refine Zf ?_
 refine Zf ?_
 refine Zt ?_
 refine Z6 (Z5 rfl) (d := 5) (v := (.int .u64 ((m : Int)))) rfl (by kernel_rfl) ?_
 refine Z6 (Z5 rfl) (d := 6) (v := (.bool (decide ((m : Int) ≥ 128)))) rfl (by kernel_rfl) ?_
 refine Zu ?_
 refine Zb ?_
 refine (ZC (decide ((m : Int) ≥ 128))).elim (fun b6 => ?_) (fun b6 => ?_)
 ·have g7 := of_decide_eq_true b6
  refine Zo 6 (.bool true) (congrArg Value.bool b6) ?_
  have g8 := of_decide_eq_true b6
  refine Z0R rfl ?_
  refine ZF ?_
  refine Zb ?_
  refine ZA ?_
  refine Zf ?_
  refine Zt ?_
  refine Z6 (Z5 rfl) (d := 7) (v := (.pointer (some ⟨r, 0, none⟩))) rfl (by kernel_rfl) ?_
  refine Z6 (Z5 rfl) (d := 8) (v := (.pointer (some ⟨r, 0, none⟩))) rfl (by kernel_rfl) ?_
  refine Z6 (Z5 rfl) (d := 9) (v := (.pointer (some ⟨r, 0, none⟩))) rfl (by kernel_rfl) ?_
  refine Z6 (Z5 rfl) (d := 10) (v := (.pointer (some ⟨r, 0, none⟩))) rfl (by kernel_rfl) ?_
  refine Z6 (Z5 rfl) (d := 11) (v := (.slice a D.length c)) rfl (Zi rfl (by kernel_rfl) (H3.cell 0 rfl rfl)) ?_
  refine Z6 (Z5 rfl) (d := 12) (v := (.int .u64 ((m : Int)))) rfl (by kernel_rfl) ?_
  refine Z6 (Z5 rfl) (d := 13) (v := (.int .u8 ((m : Int) % 256))) rfl (Z0I (z := (m : Int)) (by kernel_rfl) (by rw [Z2X])) ?_
  refine Z6 (Z5 rfl) (d := 14) (v := (.int .u8 (bOr .u8 ((m : Int) % 256) 128))) rfl (by kernel_rfl) ?_
  refine Z0B (Z5 rfl) (fun K9 hK9 => ?_)
  refine Z2j (e := 5) (size := 1) (bytes := 1) (z := (.int .u8 (0))) (pvs := [(0, (.int .u8 (bOr .u8 ((m : Int) % 256) 128)))]) (vs := ([(.int .u8 (bOr .u8 ((m : Int) % 256) 128))] : List Value)) rfl H3 (by kernel_rfl) (by kernel_rfl) (by kernel_rfl) (by kernel_rfl) (by kernel_rfl) rfl rfl ?_
  intro b10 w11 (H12 : Sat w [Z3 r 187 ([(.slice a D.length c)] : List Value), Zc 5 1 (.slice a D.length c) D.length (D.flatMap ZH), Z7 w (ZL (wrL r a0 c0 B)).fp, Zc 5 1 (.slice (some ⟨b10, 0, none⟩) 1 1) 1 ([(.int .u8 (bOr .u8 ((m : Int) % 256) 128))] : List Value)] w11)
  have H13 : Sat w [Z3 r 187 ([(.slice a D.length c)] : List Value), Zc 5 1 (.slice a D.length c) D.length (D.flatMap ZH), Z7 w (ZL (wrL r a0 c0 B)).fp, Zc 5 1 (.slice (some ⟨b10, 0, none⟩) 1 1) 1 ([UInt8.ofNat (bOr .u8 ((m : Int) % 256) 128).toNat].flatMap ZH)] w11 := H12.cast (by rw [Z5t (by rw [Z9V (by omega)]; omega)])
  refine hK9 _ _ ?_
  clear hK9 K9
  refine Z0B (Z5 rfl) (fun K14 hK14 => ?_)
  refine Z0n (T := 38) (e := 5) (size := 1) (bytes := 1) rfl H13 (by kernel_rfl) 1 3 rfl rfl rfl rfl (Z0e ZH Z1b [UInt8.ofNat (bOr .u8 ((m : Int) % 256) 128).toNat]) (by omega) (by omega) ?_
  intro v15 w16 (H17 : Sat w [Z3 r 187 ([(.slice a D.length c)] : List Value), Zc 5 1 v15 (D.length + 1) ((D.flatMap ZH) ++ ([UInt8.ofNat (bOr .u8 ((m : Int) % 256) 128).toNat].flatMap ZH)), Z7 w (ZL (wrL r a0 c0 B)).fp, Zc 5 1 (.slice (some ⟨b10, 0, none⟩) 1 1) 1 ([UInt8.ofNat (bOr .u8 ((m : Int) % 256) 128).toNat].flatMap ZH)] w16)
  have H20 : Sat w [Z3 r 187 ([(.slice a D.length c)] : List Value), Zc 5 1 v15 ((D ++ [UInt8.ofNat (bOr .u8 ((m : Int) % 256) 128).toNat]).length) ((D ++ [UInt8.ofNat (bOr .u8 ((m : Int) % 256) 128).toNat]).flatMap ZH), Z7 w (ZL (wrL r a0 c0 B)).fp, Zc 5 1 (.slice (some ⟨b10, 0, none⟩) 1 1) 1 ([UInt8.ofNat (bOr .u8 ((m : Int) % 256) 128).toNat].flatMap ZH)] w16 := H17.cast (by simp only [List.length_append, List.flatMap_append] <;> rfl)
  obtain ⟨a18, c19, rfl⟩ := Ze (H20.at 1 rfl)
  refine hK14 _ _ ?_
  clear hK14 K14
  refine Z6 (Z5 rfl) (d := 17) (v := (.pointer (some ⟨r, 0, none⟩))) rfl (by kernel_rfl) ?_
  refine Z6 (Z5 rfl) (d := 18) (v := (.pointer (some ⟨r, 0, none⟩))) rfl (by kernel_rfl) ?_
  refine Z0B (Z5 rfl) (fun K21 hK21 => ?_)
  refine Z2S (vs := ([(.slice a18 ((D ++ [UInt8.ofNat (bOr .u8 ((m : Int) % 256) 128).toNat]).length) c19)] : List Value)) rfl H20 0 rfl rfl rfl rfl (by kernel_rfl) (Nat.le_of_ble_eq_true (by kernel_rfl)) (Nat.le_of_ble_eq_true (by kernel_rfl)) (by kernel_rfl) ?_
  intro w22 (H23 : Sat w [Z3 r 187 ([(.slice a18 ((D ++ [UInt8.ofNat (bOr .u8 ((m : Int) % 256) 128).toNat]).length) c19)] : List Value), Zc 5 1 (.slice a18 ((D ++ [UInt8.ofNat (bOr .u8 ((m : Int) % 256) 128).toNat]).length) c19) ((D ++ [UInt8.ofNat (bOr .u8 ((m : Int) % 256) 128).toNat]).length) ((D ++ [UInt8.ofNat (bOr .u8 ((m : Int) % 256) 128).toNat]).flatMap ZH), Z7 w (ZL (wrL r a0 c0 B)).fp, Zc 5 1 (.slice (some ⟨b10, 0, none⟩) 1 1) 1 ([UInt8.ofNat (bOr .u8 ((m : Int) % 256) 128).toNat].flatMap ZH)] w22)
  refine hK21 _ _ ?_
  clear hK21 K21
  refine Zu ?_
  refine Zb ?_
  refine Zt ?_
  refine Z6 (Z5 rfl) (d := 19) (v := (.int .u64 ((m : Int)))) rfl (by kernel_rfl) ?_
  refine Z6 (Z5 rfl) (d := 20) (v := (.int .u64 ((m : Int) / 128))) rfl (Z8r rfl rfl (by decide) (by decide) (by decide)) ?_
  refine Z6 (Z5 rfl) (d := 1) (v := (.int .u64 ((m : Int) / 128))) rfl (by kernel_rfl) ?_
  refine Zu ?_
  refine Zw ?_
  have hv := Zaf hm.2.1 (show 128 ≤ m by omega)
  have H25 : Sat w [Z3 r 187 ([(.slice a18 ((D ++ [UInt8.ofNat (bOr .u8 ((m : Int) % 256) 128).toNat]).length) c19)] : List Value), Zc 5 1 (.slice a18 ((D ++ [UInt8.ofNat (bOr .u8 ((m : Int) % 256) 128).toNat]).length) c19) ((D ++ [UInt8.ofNat (bOr .u8 ((m : Int) % 256) 128).toNat]).length) ((D ++ [UInt8.ofNat (bOr .u8 ((m : Int) % 256) 128).toNat]).flatMap ZH), Z7 w (ZL (wrL r a0 c0 B)).fp] w22 := H23.pick [0, 1, 2] (by decide)
  refine ZE ?_ _ ⟨(m / 128), a18, c19, (D ++ [UInt8.ofNat (bOr .u8 ((m : Int) % 256) 128).toNat]), (f - 1), (show ((.int .u64 ((m : Int) / 128)) : Value) = _ by first | rfl | go_num), ⟨hv.1, hv.2.1, by omega⟩, (by rw [hv.2.2] at hD; simpa using hD), (by rw [List.length_append]; simp only [List.length_cons, List.length_nil]; omega), H25, rfl⟩ (by omega)
  exact (Za rfl (Za rfl (Za rfl (Za rfl (Za rfl (Za rfl (Za rfl (Za rfl (Za rfl (Za rfl (Za rfl (Za rfl (Za rfl (Za rfl (Za rfl (Za rfl (Za rfl (Za rfl (Za rfl (Z3k))))))))))))))))))))
 ·have g26 := of_decide_eq_false b6
  refine Zo 6 (.bool false) (congrArg Value.bool b6) ?_
  have g27 := of_decide_eq_false b6
  refine Z0y rfl ?_
  refine Z5m ?_
  refine Z26 ?_
  refine Z2g ?_
  refine Z3p ?_
  refine Zb ?_
  refine Zf ?_
  refine Zt ?_
  refine Z6 (Z5 rfl) (d := 21) (v := (.pointer (some ⟨r, 0, none⟩))) rfl (by kernel_rfl) ?_
  refine Z6 (Z5 rfl) (d := 22) (v := (.pointer (some ⟨r, 0, none⟩))) rfl (by kernel_rfl) ?_
  refine Z6 (Z5 rfl) (d := 23) (v := (.pointer (some ⟨r, 0, none⟩))) rfl (by kernel_rfl) ?_
  refine Z6 (Z5 rfl) (d := 24) (v := (.pointer (some ⟨r, 0, none⟩))) rfl (by kernel_rfl) ?_
  refine Z6 (Z5 rfl) (d := 25) (v := (.slice a D.length c)) rfl (Zi rfl (by kernel_rfl) (H3.cell 0 rfl rfl)) ?_
  refine Z6 (Z5 rfl) (d := 26) (v := (.int .u64 ((m : Int)))) rfl (by kernel_rfl) ?_
  refine Z6 (Z5 rfl) (d := 27) (v := (.int .u8 ((m : Int) % 256))) rfl (Z0I (z := (m : Int)) (by kernel_rfl) (by rw [Z2X])) ?_
  refine Z0B (Z5 rfl) (fun K28 hK28 => ?_)
  refine Z2j (e := 5) (size := 1) (bytes := 1) (z := (.int .u8 (0))) (pvs := [(0, (.int .u8 ((m : Int) % 256)))]) (vs := ([(.int .u8 ((m : Int) % 256))] : List Value)) rfl H3 (by kernel_rfl) (by kernel_rfl) (by kernel_rfl) (by kernel_rfl) (by kernel_rfl) rfl rfl ?_
  intro b29 w30 (H31 : Sat w [Z3 r 187 ([(.slice a D.length c)] : List Value), Zc 5 1 (.slice a D.length c) D.length (D.flatMap ZH), Z7 w (ZL (wrL r a0 c0 B)).fp, Zc 5 1 (.slice (some ⟨b29, 0, none⟩) 1 1) 1 ([(.int .u8 ((m : Int) % 256))] : List Value)] w30)
  have H32 : Sat w [Z3 r 187 ([(.slice a D.length c)] : List Value), Zc 5 1 (.slice a D.length c) D.length (D.flatMap ZH), Z7 w (ZL (wrL r a0 c0 B)).fp, Zc 5 1 (.slice (some ⟨b29, 0, none⟩) 1 1) 1 ([UInt8.ofNat ((m : Int) % 256).toNat].flatMap ZH)] w30 := H31.cast (by rw [Z5t (by omega)])
  refine hK28 _ _ ?_
  clear hK28 K28
  refine Z0B (Z5 rfl) (fun K33 hK33 => ?_)
  refine Z0n (T := 38) (e := 5) (size := 1) (bytes := 1) rfl H32 (by kernel_rfl) 1 3 rfl rfl rfl rfl (Z0e ZH Z1b [UInt8.ofNat ((m : Int) % 256).toNat]) (by omega) (by omega) ?_
  intro v34 w35 (H36 : Sat w [Z3 r 187 ([(.slice a D.length c)] : List Value), Zc 5 1 v34 (D.length + 1) ((D.flatMap ZH) ++ ([UInt8.ofNat ((m : Int) % 256).toNat].flatMap ZH)), Z7 w (ZL (wrL r a0 c0 B)).fp, Zc 5 1 (.slice (some ⟨b29, 0, none⟩) 1 1) 1 ([UInt8.ofNat ((m : Int) % 256).toNat].flatMap ZH)] w35)
  have H39 : Sat w [Z3 r 187 ([(.slice a D.length c)] : List Value), Zc 5 1 v34 ((D ++ [UInt8.ofNat ((m : Int) % 256).toNat]).length) ((D ++ [UInt8.ofNat ((m : Int) % 256).toNat]).flatMap ZH), Z7 w (ZL (wrL r a0 c0 B)).fp, Zc 5 1 (.slice (some ⟨b29, 0, none⟩) 1 1) 1 ([UInt8.ofNat ((m : Int) % 256).toNat].flatMap ZH)] w35 := H36.cast (by simp only [List.length_append, List.flatMap_append] <;> rfl)
  obtain ⟨a37, c38, rfl⟩ := Ze (H39.at 1 rfl)
  refine hK33 _ _ ?_
  clear hK33 K33
  refine Z6 (Z5 rfl) (d := 30) (v := (.pointer (some ⟨r, 0, none⟩))) rfl (by kernel_rfl) ?_
  refine Z6 (Z5 rfl) (d := 31) (v := (.pointer (some ⟨r, 0, none⟩))) rfl (by kernel_rfl) ?_
  refine Z0B (Z5 rfl) (fun K40 hK40 => ?_)
  refine Z2S (vs := ([(.slice a37 ((D ++ [UInt8.ofNat ((m : Int) % 256).toNat]).length) c38)] : List Value)) rfl H39 0 rfl rfl rfl rfl (by kernel_rfl) (Nat.le_of_ble_eq_true (by kernel_rfl)) (Nat.le_of_ble_eq_true (by kernel_rfl)) (by kernel_rfl) ?_
  intro w41 (H42 : Sat w [Z3 r 187 ([(.slice a37 ((D ++ [UInt8.ofNat ((m : Int) % 256).toNat]).length) c38)] : List Value), Zc 5 1 (.slice a37 ((D ++ [UInt8.ofNat ((m : Int) % 256).toNat]).length) c38) ((D ++ [UInt8.ofNat ((m : Int) % 256).toNat]).length) ((D ++ [UInt8.ofNat ((m : Int) % 256).toNat]).flatMap ZH), Z7 w (ZL (wrL r a0 c0 B)).fp, Zc 5 1 (.slice (some ⟨b29, 0, none⟩) 1 1) 1 ([UInt8.ofNat ((m : Int) % 256).toNat].flatMap ZH)] w41)
  refine hK40 _ _ ?_
  clear hK40 K40
  refine Zu ?_
  refine Zb ?_
  refine Zf ?_
  refine Zt ?_
  refine Z6 (Z5 rfl) (d := 32) (v := (.pointer (some ⟨r, 0, none⟩))) rfl (by kernel_rfl) ?_
  refine Z6 (Z5 rfl) (d := 4) (v := (.pointer (some ⟨r, 0, none⟩))) rfl (by kernel_rfl) ?_
  refine Zu ?_
  refine Zb ?_
  refine Zz ?_
  refine Z1x rfl (Z0c (v := (.pointer (some ⟨r, 0, none⟩))) rfl) ?_
  have hv := Zae hm.1 (show m < 128 by omega)
  have hfin : (D ++ [UInt8.ofNat ((m : Int) % 256).toNat]) = B ++ Z1k n := by rw [← hD, hv]
  exact ⟨a37, c38, rfl, (H42.pick [0, 1, 2] (by decide)).cast (by show [_, _, _] = _; rw [hfin])⟩
theorem Z0z (w : World) (r : Nat) (a0 : Option Addr) (c0 : Nat) (B : List UInt8) (hB : (ZL (wrL r a0 c0 B)).ok w) (hl : B.length ≤ 1000000) (n : Int) (hn : n ≤ 9223372036854775807) :
  Calls Tryz.prog 71 #[(.pointer (some ⟨r, 0, none⟩)), (.int .i64 (n))] w fun e w' => ∃ a' c', e = .returned (.pointer (some ⟨r, 0, none⟩)) ∧ Sat w [Z3 r 187 [.slice a' (B ++ Z1k (max 0 n).toNat).length c'], Zc 5 1 (.slice a' (B ++ Z1k (max 0 n).toNat).length c') (B ++ Z1k (max 0 n).toNat).length ((B ++ Z1k (max 0 n).toNat).flatMap ZH), Z7 w (ZL (wrL r a0 c0 B)).fp] w' := by
 have H : Sat w [Z3 r 187 ([(.slice a0 B.length c0)] : List Value), Zc 5 1 (.slice a0 B.length c0) B.length (B.flatMap ZH), Z7 w (ZL (wrL r a0 c0 B)).fp] w := Sat.start (wrL r a0 c0 B) hB
 obtain ⟨k, hk⟩ : ∃ k : Nat, (k : Int) = max 0 n := ⟨(max 0 n).toNat, by omega⟩
 refine Zg Tryz.func71 rfl 10 rfl (Nat.le_of_ble_eq_true rfl) ?_
 refine Zf ?_
 refine Zt ?_
 refine Z6 (Z5 rfl) (d := 4) (v := (.pointer none)) rfl (by kernel_rfl) ?_
 refine Zu ?_
 refine Zb ?_
 refine Zf ?_
 refine Zt ?_
 refine Z6 (Z5 rfl) (d := 5) (v := (.pointer (some ⟨r, 0, none⟩))) rfl (by kernel_rfl) ?_
 refine Z6 (Z5 rfl) (d := 6) (v := (.int .i64 (n))) rfl (by kernel_rfl) ?_
 refine Z6 (Z5 rfl) (d := 7) (v := (.int .i64 (max (0 : Int) n))) rfl (e_maxI (k := .i64) (a := 0) (b := n) (z := max (0 : Int) n) rfl rfl rfl) ?_
 refine Z6 (Z5 rfl) (d := 8) (v := (.int .u64 ((k : Int)))) rfl (Z0I (z := max (0 : Int) n) (by kernel_rfl) ((by rw [← hk]; exact Z3o (by omega)))) ?_
 refine Z0B (Z5 rfl) (fun K1 hK1 => ?_)
 refine Z0L (d := 9) rfl (by kernel_rfl) (Z6d w r a0 c0 B (H.fin [0, 1] (by decide) rfl) (by omega) k (by omega)) ?_
 rintro _ w2 ⟨a4, c5, rfl, T3⟩
 have H6 : Sat w [Z3 r 187 ([(.slice a4 ((B ++ Z1k k).length) c5)] : List Value), Zc 5 1 (.slice a4 ((B ++ Z1k k).length) c5) ((B ++ Z1k k).length) ((B ++ Z1k k).flatMap ZH), Z7 w (ZL (wrL r a0 c0 B)).fp] w2 := (Sat.turnL (L' := [Z3 r 187 ([(.slice a4 ((B ++ Z1k k).length) c5)] : List Value), Zc 5 1 (.slice a4 ((B ++ Z1k k).length) c5) ((B ++ Z1k k).length) ((B ++ Z1k k).flatMap ZH)]) (R := [Z7 w (ZL (wrL r a0 c0 B)).fp]) H [0, 1] [2] (by decide) (by kernel_rfl) rfl T3).pick [0, 1, 2] (by decide)
 refine ⟨_, rfl, ?_⟩
 refine hK1 _ _ ?_
 clear hK1 K1
 refine Z6 (Z5 rfl) (d := 4) (v := (.pointer (some ⟨r, 0, none⟩))) rfl (by kernel_rfl) ?_
 refine Zu ?_
 refine Zb ?_
 refine Zz ?_
 refine Z1x rfl (Z0c (v := (.pointer (some ⟨r, 0, none⟩))) rfl) ?_
 have hkn : (max 0 n).toNat = k := by omega
 exact ⟨a4, c5, rfl, by rw [hkn]; exact H6⟩
theorem Z1i (w : World) (r : Nat) (a0 : Option Addr) (c0 : Nat) (B : List UInt8) (hB : (ZL (wrL r a0 c0 B)).ok w) (hl : B.length ≤ 1000000) :
  Calls Tryz.prog 74 #[(.pointer (some ⟨r, 0, none⟩))] w fun e w' => ∃ u, e = .returned u ∧ Sat w [Z3 r 187 [.slice a0 B.length c0], Zc 5 1 (.slice a0 B.length c0) B.length (B.flatMap ZH), Zc 5 1 u B.length (B.flatMap ZH), Z7 w (ZL (wrL r a0 c0 B)).fp] w' := by
 have H : Sat w [Z3 r 187 ([(.slice a0 B.length c0)] : List Value), Zc 5 1 (.slice a0 B.length c0) B.length (B.flatMap ZH), Z7 w (ZL (wrL r a0 c0 B)).fp] w := Sat.start (wrL r a0 c0 B) hB
 refine Zg Tryz.func74 rfl 8 rfl (Nat.le_of_ble_eq_true rfl) ?_
 refine Zf ?_
 refine Zt ?_
 refine Z6 (Z5 rfl) (d := 2) (v := (.slice none 0 0)) rfl (by kernel_rfl) ?_
 refine Zu ?_
 refine Zb ?_
 refine Zf ?_
 refine Zt ?_
 refine Z6 (Z5 rfl) (d := 3) (v := (.pointer (some ⟨r, 0, none⟩))) rfl (by kernel_rfl) ?_
 refine Z6 (Z5 rfl) (d := 4) (v := (.pointer (some ⟨r, 0, none⟩))) rfl (by kernel_rfl) ?_
 refine Z6 (Z5 rfl) (d := 5) (v := (.pointer (some ⟨r, 0, none⟩))) rfl (by kernel_rfl) ?_
 refine Z6 (Z5 rfl) (d := 6) (v := (.slice a0 B.length c0)) rfl (Zi rfl (by kernel_rfl) (H.cell 0 rfl rfl)) ?_
 refine Z0B (Z5 rfl) (fun K1 hK1 => ?_)
 refine Z7o (T := 38) (e := 5) (size := 1) (bytes := 1) rfl H (by kernel_rfl) (H.at 1 rfl) rfl rfl (Z0e ZH Z1b B) (by omega) (by omega) ?_
 intro v2 w3 (H4 : Sat w [Z3 r 187 ([(.slice a0 B.length c0)] : List Value), Zc 5 1 (.slice a0 B.length c0) B.length (B.flatMap ZH), Z7 w (ZL (wrL r a0 c0 B)).fp, Zc 5 1 v2 B.length (B.flatMap ZH)] w3)
 obtain ⟨a5, c6, rfl⟩ := Ze (H4.at 3 rfl)
 refine hK1 _ _ ?_
 clear hK1 K1
 refine Z6 (Z5 rfl) (d := 2) (v := (.slice a5 B.length c6)) rfl (by kernel_rfl) ?_
 refine Zu ?_
 refine Zb ?_
 refine Zz ?_
 refine Z1x rfl (Z0c (v := (.slice a5 B.length c6)) rfl) ?_
 exact ⟨_, rfl, H4.pick [0, 1, 3, 2] (by decide)⟩
end Go.Proofs.YtgigjkjdmalmaaaGreat
