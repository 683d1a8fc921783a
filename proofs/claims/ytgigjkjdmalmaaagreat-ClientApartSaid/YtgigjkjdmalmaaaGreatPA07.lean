/- WHAT IS PROVED: contracts and plain laws of Wr10, Wt. Conditions: stated with each. -/
import Derived.Test.YtgigjkjdmalmaaaGreatPA06
set_option maxHeartbeats 4000000
set_option maxRecDepth 100000
namespace Go.Proofs.YtgigjkjdmalmaaaGreat
open Go.RowKit
theorem Z3O {f m : Nat} (hm : m < 128 ^ f) (h : 128 ≤ m) : 0 < f - 1 ∧ m / 128 < 128 ^ (f - 1) ∧ Z4u f m = UInt8.ofNat (bOr .u8 ((m : Int) % 256) 128).toNat :: Z4u (f - 1) (m / 128) := by
 cases f with
 | zero => simp at hm; omega
 | succ f =>
  have h1 : m / 128 < 128 ^ f := Nat.div_lt_of_lt_mul (by rw [Nat.pow_succ] at hm; omega)
  refine ⟨?_, h1, ?_⟩
  ·cases f with
   | zero => simp at h1; omega
   | succ f => simp
  ·rw [Z49 (by omega), show (((m : Int) % 128 + 128).toNat) = m % 128 + 128 by omega]
   conv => lhs; unfold Z4u
   rw [if_neg (by omega)]; rfl
theorem Z3N {f m : Nat} (hf : 0 < f) (h : m < 128) : Z4u f m = [UInt8.ofNat ((m : Int) % 256).toNat] := by
 cases f with
 | zero => omega
 | succ f => unfold Z4u; rw [if_pos h, show ((m : Int) % 256).toNat = m by omega]
def wrL (r : Nat) (a : Option Addr) (c : Nat) (B : List UInt8) : List Ck := [Z5 r 187 [.slice a B.length c], Zd 5 1 (.slice a B.length c) B.length (B.flatMap Zi)]
theorem Z6d (w : World) (r : Nat) (a0 : Option Addr) (c0 : Nat) (B : List UInt8) (hB : (ZF (wrL r a0 c0 B)).ok w) (hl : B.length ≤ 1000000) (n : Nat) (hn : n < 18446744073709551616) :
  Calls Tryz.prog 89 #[(.pointer (some ⟨r, 0, none⟩)), (.int .u64 ((n : Int)))] w fun e w' => ∃ a' c', e = .returned (.pointer (some ⟨r, 0, none⟩)) ∧ Sat w [Z5 r 187 [.slice a' (B ++ Z1H n).length c'], Zd 5 1 (.slice a' (B ++ Z1H n).length c') (B ++ Z1H n).length ((B ++ Z1H n).flatMap Zi), Zb w (ZF (wrL r a0 c0 B)).fp] w' := by
 have H : Sat w [Z5 r 187 ([(.slice a0 B.length c0)] : List Value), Zd 5 1 (.slice a0 B.length c0) B.length (B.flatMap Zi), Zb w (ZF (wrL r a0 c0 B)).fp] w := Sat.start (wrL r a0 c0 B) hB
 refine Zx Tryz.func89 rfl 33 rfl (Nat.le_of_ble_eq_true rfl) ?_
 refine Zg ?_
 refine Zn ?_
 refine Z3 (Z1 rfl) (d := 4) (v := (.pointer none)) rfl (by kernel_rfl) ?_
 refine Zm ?_
 refine Z7 ?_
 refine Zg ?_
 refine ZB ?_
 refine ZU [1, 5, 6, 7, 8, 9, 10, 11, 12, 13, 14, 15, 16, 17, 18, 19, 20] (fun F_ W_ m_ => ∃ (m : Nat) (a : Option Addr) (c : Nat) (D : List UInt8) (f : Nat), F_ 1 = (.int .u64 ((m : Int))) ∧ (0 < f ∧ m < 128 ^ f ∧ m < 18446744073709551616) ∧ (D ++ Z4u f m = B ++ Z1H n) ∧ (D.length + f ≤ B.length + 10) ∧ Sat w [Z5 r 187 ([(.slice a D.length c)] : List Value), Zd 5 1 (.slice a D.length c) D.length (D.flatMap Zi), Zb w (ZF (wrL r a0 c0 B)).fp] W_ ∧ m_ = m + 1) _ ⟨n, a0, c0, B, 10, (show ((.int .u64 ((n : Int))) : Value) = _ by first | rfl | go_num), ⟨by omega, by omega, hn⟩, rfl, by omega, H, rfl⟩ ?_
 rintro g1 w2 _ ⟨m, a, c, D, f, v4, hm, hD, hf, H3, rfl⟩
 refine Zs 1 _ v4 ?_
 refine Zg ?_
 refine Zg ?_
 refine Zn ?_
 refine Z3 (Z1 rfl) (d := 5) (v := (.int .u64 ((m : Int)))) rfl (by kernel_rfl) ?_
 refine Z3 (Z1 rfl) (d := 6) (v := (.bool (decide ((m : Int) ≥ 128)))) rfl (by kernel_rfl) ?_
 refine Zm ?_
 refine Z7 ?_
 refine (Z06 (decide ((m : Int) ≥ 128))).elim (fun b6 => ?_) (fun b6 => ?_)
 ·have g7 := of_decide_eq_true b6
  refine Zs 6 (.bool true) (congrArg Value.bool b6) ?_
  have g8 := of_decide_eq_true b6
  refine Z0u rfl ?_
  refine ZN ?_
  refine Z7 ?_
  refine ZB ?_
  refine Zg ?_
  refine Zn ?_
  refine Z3 (Z1 rfl) (d := 7) (v := (.pointer (some ⟨r, 0, none⟩))) rfl (by kernel_rfl) ?_
  refine Z3 (Z1 rfl) (d := 8) (v := (.pointer (some ⟨r, 0, none⟩))) rfl (by kernel_rfl) ?_
  refine Z3 (Z1 rfl) (d := 9) (v := (.pointer (some ⟨r, 0, none⟩))) rfl (by kernel_rfl) ?_
  refine Z3 (Z1 rfl) (d := 10) (v := (.pointer (some ⟨r, 0, none⟩))) rfl (by kernel_rfl) ?_
  refine Z3 (Z1 rfl) (d := 11) (v := (.slice a D.length c)) rfl (Zj rfl (by kernel_rfl) (H3.cell 0 rfl rfl)) ?_
  refine Z3 (Z1 rfl) (d := 12) (v := (.int .u64 ((m : Int)))) rfl (by kernel_rfl) ?_
  refine Z3 (Z1 rfl) (d := 13) (v := (.int .u8 ((m : Int) % 256))) rfl (Z05 (z := (m : Int)) (by kernel_rfl) (by rw [Z1n])) ?_
  refine Z3 (Z1 rfl) (d := 14) (v := (.int .u8 (bOr .u8 ((m : Int) % 256) 128))) rfl (by kernel_rfl) ?_
  refine ZE (Z1 rfl) (fun K9 hK9 => ?_)
  refine ZP (e := 5) (size := 1) (bytes := 1) (z := (.int .u8 (0))) (pvs := [(0, (.int .u8 (bOr .u8 ((m : Int) % 256) 128)))]) (vs := ([(.int .u8 (bOr .u8 ((m : Int) % 256) 128))] : List Value)) rfl H3 (by kernel_rfl) (by kernel_rfl) (by kernel_rfl) (by kernel_rfl) (by kernel_rfl) rfl rfl ?_
  intro b10 w11 (H12 : Sat w [Z5 r 187 ([(.slice a D.length c)] : List Value), Zd 5 1 (.slice a D.length c) D.length (D.flatMap Zi), Zb w (ZF (wrL r a0 c0 B)).fp, Zd 5 1 (.slice (some ⟨b10, 0, none⟩) 1 1) 1 ([(.int .u8 (bOr .u8 ((m : Int) % 256) 128))] : List Value)] w11)
  have H13 : Sat w [Z5 r 187 ([(.slice a D.length c)] : List Value), Zd 5 1 (.slice a D.length c) D.length (D.flatMap Zi), Zb w (ZF (wrL r a0 c0 B)).fp, Zd 5 1 (.slice (some ⟨b10, 0, none⟩) 1 1) 1 ([UInt8.ofNat (bOr .u8 ((m : Int) % 256) 128).toNat].flatMap Zi)] w11 := H12.cast (by rw [Z1y (by rw [Z49 (by omega)]; omega)])
  refine hK9 _ _ ?_
  clear hK9 K9
  refine ZE (Z1 rfl) (fun K14 hK14 => ?_)
  refine Z0p (T := 38) (e := 5) (size := 1) (bytes := 1) rfl H13 (by kernel_rfl) 1 3 rfl rfl rfl rfl (Z0f Zi Z0e [UInt8.ofNat (bOr .u8 ((m : Int) % 256) 128).toNat]) (by omega) (by omega) ?_
  intro v15 w16 (H17 : Sat w [Z5 r 187 ([(.slice a D.length c)] : List Value), Zd 5 1 v15 (D.length + 1) ((D.flatMap Zi) ++ ([UInt8.ofNat (bOr .u8 ((m : Int) % 256) 128).toNat].flatMap Zi)), Zb w (ZF (wrL r a0 c0 B)).fp, Zd 5 1 (.slice (some ⟨b10, 0, none⟩) 1 1) 1 ([UInt8.ofNat (bOr .u8 ((m : Int) % 256) 128).toNat].flatMap Zi)] w16)
  have H20 : Sat w [Z5 r 187 ([(.slice a D.length c)] : List Value), Zd 5 1 v15 ((D ++ [UInt8.ofNat (bOr .u8 ((m : Int) % 256) 128).toNat]).length) ((D ++ [UInt8.ofNat (bOr .u8 ((m : Int) % 256) 128).toNat]).flatMap Zi), Zb w (ZF (wrL r a0 c0 B)).fp, Zd 5 1 (.slice (some ⟨b10, 0, none⟩) 1 1) 1 ([UInt8.ofNat (bOr .u8 ((m : Int) % 256) 128).toNat].flatMap Zi)] w16 := H17.cast (by simp only [List.length_append, List.flatMap_append] <;> rfl)
  obtain ⟨a18, c19, rfl⟩ := Zo (H20.at 1 rfl)
  refine hK14 _ _ ?_
  clear hK14 K14
  refine Z3 (Z1 rfl) (d := 17) (v := (.pointer (some ⟨r, 0, none⟩))) rfl (by kernel_rfl) ?_
  refine Z3 (Z1 rfl) (d := 18) (v := (.pointer (some ⟨r, 0, none⟩))) rfl (by kernel_rfl) ?_
  refine ZE (Z1 rfl) (fun K21 hK21 => ?_)
  refine Z1N (vs := ([(.slice a18 ((D ++ [UInt8.ofNat (bOr .u8 ((m : Int) % 256) 128).toNat]).length) c19)] : List Value)) rfl H20 0 rfl rfl rfl rfl (by kernel_rfl) (Nat.le_of_ble_eq_true (by kernel_rfl)) (Nat.le_of_ble_eq_true (by kernel_rfl)) (by kernel_rfl) ?_
  intro w22 (H23 : Sat w [Z5 r 187 ([(.slice a18 ((D ++ [UInt8.ofNat (bOr .u8 ((m : Int) % 256) 128).toNat]).length) c19)] : List Value), Zd 5 1 (.slice a18 ((D ++ [UInt8.ofNat (bOr .u8 ((m : Int) % 256) 128).toNat]).length) c19) ((D ++ [UInt8.ofNat (bOr .u8 ((m : Int) % 256) 128).toNat]).length) ((D ++ [UInt8.ofNat (bOr .u8 ((m : Int) % 256) 128).toNat]).flatMap Zi), Zb w (ZF (wrL r a0 c0 B)).fp, Zd 5 1 (.slice (some ⟨b10, 0, none⟩) 1 1) 1 ([UInt8.ofNat (bOr .u8 ((m : Int) % 256) 128).toNat].flatMap Zi)] w22)
  refine hK21 _ _ ?_
  clear hK21 K21
  refine Zm ?_
  refine Z7 ?_
  refine Zn ?_
  refine Z3 (Z1 rfl) (d := 19) (v := (.int .u64 ((m : Int)))) rfl (by kernel_rfl) ?_
  refine Z3 (Z1 rfl) (d := 20) (v := (.int .u64 ((m : Int) / 128))) rfl (Z25 rfl rfl (by decide) (by decide) (by decide)) ?_
  refine Z3 (Z1 rfl) (d := 1) (v := (.int .u64 ((m : Int) / 128))) rfl (by kernel_rfl) ?_
  refine Zm ?_
  refine Zz ?_
  have hv := Z3O hm.2.1 (show 128 ≤ m by omega)
  have H25 : Sat w [Z5 r 187 ([(.slice a18 ((D ++ [UInt8.ofNat (bOr .u8 ((m : Int) % 256) 128).toNat]).length) c19)] : List Value), Zd 5 1 (.slice a18 ((D ++ [UInt8.ofNat (bOr .u8 ((m : Int) % 256) 128).toNat]).length) c19) ((D ++ [UInt8.ofNat (bOr .u8 ((m : Int) % 256) 128).toNat]).length) ((D ++ [UInt8.ofNat (bOr .u8 ((m : Int) % 256) 128).toNat]).flatMap Zi), Zb w (ZF (wrL r a0 c0 B)).fp] w22 := H23.pick [0, 1, 2] (by decide)
  refine ZL ?_ _ ⟨(m / 128), a18, c19, (D ++ [UInt8.ofNat (bOr .u8 ((m : Int) % 256) 128).toNat]), (f - 1), (show ((.int .u64 ((m : Int) / 128)) : Value) = _ by first | rfl | go_num), ⟨hv.1, hv.2.1, by omega⟩, (by rw [hv.2.2] at hD; simpa using hD), (by rw [List.length_append]; simp only [List.length_cons, List.length_nil]; omega), H25, rfl⟩ (by omega)
  exact (Z6 rfl (Z6 rfl (Z6 rfl (Z6 rfl (Z6 rfl (Z6 rfl (Z6 rfl (Z6 rfl (Z6 rfl (Z6 rfl (Z6 rfl (Z6 rfl (Z6 rfl (Z6 rfl (Z6 rfl (Z6 rfl (Z6 rfl (Z6 rfl (Z6 rfl (Z0N))))))))))))))))))))
 ·have g26 := of_decide_eq_false b6
  refine Zs 6 (.bool false) (congrArg Value.bool b6) ?_
  have g27 := of_decide_eq_false b6
  refine ZY rfl ?_
  refine Z1w ?_
  refine Z0t ?_
  refine Z0H ?_
  refine Z16 ?_
  refine Z7 ?_
  refine Zg ?_
  refine Zn ?_
  refine Z3 (Z1 rfl) (d := 21) (v := (.pointer (some ⟨r, 0, none⟩))) rfl (by kernel_rfl) ?_
  refine Z3 (Z1 rfl) (d := 22) (v := (.pointer (some ⟨r, 0, none⟩))) rfl (by kernel_rfl) ?_
  refine Z3 (Z1 rfl) (d := 23) (v := (.pointer (some ⟨r, 0, none⟩))) rfl (by kernel_rfl) ?_
  refine Z3 (Z1 rfl) (d := 24) (v := (.pointer (some ⟨r, 0, none⟩))) rfl (by kernel_rfl) ?_
  refine Z3 (Z1 rfl) (d := 25) (v := (.slice a D.length c)) rfl (Zj rfl (by kernel_rfl) (H3.cell 0 rfl rfl)) ?_
  refine Z3 (Z1 rfl) (d := 26) (v := (.int .u64 ((m : Int)))) rfl (by kernel_rfl) ?_
  refine Z3 (Z1 rfl) (d := 27) (v := (.int .u8 ((m : Int) % 256))) rfl (Z05 (z := (m : Int)) (by kernel_rfl) (by rw [Z1n])) ?_
  refine ZE (Z1 rfl) (fun K28 hK28 => ?_)
  refine ZP (e := 5) (size := 1) (bytes := 1) (z := (.int .u8 (0))) (pvs := [(0, (.int .u8 ((m : Int) % 256)))]) (vs := ([(.int .u8 ((m : Int) % 256))] : List Value)) rfl H3 (by kernel_rfl) (by kernel_rfl) (by kernel_rfl) (by kernel_rfl) (by kernel_rfl) rfl rfl ?_
  intro b29 w30 (H31 : Sat w [Z5 r 187 ([(.slice a D.length c)] : List Value), Zd 5 1 (.slice a D.length c) D.length (D.flatMap Zi), Zb w (ZF (wrL r a0 c0 B)).fp, Zd 5 1 (.slice (some ⟨b29, 0, none⟩) 1 1) 1 ([(.int .u8 ((m : Int) % 256))] : List Value)] w30)
  have H32 : Sat w [Z5 r 187 ([(.slice a D.length c)] : List Value), Zd 5 1 (.slice a D.length c) D.length (D.flatMap Zi), Zb w (ZF (wrL r a0 c0 B)).fp, Zd 5 1 (.slice (some ⟨b29, 0, none⟩) 1 1) 1 ([UInt8.ofNat ((m : Int) % 256).toNat].flatMap Zi)] w30 := H31.cast (by rw [Z1y (by omega)])
  refine hK28 _ _ ?_
  clear hK28 K28
  refine ZE (Z1 rfl) (fun K33 hK33 => ?_)
  refine Z0p (T := 38) (e := 5) (size := 1) (bytes := 1) rfl H32 (by kernel_rfl) 1 3 rfl rfl rfl rfl (Z0f Zi Z0e [UInt8.ofNat ((m : Int) % 256).toNat]) (by omega) (by omega) ?_
  intro v34 w35 (H36 : Sat w [Z5 r 187 ([(.slice a D.length c)] : List Value), Zd 5 1 v34 (D.length + 1) ((D.flatMap Zi) ++ ([UInt8.ofNat ((m : Int) % 256).toNat].flatMap Zi)), Zb w (ZF (wrL r a0 c0 B)).fp, Zd 5 1 (.slice (some ⟨b29, 0, none⟩) 1 1) 1 ([UInt8.ofNat ((m : Int) % 256).toNat].flatMap Zi)] w35)
  have H39 : Sat w [Z5 r 187 ([(.slice a D.length c)] : List Value), Zd 5 1 v34 ((D ++ [UInt8.ofNat ((m : Int) % 256).toNat]).length) ((D ++ [UInt8.ofNat ((m : Int) % 256).toNat]).flatMap Zi), Zb w (ZF (wrL r a0 c0 B)).fp, Zd 5 1 (.slice (some ⟨b29, 0, none⟩) 1 1) 1 ([UInt8.ofNat ((m : Int) % 256).toNat].flatMap Zi)] w35 := H36.cast (by simp only [List.length_append, List.flatMap_append] <;> rfl)
  obtain ⟨a37, c38, rfl⟩ := Zo (H39.at 1 rfl)
  refine hK33 _ _ ?_
  clear hK33 K33
  refine Z3 (Z1 rfl) (d := 30) (v := (.pointer (some ⟨r, 0, none⟩))) rfl (by kernel_rfl) ?_
  refine Z3 (Z1 rfl) (d := 31) (v := (.pointer (some ⟨r, 0, none⟩))) rfl (by kernel_rfl) ?_
  refine ZE (Z1 rfl) (fun K40 hK40 => ?_)
  refine Z1N (vs := ([(.slice a37 ((D ++ [UInt8.ofNat ((m : Int) % 256).toNat]).length) c38)] : List Value)) rfl H39 0 rfl rfl rfl rfl (by kernel_rfl) (Nat.le_of_ble_eq_true (by kernel_rfl)) (Nat.le_of_ble_eq_true (by kernel_rfl)) (by kernel_rfl) ?_
  intro w41 (H42 : Sat w [Z5 r 187 ([(.slice a37 ((D ++ [UInt8.ofNat ((m : Int) % 256).toNat]).length) c38)] : List Value), Zd 5 1 (.slice a37 ((D ++ [UInt8.ofNat ((m : Int) % 256).toNat]).length) c38) ((D ++ [UInt8.ofNat ((m : Int) % 256).toNat]).length) ((D ++ [UInt8.ofNat ((m : Int) % 256).toNat]).flatMap Zi), Zb w (ZF (wrL r a0 c0 B)).fp, Zd 5 1 (.slice (some ⟨b29, 0, none⟩) 1 1) 1 ([UInt8.ofNat ((m : Int) % 256).toNat].flatMap Zi)] w41)
  refine hK40 _ _ ?_
  clear hK40 K40
  refine Zm ?_
  refine Z7 ?_
  refine Zg ?_
  refine Zn ?_
  refine Z3 (Z1 rfl) (d := 32) (v := (.pointer (some ⟨r, 0, none⟩))) rfl (by kernel_rfl) ?_
  refine Z3 (Z1 rfl) (d := 4) (v := (.pointer (some ⟨r, 0, none⟩))) rfl (by kernel_rfl) ?_
  refine Zm ?_
  refine Z7 ?_
  refine ZW ?_
  refine Z0J rfl (ZI (v := (.pointer (some ⟨r, 0, none⟩))) rfl) ?_
  have hv := Z3N hm.1 (show m < 128 by omega)
  have hfin : (D ++ [UInt8.ofNat ((m : Int) % 256).toNat]) = B ++ Z1H n := by rw [← hD, hv]
  exact ⟨a37, c38, rfl, (H42.pick [0, 1, 2] (by decide)).cast (by show [_, _, _] = _; rw [hfin])⟩
theorem Z0q (w : World) (r : Nat) (a0 : Option Addr) (c0 : Nat) (B : List UInt8) (hB : (ZF (wrL r a0 c0 B)).ok w) (hl : B.length ≤ 1000000) (n : Int) (hn : n ≤ 9223372036854775807) :
  Calls Tryz.prog 71 #[(.pointer (some ⟨r, 0, none⟩)), (.int .i64 (n))] w fun e w' => ∃ a' c', e = .returned (.pointer (some ⟨r, 0, none⟩)) ∧ Sat w [Z5 r 187 [.slice a' (B ++ Z1H (max 0 n).toNat).length c'], Zd 5 1 (.slice a' (B ++ Z1H (max 0 n).toNat).length c') (B ++ Z1H (max 0 n).toNat).length ((B ++ Z1H (max 0 n).toNat).flatMap Zi), Zb w (ZF (wrL r a0 c0 B)).fp] w' := by
 have H : Sat w [Z5 r 187 ([(.slice a0 B.length c0)] : List Value), Zd 5 1 (.slice a0 B.length c0) B.length (B.flatMap Zi), Zb w (ZF (wrL r a0 c0 B)).fp] w := Sat.start (wrL r a0 c0 B) hB
 obtain ⟨k, hk⟩ : ∃ k : Nat, (k : Int) = max 0 n := ⟨(max 0 n).toNat, by omega⟩
 refine Zx Tryz.func71 rfl 10 rfl (Nat.le_of_ble_eq_true rfl) ?_
 refine Zg ?_
 refine Zn ?_
 refine Z3 (Z1 rfl) (d := 4) (v := (.pointer none)) rfl (by kernel_rfl) ?_
 refine Zm ?_
 refine Z7 ?_
 refine Zg ?_
 refine Zn ?_
 refine Z3 (Z1 rfl) (d := 5) (v := (.pointer (some ⟨r, 0, none⟩))) rfl (by kernel_rfl) ?_
 refine Z3 (Z1 rfl) (d := 6) (v := (.int .i64 (n))) rfl (by kernel_rfl) ?_
 refine Z3 (Z1 rfl) (d := 7) (v := (.int .i64 (max (0 : Int) n))) rfl (Z6l (k := .i64) (a := 0) (b := n) (z := max (0 : Int) n) rfl rfl rfl) ?_
 refine Z3 (Z1 rfl) (d := 8) (v := (.int .u64 ((k : Int)))) rfl (Z05 (z := max (0 : Int) n) (by kernel_rfl) ((by rw [← hk]; exact Z0W (by omega)))) ?_
 refine ZE (Z1 rfl) (fun K1 hK1 => ?_)
 refine ZC (d := 9) rfl (by kernel_rfl) (Z6d w r a0 c0 B (H.fin [0, 1] (by decide) rfl) (by omega) k (by omega)) ?_
 rintro _ w2 ⟨a4, c5, rfl, T3⟩
 have H6 : Sat w [Z5 r 187 ([(.slice a4 ((B ++ Z1H k).length) c5)] : List Value), Zd 5 1 (.slice a4 ((B ++ Z1H k).length) c5) ((B ++ Z1H k).length) ((B ++ Z1H k).flatMap Zi), Zb w (ZF (wrL r a0 c0 B)).fp] w2 := (Sat.turnL (L' := [Z5 r 187 ([(.slice a4 ((B ++ Z1H k).length) c5)] : List Value), Zd 5 1 (.slice a4 ((B ++ Z1H k).length) c5) ((B ++ Z1H k).length) ((B ++ Z1H k).flatMap Zi)]) (R := [Zb w (ZF (wrL r a0 c0 B)).fp]) H [0, 1] [2] (by decide) (by kernel_rfl) rfl T3).pick [0, 1, 2] (by decide)
 refine ⟨_, rfl, ?_⟩
 refine hK1 _ _ ?_
 clear hK1 K1
 refine Z3 (Z1 rfl) (d := 4) (v := (.pointer (some ⟨r, 0, none⟩))) rfl (by kernel_rfl) ?_
 refine Zm ?_
 refine Z7 ?_
 refine ZW ?_
 refine Z0J rfl (ZI (v := (.pointer (some ⟨r, 0, none⟩))) rfl) ?_
 have hkn : (max 0 n).toNat = k := by omega
 exact ⟨a4, c5, rfl, by rw [hkn]; exact H6⟩
theorem Z14 (w : World) (r : Nat) (a0 : Option Addr) (c0 : Nat) (B : List UInt8) (hB : (ZF (wrL r a0 c0 B)).ok w) (hl : B.length ≤ 1000000) :
  Calls Tryz.prog 74 #[(.pointer (some ⟨r, 0, none⟩))] w fun e w' => ∃ u, e = .returned u ∧ Sat w [Z5 r 187 [.slice a0 B.length c0], Zd 5 1 (.slice a0 B.length c0) B.length (B.flatMap Zi), Zd 5 1 u B.length (B.flatMap Zi), Zb w (ZF (wrL r a0 c0 B)).fp] w' := by
 have H : Sat w [Z5 r 187 ([(.slice a0 B.length c0)] : List Value), Zd 5 1 (.slice a0 B.length c0) B.length (B.flatMap Zi), Zb w (ZF (wrL r a0 c0 B)).fp] w := Sat.start (wrL r a0 c0 B) hB
 refine Zx Tryz.func74 rfl 8 rfl (Nat.le_of_ble_eq_true rfl) ?_
 refine Zg ?_
 refine Zn ?_
 refine Z3 (Z1 rfl) (d := 2) (v := (.slice none 0 0)) rfl (by kernel_rfl) ?_
 refine Zm ?_
 refine Z7 ?_
 refine Zg ?_
 refine Zn ?_
 refine Z3 (Z1 rfl) (d := 3) (v := (.pointer (some ⟨r, 0, none⟩))) rfl (by kernel_rfl) ?_
 refine Z3 (Z1 rfl) (d := 4) (v := (.pointer (some ⟨r, 0, none⟩))) rfl (by kernel_rfl) ?_
 refine Z3 (Z1 rfl) (d := 5) (v := (.pointer (some ⟨r, 0, none⟩))) rfl (by kernel_rfl) ?_
 refine Z3 (Z1 rfl) (d := 6) (v := (.slice a0 B.length c0)) rfl (Zj rfl (by kernel_rfl) (H.cell 0 rfl rfl)) ?_
 refine ZE (Z1 rfl) (fun K1 hK1 => ?_)
 refine Z41 (T := 38) (e := 5) (size := 1) (bytes := 1) rfl H (by kernel_rfl) (H.at 1 rfl) rfl rfl (Z0f Zi Z0e B) (by omega) (by omega) ?_
 intro v2 w3 (H4 : Sat w [Z5 r 187 ([(.slice a0 B.length c0)] : List Value), Zd 5 1 (.slice a0 B.length c0) B.length (B.flatMap Zi), Zb w (ZF (wrL r a0 c0 B)).fp, Zd 5 1 v2 B.length (B.flatMap Zi)] w3)
 obtain ⟨a5, c6, rfl⟩ := Zo (H4.at 3 rfl)
 refine hK1 _ _ ?_
 clear hK1 K1
 refine Z3 (Z1 rfl) (d := 2) (v := (.slice a5 B.length c6)) rfl (by kernel_rfl) ?_
 refine Zm ?_
 refine Z7 ?_
 refine ZW ?_
 refine Z0J rfl (ZI (v := (.slice a5 B.length c6)) rfl) ?_
 exact ⟨_, rfl, H4.pick [0, 1, 3, 2] (by decide)⟩
theorem ListAt.nowD {α : Type} {enc : α → List Value} {sz : Nat} {w0 w W : World} {G : List Ck} {D : Nat → Prop} (H : Sat w0 G w) (j : Nat) (hj : G[j]? = Option.some (Zb W D)) {a : Option Addr} {n c : Nat} {xs : List α} (hv : ListAt enc sz W (.slice a n c) xs) (hf : 0 < xs.length → ∀ ad, a = some ad → ¬ D ad.block) : ListAt enc sz w (.slice a n c) xs := by
 rcases hv with h | ⟨h0, b', o, c', e, hc, h⟩
 ·exact .inl h
 ·have ha : a = some ⟨b', o, none⟩ := by simp only [Value.slice.injEq] at e; exact e.1
  refine .inr ⟨h0, b', o, c', e, hc, fun i hi q u hq => ?_⟩
  have h1 := h i hi q u hq
  rw [Addr.add_lit] at h1 ⊢
  exact H.cellR j hj h1 (show ¬ D b' from hf h0 _ ha)
theorem Z1j (w : World) (r : Nat) (a0 : Option Addr) (c0 : Nat) (B : List UInt8) (hB : (ZF (wrL r a0 c0 B)).ok w) (hl : B.length ≤ 1000000) (x : Z1J) :
  Calls Tryz.prog 73 #[(.pointer (some ⟨r, 0, none⟩)), (.agg ⟨(hc x)⟩)] w fun e w' => ∃ a' c', e = .returned (.pointer (some ⟨r, 0, none⟩)) ∧ Sat w [Z5 r 187 [.slice a' (B ++ x.l).length c'], Zd 5 1 (.slice a' (B ++ x.l).length c') (B ++ x.l).length ((B ++ x.l).flatMap Zi), Zb w (ZF (wrL r a0 c0 B)).fp] w' := by
 have H : Sat w [Z5 r 187 ([(.slice a0 B.length c0)] : List Value), Zd 5 1 (.slice a0 B.length c0) B.length (B.flatMap Zi), Zb w (ZF (wrL r a0 c0 B)).fp] w := Sat.start (wrL r a0 c0 B) hB
 have hx := x.len
 refine Zx Tryz.func73 rfl 15 rfl (Nat.le_of_ble_eq_true rfl) ?_
 refine Zg ?_
 refine Zn ?_
 refine ZE (Z1 rfl) (fun K1 hK1 => ?_)
 refine Z0Y (vs := (hc x)) rfl H rfl rfl ?_
 intro b2 w3 (H4 : Sat w [Z5 r 187 ([(.slice a0 B.length c0)] : List Value), Zd 5 1 (.slice a0 B.length c0) B.length (B.flatMap Zi), Zb w (ZF (wrL r a0 c0 B)).fp, Z5 b2 40 (hc x)] w3)
 refine hK1 _ _ ?_
 clear hK1 K1
 refine Z3 (Z1 rfl) (d := 4) (v := (.pointer none)) rfl (by kernel_rfl) ?_
 refine Zm ?_
 refine Z7 ?_
 refine Zg ?_
 refine Z0M H4 [Z5 r 187 ([(.slice a0 B.length c0)] : List Value), Zb w (ZF (wrL r a0 c0 B)).fp, Z5 b2 40 (hc x)] [9] 10 rfl (by kernel_rfl) (fun Hx => (Hx.pick [0, 2, 3] (by decide))) ?_
 intro w5 H6 S7
 refine ZS 0 rfl (by kernel_rfl) (by kernel_rfl) (by kernel_rfl) (fun _ _ _ h => h) S7 (Z1 rfl) rfl (d := 5) (v := (.pointer (some ⟨r, 0, none⟩))) rfl (fun _ => (by kernel_rfl)) ?_
 refine ZS 1 rfl (by kernel_rfl) (by kernel_rfl) (by kernel_rfl) (fun _ _ _ h => h) S7 (Z1 rfl) rfl (d := 6) (v := (.pointer (some ⟨r, 0, none⟩))) rfl (fun _ => (by kernel_rfl)) ?_
 refine ZS 2 rfl (by kernel_rfl) (by kernel_rfl) (by kernel_rfl) (fun _ _ _ h => h) S7 (Z1 rfl) rfl (d := 7) (v := (.pointer (some ⟨r, 0, none⟩))) rfl (fun _ => (by kernel_rfl)) ?_
 refine ZS 3 rfl (by kernel_rfl) (by kernel_rfl) (by kernel_rfl) (fun _ _ _ h => h) S7 (Z1 rfl) rfl (d := 8) (v := (.pointer (some ⟨r, 0, none⟩))) rfl (fun _ => (by kernel_rfl)) ?_
 refine Z19 4 rfl (by kernel_rfl) (by kernel_rfl) (by kernel_rfl) (fun _ _ _ h => h) S7 (Z1 rfl) rfl (by kernel_rfl) (d := 9) (v := (.slice a0 B.length c0)) rfl (fun _ H' => (Zj rfl (by kernel_rfl) (H'.cell 0 rfl rfl))) ?_
 refine ZS 5 rfl (by kernel_rfl) (by kernel_rfl) (by kernel_rfl) (fun _ _ _ h => h) S7 (Z1 rfl) rfl (d := 10) (v := (.slice (some ⟨b2, 0, none⟩) 32 32)) rfl (fun _ => (by kernel_rfl)) ?_
 refine Z2L 6 rfl (by kernel_rfl) (Z1 rfl) rfl (fun K8 hK8 => ?_)
 refine Z1U (T := 38) (e := 5) (size := 1) (bytes := 1) rfl H6 (by kernel_rfl) ZM Z0e 1 rfl (ListAt.ofHash (x := x) (Z3p (H6.at 3 rfl) (by kernel_rfl)) (by decide)) rfl rfl (by omega) (by omega) ?_
 intro v9 w10 (H12 : Sat w [Z5 r 187 ([(.slice a0 B.length c0)] : List Value), Zd 5 1 v9 (B.length + x.l.length) (B.flatMap Zi ++ x.l.flatMap Zi), Zb w (ZF (wrL r a0 c0 B)).fp, Z5 b2 40 (hc x)] w10)
 have H11 : Sat w [Z5 r 187 ([(.slice a0 B.length c0)] : List Value), Zd 5 1 v9 ((B ++ x.l).length) ((B ++ x.l).flatMap Zi), Zb w (ZF (wrL r a0 c0 B)).fp, Z5 b2 40 (hc x)] w10 := H12.cast (by simp only [List.length_append, List.flatMap_append])
 obtain ⟨a13, c14, rfl⟩ := Zo (H11.at 1 rfl)
 have S15 := H11.pick [0, 2, 3] (by decide)
 refine hK8 _ _ S15 ?_
 clear hK8 K8
 refine ZS 7 rfl (by kernel_rfl) (by kernel_rfl) (by kernel_rfl) (fun _ _ _ h => h) S15 (Z1 rfl) rfl (d := 12) (v := (.pointer (some ⟨r, 0, none⟩))) rfl (fun _ => (by kernel_rfl)) ?_
 refine ZS 8 rfl (by kernel_rfl) (by kernel_rfl) (by kernel_rfl) (fun _ _ _ h => h) S15 (Z1 rfl) rfl (d := 13) (v := (.pointer (some ⟨r, 0, none⟩))) rfl (fun _ => (by kernel_rfl)) ?_
 refine Z1Z 9 (Sat w [Zb w (ZF (wrL r a0 c0 B)).fp, Z5 b2 40 (hc x)]) rfl (by kernel_rfl) (Z1 rfl) rfl (fun K16 hK16 => ?_)
 refine ZQ (vs := ([(.slice a13 ((B ++ x.l).length) c14)] : List Value)) (cs' := ([(.slice a13 ((B ++ x.l).length) c14)] : List Value)) rfl H11 0 rfl rfl rfl rfl (by kernel_rfl) (Nat.le_of_ble_eq_true (by kernel_rfl)) (Nat.le_of_ble_eq_true (by kernel_rfl)) (by kernel_rfl) (by kernel_rfl) ?_
 intro w17 (H18 : Sat w [Z5 r 187 ([(.slice a13 ((B ++ x.l).length) c14)] : List Value), Zd 5 1 (.slice a13 ((B ++ x.l).length) c14) ((B ++ x.l).length) ((B ++ x.l).flatMap Zi), Zb w (ZF (wrL r a0 c0 B)).fp, Z5 b2 40 (hc x)] w17)
 have S20 := H18.pick [2, 3] (by decide)
 refine hK16 _ _ S20 ?_
 clear hK16 K16
 refine Z0E (by kernel_rfl) ?_
 refine Z7 ?_
 refine Zg ?_
 refine Zn ?_
 refine Z3 (Z1 rfl) (d := 14) (v := (.pointer (some ⟨r, 0, none⟩))) rfl (by kernel_rfl) ?_
 refine Z3 (Z1 rfl) (d := 4) (v := (.pointer (some ⟨r, 0, none⟩))) rfl (by kernel_rfl) ?_
 refine Zm ?_
 refine Z7 ?_
 refine ZW ?_
 refine Z0J rfl (ZI (v := (.pointer (some ⟨r, 0, none⟩))) rfl) ?_
 have hX : (B ++ x.l) = (B ++ x.l) := by rfl
 exact ⟨a13, c14, rfl, (H18.pick [0, 1, 2] (by decide)).cast (by show [_, _, _] = _; rw [hX])⟩
theorem Z0O (w : World) (r : Nat) (a0 : Option Addr) (c0 : Nat) (B : List UInt8) (hB : (ZF (wrL r a0 c0 B)).ok w) (hl : B.length ≤ 1000000) (ta : Option Addr) (tc : Nat) (tx : List UInt8) (ht : ListAt Zi 1 w (.slice ta tx.length tc) tx) (hoff : 0 < tx.length → ∀ ad, ta = some ad → ¬ (ZF (wrL r a0 c0 B)).fp ad.block) (hl2 : tx.length ≤ 1000000) :
  Calls Tryz.prog 70 #[(.pointer (some ⟨r, 0, none⟩)), (.slice ta tx.length tc)] w fun e w' => ∃ a' c', e = .returned (.pointer (some ⟨r, 0, none⟩)) ∧ Sat w [Z5 r 187 [.slice a' (B ++ Zw tx).length c'], Zd 5 1 (.slice a' (B ++ Zw tx).length c') (B ++ Zw tx).length ((B ++ Zw tx).flatMap Zi), Zb w (ZF (wrL r a0 c0 B)).fp] w' := by
 have H : Sat w [Z5 r 187 ([(.slice a0 B.length c0)] : List Value), Zd 5 1 (.slice a0 B.length c0) B.length (B.flatMap Zi), Zb w (ZF (wrL r a0 c0 B)).fp] w := Sat.start (wrL r a0 c0 B) hB
 have hvl := Z08 (tx.length : Int)
 refine Zx Tryz.func70 rfl 19 rfl (Nat.le_of_ble_eq_true rfl) ?_
 refine Zg ?_
 refine Zn ?_
 refine Z3 (Z1 rfl) (d := 4) (v := (.pointer none)) rfl (by kernel_rfl) ?_
 refine Zm ?_
 refine Z7 ?_
 refine Zg ?_
 refine Zn ?_
 refine Z3 (Z1 rfl) (d := 5) (v := (.pointer (some ⟨r, 0, none⟩))) rfl (by kernel_rfl) ?_
 refine Z3 (Z1 rfl) (d := 6) (v := (.slice ta tx.length tc)) rfl (by kernel_rfl) ?_
 refine Z3 (Z1 rfl) (d := 7) (v := (.int .i64 ((tx.length : Int)))) rfl (by kernel_rfl) ?_
 refine ZE (Z1 rfl) (fun K1 hK1 => ?_)
 have l7 := Z08 (tx.length : Int)
 refine ZC (d := 8) rfl (by kernel_rfl) (Z0q w r a0 c0 B (H.fin [0, 1] (by decide) rfl) (by omega) (tx.length : Int) (by omega)) ?_
 rintro _ w2 ⟨a4, c5, rfl, T3⟩
 have H8 : Sat w [Z5 r 187 ([(.slice a4 ((B ++ Zp (tx.length : Int)).length) c5)] : List Value), Zd 5 1 (.slice a4 ((B ++ Zp (tx.length : Int)).length) c5) ((B ++ Zp (tx.length : Int)).length) ((B ++ Zp (tx.length : Int)).flatMap Zi), Zb w (ZF (wrL r a0 c0 B)).fp] w2 := (Sat.turnL (L' := [Z5 r 187 ([(.slice a4 ((B ++ Zp (tx.length : Int)).length) c5)] : List Value), Zd 5 1 (.slice a4 ((B ++ Zp (tx.length : Int)).length) c5) ((B ++ Zp (tx.length : Int)).length) ((B ++ Zp (tx.length : Int)).flatMap Zi)]) (R := [Zb w (ZF (wrL r a0 c0 B)).fp]) H [0, 1] [2] (by decide) (by kernel_rfl) rfl T3).pick [0, 1, 2] (by decide)
 refine ⟨_, rfl, ?_⟩
 refine hK1 _ _ ?_
 clear hK1 K1
 refine Zm ?_
 refine Z7 ?_
 refine Zg ?_
 refine Zn ?_
 refine Z3 (Z1 rfl) (d := 9) (v := (.pointer (some ⟨r, 0, none⟩))) rfl (by kernel_rfl) ?_
 refine Z3 (Z1 rfl) (d := 10) (v := (.pointer (some ⟨r, 0, none⟩))) rfl (by kernel_rfl) ?_
 refine Z3 (Z1 rfl) (d := 11) (v := (.pointer (some ⟨r, 0, none⟩))) rfl (by kernel_rfl) ?_
 refine Z3 (Z1 rfl) (d := 12) (v := (.pointer (some ⟨r, 0, none⟩))) rfl (by kernel_rfl) ?_
 refine Z3 (Z1 rfl) (d := 13) (v := (.slice a4 ((B ++ Zp (tx.length : Int)).length) c5)) rfl (Zj rfl (by kernel_rfl) (H8.cell 0 rfl rfl)) ?_
 refine Z3 (Z1 rfl) (d := 14) (v := (.slice ta tx.length tc)) rfl (by kernel_rfl) ?_
 refine ZE (Z1 rfl) (fun K9 hK9 => ?_)
 refine Z1U (T := 38) (e := 5) (size := 1) (bytes := 1) rfl H8 (by kernel_rfl) ZM Z0e 1 rfl (ListAt.nowD H8 2 rfl ht hoff) rfl rfl (by simp only [List.length_append]; omega) (by simp only [List.length_append]; omega) ?_
 intro v10 w11 (H13 : Sat w [Z5 r 187 ([(.slice a4 ((B ++ Zp (tx.length : Int)).length) c5)] : List Value), Zd 5 1 v10 ((B ++ Zp (tx.length : Int)).length + tx.length) ((B ++ Zp (tx.length : Int)).flatMap Zi ++ tx.flatMap Zi), Zb w (ZF (wrL r a0 c0 B)).fp] w11)
 have H12 : Sat w [Z5 r 187 ([(.slice a4 ((B ++ Zp (tx.length : Int)).length) c5)] : List Value), Zd 5 1 v10 (((B ++ Zp (tx.length : Int)) ++ tx).length) (((B ++ Zp (tx.length : Int)) ++ tx).flatMap Zi), Zb w (ZF (wrL r a0 c0 B)).fp] w11 := H13.cast (by simp only [List.length_append, List.flatMap_append])
 obtain ⟨a14, c15, rfl⟩ := Zo (H12.at 1 rfl)
 refine hK9 _ _ ?_
 clear hK9 K9
 refine Z3 (Z1 rfl) (d := 16) (v := (.pointer (some ⟨r, 0, none⟩))) rfl (by kernel_rfl) ?_
 refine Z3 (Z1 rfl) (d := 17) (v := (.pointer (some ⟨r, 0, none⟩))) rfl (by kernel_rfl) ?_
 refine ZE (Z1 rfl) (fun K16 hK16 => ?_)
 refine Z1N (vs := ([(.slice a14 (((B ++ Zp (tx.length : Int)) ++ tx).length) c15)] : List Value)) rfl H12 0 rfl rfl rfl rfl (by kernel_rfl) (Nat.le_of_ble_eq_true (by kernel_rfl)) (Nat.le_of_ble_eq_true (by kernel_rfl)) (by kernel_rfl) ?_
 intro w17 (H18 : Sat w [Z5 r 187 ([(.slice a14 (((B ++ Zp (tx.length : Int)) ++ tx).length) c15)] : List Value), Zd 5 1 (.slice a14 (((B ++ Zp (tx.length : Int)) ++ tx).length) c15) (((B ++ Zp (tx.length : Int)) ++ tx).length) (((B ++ Zp (tx.length : Int)) ++ tx).flatMap Zi), Zb w (ZF (wrL r a0 c0 B)).fp] w17)
 refine hK16 _ _ ?_
 clear hK16 K16
 refine Zm ?_
 refine Z7 ?_
 refine Zg ?_
 refine Zn ?_
 refine Z3 (Z1 rfl) (d := 18) (v := (.pointer (some ⟨r, 0, none⟩))) rfl (by kernel_rfl) ?_
 refine Z3 (Z1 rfl) (d := 4) (v := (.pointer (some ⟨r, 0, none⟩))) rfl (by kernel_rfl) ?_
 refine Zm ?_
 refine Z7 ?_
 refine ZW ?_
 refine Z0J rfl (ZI (v := (.pointer (some ⟨r, 0, none⟩))) rfl) ?_
 have hX : ((B ++ Zp (tx.length : Int)) ++ tx) = (B ++ Zw tx) := by unfold Zw Zp; rw [show (max 0 (tx.length : Int)).toNat = tx.length by omega, List.append_assoc]
 exact ⟨a14, c15, rfl, (H18.pick [0, 1, 2] (by decide)).cast (by show [_, _, _] = _; rw [hX])⟩
theorem Z1E (w : World) :
  Calls Tryz.prog 69 #[] w fun e w' => ∃ r a c, e = .returned (.pointer (some ⟨r, 0, none⟩)) ∧ (ZF (wrL r a c [])).ok w' ∧ Upd [] w w' ∧ ∀ q_, (ZF (wrL r a c [])).fp q_ → w.heap.size ≤ q_ := by
 have H := Sat.start0 w
 refine Zx Tryz.func69 rfl 3 rfl (Nat.le_of_ble_eq_true rfl) ?_
 refine Zg ?_
 refine Zn ?_
 refine Z3 (Z1 rfl) (d := 0) (v := (.pointer none)) rfl (by kernel_rfl) ?_
 refine Zm ?_
 refine Z7 ?_
 refine Zg ?_
 refine Zn ?_
 refine Z3 (Z1 rfl) (d := 1) (v := (.agg ⟨([(.slice none 0 0)] : List Value)⟩)) rfl (by kernel_rfl) ?_
 refine ZE (Z1 rfl) (fun K1 hK1 => ?_)
 refine Z0Y (vs := ([(.slice none 0 0)] : List Value)) rfl H rfl rfl ?_
 intro b2 w3 (H4 : Sat w [Zb w (fun _ => False), Z5 b2 187 ([(.slice none 0 0)] : List Value)] w3)
 refine hK1 _ _ ?_
 clear hK1 K1
 refine Z3 (Z1 rfl) (d := 0) (v := (.pointer (some ⟨b2, 0, none⟩))) rfl (by kernel_rfl) ?_
 refine Zm ?_
 refine Z7 ?_
 refine ZW ?_
 refine Z0J rfl (ZI (v := (.pointer (some ⟨b2, 0, none⟩))) rfl) ?_
 have H5 := H4.addNil 5 1
 exact ⟨b2, none, 0, rfl, H5.fin [1, 2] (by decide) rfl, H5.upd 0 rfl [] (fun _ h => h.elim), H5.freshS 0 rfl (fun _ h => h) [1, 2] rfl rfl⟩
end Go.Proofs.YtgigjkjdmalmaaaGreat
