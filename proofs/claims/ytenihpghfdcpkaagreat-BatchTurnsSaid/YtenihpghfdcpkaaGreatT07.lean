/- WHAT IS PROVED: contracts and plain laws of Wr10, Rt. Conditions: stated with each. -/
import Derived.Test.YtenihpghfdcpkaaGreatT05
import Derived.Test.YtenihpghfdcpkaaGreatT06
set_option maxHeartbeats 4000000
set_option maxRecDepth 100000
namespace Go.Proofs.YtenihpghfdcpkaaGreat
open Go.RowKit
abbrev kWr10_0 (p0 : Option Addr) (p1 : Nat) (p2 : Nat) : List Value := ([(.slice p0 p1 p2)] : List Value)
abbrev kWr10_1 (p0 : Option Addr) (p1 : List UInt8) (p2 : Nat) : Ck := rowC 5 1 (.slice p0 p1.length p2) p1.length (p1.flatMap encB)
theorem varF_more {f m : Nat} (hm : m < 128 ^ f) (h : 128 ≤ m) : 0 < f - 1 ∧ m / 128 < 128 ^ (f - 1) ∧ varF f m = UInt8.ofNat (bOr .u8 ((m : Int) % 256) 128).toNat :: varF (f - 1) (m / 128) := by
 cases f with
 | zero => simp at hm; omega
 | succ f =>
  have h1 : m / 128 < 128 ^ f := Nat.div_lt_of_lt_mul (by rw [Nat.pow_succ] at hm; omega)
  refine ⟨?_, h1, ?_⟩
  ·cases f with
   | zero => simp at h1; omega
   | succ f => simp
  rw [or_more (by omega), show (((m : Int) % 128 + 128).toNat) = m % 128 + 128 by omega]
  conv => lhs; unfold varF
  rw [if_neg (by omega)]; rfl
theorem varF_last {f m : Nat} (hf : 0 < f) (h : m < 128) : varF f m = [UInt8.ofNat ((m : Int) % 256).toNat] := by
 cases f with
 | zero => omega
 | succ f => unfold varF; rw [if_pos h, show ((m : Int) % 256).toNat = m by omega]
def wrL (r : Nat) (a : Option Addr) (c : Nat) (B : List UInt8) : List Ck := [cellC r 266 [.slice a B.length c], rowC 5 1 (.slice a B.length c) B.length (B.flatMap encB)]
theorem wNum_any (w : World) (r : Nat) (a0 : Option Addr) (c0 : Nat) (B : List UInt8) (hB : (sepC (wrL r a0 c0 B)).ok w) (hl : B.length ≤ 1000000) (n : Nat) (hn : n < 18446744073709551616) :
  Calls Tryz.prog 187 #[(.pointer (some ⟨r, 0, none⟩)), (.int .u64 ((n : Int)))] w fun e w' => ∃ a' c', e = .returned (.pointer (some ⟨r, 0, none⟩)) ∧ Sat w [cellC r 266 [.slice a' (B ++ varB n).length c'], rowC 5 1 (.slice a' (B ++ varB n).length c') (B ++ varB n).length ((B ++ varB n).flatMap encB), restC w (sepC (wrL r a0 c0 B)).fp] w' := by
 have H := Sat.start (wrL r a0 c0 B) hB
 refine calls_fr Tryz.func187 rfl 33 rfl (Nat.le_of_ble_eq_true rfl) ?_
 refine zsl <| wv 4 (.pointer none) <| znt <| w_seq <| w_block <| wp_round ([1] ++ List.range' 5 16) (fun F_ W_ m_ => ∃ (m : Nat) (a : Option Addr) (c : Nat) (D : List UInt8) (f : Nat), F_ 1 = (.int .u64 ((m : Int))) ∧ (0 < f ∧ m < 128 ^ f ∧ m < 18446744073709551616) ∧ (D ++ varF f m = B ++ varB n) ∧ (D.length + f ≤ B.length + 10) ∧ Sat w [cellC r 266 (kWr10_0 a D.length c), (kWr10_1 a D c), restC w (sepC (wrL r a0 c0 B)).fp] W_ ∧ m_ = m + 1) _ ⟨n, a0, c0, B, 10, (show ((.int .u64 ((n : Int))) : Value) = _ by first | rfl | go_num), ⟨by omega, by omega, hn⟩, rfl, by omega, H, rfl⟩ ?_
 rintro g1 w2 _ ⟨m, a, c, D, f, v4, hm, hD, hf, H3, rfl⟩
 refine wp_know 1 _ v4 ?_
 refine w_seq <| zsl <| wv 5 (.int .u64 ((m : Int))) <| wv 6 (.bool (decide ((m : Int) ≥ 128))) <| znt ?_
 refine (bsplit (decide ((m : Int) ≥ 128))).elim (fun b6 => ?_) (fun b6 => ?_)
 ·have g7 := of_decide_eq_true b6
  refine zwkt _ b6 ?_
  refine w_skip <| ztn <| w_block <| zsl <| wv 7 (pt r 0) <| wv 8 (pt r 0) <| wv 9 (pt r 0) <| wv 10 (pt r 0) <| zw1 11 (.slice a D.length c) (H3.cell 0 rfl rfl) <| wv 12 (.int .u64 ((m : Int))) ?_
  refine wv 13 (.int .u8 ((m : Int) % 256)) ?_ (hr := e_int (z := (m : Int)) (by kernel_rfl) (by rw [wrap_u8_mod]))
  refine wv 14 (.int .u8 (bOr .u8 ((m : Int) % 256) 128)) <| zwd fun Kq kq => zdbs 5 1 1 (.int .u8 (0)) [(0, (.int .u8 (bOr .u8 ((m : Int) % 256) 128)))] ([(.int .u8 (bOr .u8 ((m : Int) % 256) 128))] : List Value) H3 ?_
  intro b10 w11 (H12 : Sat w [cellC r 266 (kWr10_0 a D.length c), (kWr10_1 a D c), restC w (sepC (wrL r a0 c0 B)).fp, rowC 5 1 (.slice (some ⟨b10, 0, none⟩) 1 1) 1 ([(.int .u8 (bOr .u8 ((m : Int) % 256) 128))] : List Value)] w11)
  have H13 : Sat w [cellC r 266 (kWr10_0 a D.length c), (kWr10_1 a D c), restC w (sepC (wrL r a0 c0 B)).fp, rowC 5 1 (.slice (some ⟨b10, 0, none⟩) 1 1) 1 ([UInt8.ofNat (bOr .u8 ((m : Int) % 256) 128).toNat].flatMap encB)] w11 := H12.cast (by rw [byte_enc (by rw [or_more (by omega)]; omega)])
  refine kq _ _ <| zwd fun Kq kq => d_append (T := 84) (e := 5) (size := 1) (bytes := 1) rfl H13 (by kernel_rfl) 1 3 rfl rfl rfl rfl (flat_one encB encB_one [UInt8.ofNat (bOr .u8 ((m : Int) % 256) 128).toNat]) (by omega) (by omega) fun v15 w16 H17 => ?_
  have H20 : Sat w [cellC r 266 (kWr10_0 a D.length c), rowC 5 1 v15 ((D ++ [UInt8.ofNat (bOr .u8 ((m : Int) % 256) 128).toNat]).length) ((D ++ [UInt8.ofNat (bOr .u8 ((m : Int) % 256) 128).toNat]).flatMap encB), restC w (sepC (wrL r a0 c0 B)).fp, rowC 5 1 (.slice (some ⟨b10, 0, none⟩) 1 1) 1 ([UInt8.ofNat (bOr .u8 ((m : Int) % 256) 128).toNat].flatMap encB)] w16 := H17.cast (by simp only [List.length_append, List.flatMap_append] <;> rfl)
  obtain ⟨a18, c19, rfl⟩ := ownsRow_shape (H20.at 1 rfl)
  refine kq _ _ <| wv 17 (pt r 0) <| wv 18 (pt r 0) <| zwd fun Kq kq => d_store (vs := (kWr10_0 a18 ((D ++ [UInt8.ofNat (bOr .u8 ((m : Int) % 256) 128).toNat]).length) c19)) rfl H20 0 rfl rfl rfl rfl (by kernel_rfl) (Nat.le_of_ble_eq_true (by kernel_rfl)) (Nat.le_of_ble_eq_true (by kernel_rfl)) (by kernel_rfl) fun w22 H23 => ?_
  refine kq _ _ <| znt <| w_lit <| wv 19 (.int .u64 ((m : Int))) <| wv 20 (.int .u64 ((m : Int) / 128)) ?_ (hr := e_shr rfl rfl (by decide) (by decide) (by decide))
  refine wv 1 (.int .u64 ((m : Int) / 128)) <| w_nil <| blk_normal ?_
  have hv := varF_more hm.2.1 (show 128 ≤ m by omega)
  have H25 := H23.pk [0, 1, 2]
  refine round_back ?_ _ ⟨(m / 128), a18, c19, (D ++ [UInt8.ofNat (bOr .u8 ((m : Int) % 256) 128).toNat]), (f - 1), rfl, ⟨hv.1, hv.2.1, by omega⟩, (by rw [hv.2.2] at hD; simpa using hD), (by rw [List.length_append]; simp only [List.length_cons, List.length_nil]; omega), H25, rfl⟩ (by omega)
  exact zs
 have g26 := of_decide_eq_false b6
 refine zwkf _ b6 ?_
 refine zxb <| ztn <| zsl <| wv 21 (pt r 0) <| wv 22 (pt r 0) <| wv 23 (pt r 0) <| wv 24 (pt r 0) <| zw1 25 (.slice a D.length c) (H3.cell 0 rfl rfl) <| wv 26 (.int .u64 ((m : Int))) <| wv 27 (.int .u8 ((m : Int) % 256)) ?_ (hr := e_int (z := (m : Int)) (by kernel_rfl) (by rw [wrap_u8_mod]))
 refine zwd fun Kq kq => zdbs 5 1 1 (.int .u8 (0)) [(0, (.int .u8 ((m : Int) % 256)))] ([(.int .u8 ((m : Int) % 256))] : List Value) H3 ?_
 intro b29 w30 (H31 : Sat w [cellC r 266 (kWr10_0 a D.length c), (kWr10_1 a D c), restC w (sepC (wrL r a0 c0 B)).fp, rowC 5 1 (.slice (some ⟨b29, 0, none⟩) 1 1) 1 ([(.int .u8 ((m : Int) % 256))] : List Value)] w30)
 have H32 : Sat w [cellC r 266 (kWr10_0 a D.length c), (kWr10_1 a D c), restC w (sepC (wrL r a0 c0 B)).fp, rowC 5 1 (.slice (some ⟨b29, 0, none⟩) 1 1) 1 ([UInt8.ofNat ((m : Int) % 256).toNat].flatMap encB)] w30 := H31.cast (by rw [byte_enc (by omega)])
 refine kq _ _ <| zwd fun Kq kq => d_append (T := 84) (e := 5) (size := 1) (bytes := 1) rfl H32 (by kernel_rfl) 1 3 rfl rfl rfl rfl (flat_one encB encB_one [UInt8.ofNat ((m : Int) % 256).toNat]) (by omega) (by omega) fun v34 w35 H36 => ?_
 have H39 : Sat w [cellC r 266 (kWr10_0 a D.length c), rowC 5 1 v34 ((D ++ [UInt8.ofNat ((m : Int) % 256).toNat]).length) ((D ++ [UInt8.ofNat ((m : Int) % 256).toNat]).flatMap encB), restC w (sepC (wrL r a0 c0 B)).fp, rowC 5 1 (.slice (some ⟨b29, 0, none⟩) 1 1) 1 ([UInt8.ofNat ((m : Int) % 256).toNat].flatMap encB)] w35 := H36.cast (by simp only [List.length_append, List.flatMap_append] <;> rfl)
 obtain ⟨a37, c38, rfl⟩ := ownsRow_shape (H39.at 1 rfl)
 refine kq _ _ <| wv 30 (pt r 0) <| wv 31 (pt r 0) <| zwd fun Kq kq => d_store (vs := (kWr10_0 a37 ((D ++ [UInt8.ofNat ((m : Int) % 256).toNat]).length) c38)) rfl H39 0 rfl rfl rfl rfl (by kernel_rfl) (Nat.le_of_ble_eq_true (by kernel_rfl)) (Nat.le_of_ble_eq_true (by kernel_rfl)) (by kernel_rfl) ?_
 intro w41 (H42 : Sat w [cellC r 266 (kWr10_0 a37 ((D ++ [UInt8.ofNat ((m : Int) % 256).toNat]).length) c38), (kWr10_1 a37 (D ++ [UInt8.ofNat ((m : Int) % 256).toNat]) c38), restC w (sepC (wrL r a0 c0 B)).fp, rowC 5 1 (.slice (some ⟨b29, 0, none⟩) 1 1) 1 ([UInt8.ofNat ((m : Int) % 256).toNat].flatMap encB)] w41)
 refine kq _ _ <| znsl <| wv 32 (pt r 0) <| wv 4 (pt r 0) <| znt <| w_ret <| ze1 (pt r 0) ?_
 have hv := varF_last hm.1 (show m < 128 by omega)
 have hfin : (D ++ [UInt8.ofNat ((m : Int) % 256).toNat]) = B ++ varB n := by rw [← hD, hv]
 exact ⟨a37, c38, rfl, (H42.pick [0, 1, 2] (by decide)).cast (by show [_, _, _] = _; rw [hfin])⟩
theorem wInt_any (w : World) (r : Nat) (a0 : Option Addr) (c0 : Nat) (B : List UInt8) (hB : (sepC (wrL r a0 c0 B)).ok w) (hl : B.length ≤ 1000000) (n : Int) (hn : n ≤ 9223372036854775807) :
  Calls Tryz.prog 141 #[(.pointer (some ⟨r, 0, none⟩)), (.int .i64 (n))] w fun e w' => ∃ a' c', e = .returned (.pointer (some ⟨r, 0, none⟩)) ∧ Sat w [cellC r 266 [.slice a' (B ++ varB (max 0 n).toNat).length c'], rowC 5 1 (.slice a' (B ++ varB (max 0 n).toNat).length c') (B ++ varB (max 0 n).toNat).length ((B ++ varB (max 0 n).toNat).flatMap encB), restC w (sepC (wrL r a0 c0 B)).fp] w' := by
 have H := Sat.start (wrL r a0 c0 B) hB
 obtain ⟨k, hk⟩ : ∃ k : Nat, (k : Int) = max 0 n := ⟨(max 0 n).toNat, by omega⟩
 refine calls_fr Tryz.func141 rfl 10 rfl (Nat.le_of_ble_eq_true rfl) ?_
 refine zsl <| wv 4 (.pointer none) <| znsl <| wv 5 (pt r 0) <| wv 6 (.int .i64 (n)) <| wv 7 (.int .i64 (max (0 : Int) n)) ?_ (hr := e_maxI (k := .i64) (a := 0) (b := n) (z := max (0 : Int) n) rfl rfl rfl)
 refine wv 8 (.int .u64 ((k : Int))) ?_ (hr := e_int (z := max (0 : Int) n) (by kernel_rfl) ((by rw [← hk]; exact wrap_u64 (by omega))))
 refine zwd fun Kq kq => zdc 9 (wNum_any w r a0 c0 B (H.fn [0, 1]) (by omega) k (by omega)) ?_
 rintro _ w2 ⟨a4, c5, rfl, T3⟩
 have H6 := H.tl [cellC r 266 (kWr10_0 a4 ((B ++ varB k).length) c5), (kWr10_1 a4 (B ++ varB k) c5)] [0, 1] [2] T3 [0, 1, 2]
 refine ⟨_, rfl, ?_⟩
 refine kq _ _ <| wv 4 (pt r 0) <| znt <| w_ret <| ze1 (pt r 0) ?_
 have hkn : (max 0 n).toNat = k := by omega
 exact ⟨a4, c5, rfl, by rw [hkn]; exact H6⟩
theorem wBytes_any (w : World) (r : Nat) (a0 : Option Addr) (c0 : Nat) (B : List UInt8) (hB : (sepC (wrL r a0 c0 B)).ok w) (hl : B.length ≤ 1000000) :
  Calls Tryz.prog 142 #[(.pointer (some ⟨r, 0, none⟩))] w fun e w' => ∃ u, e = .returned u ∧ Sat w [cellC r 266 [.slice a0 B.length c0], rowC 5 1 (.slice a0 B.length c0) B.length (B.flatMap encB), rowC 5 1 u B.length (B.flatMap encB), restC w (sepC (wrL r a0 c0 B)).fp] w' := by
 have H := Sat.start (wrL r a0 c0 B) hB
 refine calls_fr Tryz.func142 rfl 8 rfl (Nat.le_of_ble_eq_true rfl) ?_
 refine zsl <| wv 2 (.slice none 0 0) <| znsl <| wv 3 (pt r 0) <| wv 4 (pt r 0) <| wv 5 (pt r 0) <| zw1 6 (.slice a0 B.length c0) (H.cell 0 rfl rfl) <| zwd fun Kq kq => d_appendNil (T := 84) (e := 5) (size := 1) (bytes := 1) rfl H (by kernel_rfl) (H.at 1 rfl) rfl rfl (flat_one encB encB_one B) (by omega) (by omega) fun v2 w3 H4 => ?_
 obtain ⟨a5, c6, rfl⟩ := ownsRow_shape (H4.at 3 rfl)
 refine kq _ _ <| wv 2 (.slice a5 B.length c6) <| znt <| w_ret <| ze1 (.slice a5 B.length c6) ?_
 exact ⟨_, rfl, H4.pk [0, 1, 3, 2]⟩
abbrev kRt_0 (p0 : Option Addr) (p1 : List UInt8) (p2 : Nat) : Ck := rowC 5 1 (.slice p0 p1.length p2) p1.length (p1.flatMap encB)
theorem varF_moreR {f m : Nat} (hm : m < 128 ^ f) (h : 128 ≤ m) : 0 < f - 1 ∧ m / 128 < 128 ^ (f - 1) ∧ varF f m = UInt8.ofNat ((m : Int) % 128 + 128).toNat :: varF (f - 1) (m / 128) := by
 have := varF_more hm h
 rw [or_more (by omega)] at this
 exact this
theorem rNum_any (w : World) (n : Nat) (hn : n < 18446744073709551616) :
  Calls Tryz.prog 113 #[(.int .u64 ((n : Int)))] w fun e w' => ∃ u, e = .returned u ∧ (rowC 5 1 u (varB n).length ((varB n).flatMap encB)).ok w' ∧ Upd [] w w' ∧ ∀ q_, (rowC 5 1 u (varB n).length ((varB n).flatMap encB)).fp q_ → w.heap.size ≤ q_ := by
 have H := Sat.start0 w
 refine calls_fr Tryz.func113 rfl 20 rfl (Nat.le_of_ble_eq_true rfl) ?_
 refine zsl <| wv 2 (.slice none 0 0) <| znsl <| wv 3 (.slice none 0 0) <| znt <| w_seq <| w_block ?_
 have H1 := H.addNil 5 1
 refine wp_round ([0] ++ List.range' 3 12) (fun F_ W_ m_ => ∃ (m : Nat) (a : Option Addr) (c : Nat) (D : List UInt8) (f : Nat), F_ 0 = (.int .u64 ((m : Int))) ∧ F_ 3 = (.slice a D.length c) ∧ (0 < f ∧ m < 128 ^ f ∧ m < 18446744073709551616) ∧ (D ++ varF f m = varB n) ∧ (D.length + f ≤ 10) ∧ Sat w [restC w (fun _ => False), (kRt_0 a D c)] W_ ∧ m_ = m + 1) _ ⟨n, none, 0, [], 10, (show ((.int .u64 ((n : Int))) : Value) = _ by first | rfl | go_num), (by first | rfl | go_num), ⟨by omega, by omega, hn⟩, rfl, (by decide), H1, rfl⟩ ?_
 rintro g2 w3 _ ⟨m, a, c, D, f, v5, v6, hm, hD, hf, H4, rfl⟩
 refine wp_know 0 _ v5 ?_
 refine wp_know 3 _ v6 ?_
 refine w_seq <| zsl <| wv 4 (.int .u64 ((m : Int))) <| wv 5 (.bool (decide ((m : Int) ≥ 128))) <| znt ?_
 refine (bsplit (decide ((m : Int) ≥ 128))).elim (fun b8 => ?_) (fun b8 => ?_)
 ·have g9 := of_decide_eq_true b8
  refine zwkt _ b8 ?_
  refine w_skip <| ztn <| w_block <| zsl <| wv 6 (.slice a D.length c) <| wv 7 (.int .u64 ((m : Int))) <| wv 8 (.int .u64 ((m : Int) % 128)) ?_ (hr := e_rem (by kernel_rfl) (by omega) (by omega))
  refine wv 9 (.int .u8 ((m : Int) % 128)) ?_ (hr := e_int (z := (m : Int) % 128) (by kernel_rfl) (wrap_u8 (by omega)))
  refine wv 10 (.int .u8 (((m : Int) % 128) + 128)) ?_ (hr := e_int (z := ((m : Int) % 128) + 128) (by kernel_rfl) (wrap_u8 (by omega)))
  refine zwd fun Kq kq => zdbs 5 1 1 (.int .u8 (0)) [(0, (.int .u8 (((m : Int) % 128) + 128)))] ([(.int .u8 (((m : Int) % 128) + 128))] : List Value) H4 ?_
  intro b12 w13 (H14 : Sat w [restC w (fun _ => False), (kRt_0 a D c), rowC 5 1 (.slice (some ⟨b12, 0, none⟩) 1 1) 1 ([(.int .u8 (((m : Int) % 128) + 128))] : List Value)] w13)
  have H15 : Sat w [restC w (fun _ => False), (kRt_0 a D c), rowC 5 1 (.slice (some ⟨b12, 0, none⟩) 1 1) 1 ([UInt8.ofNat (((m : Int) % 128) + 128).toNat].flatMap encB)] w13 := H14.cast (by rw [byte_enc (by omega)])
  refine kq _ _ <| zwd fun Kq kq => d_append (T := 84) (e := 5) (size := 1) (bytes := 1) rfl H15 (by kernel_rfl) 1 2 rfl rfl rfl rfl (flat_one encB encB_one [UInt8.ofNat (((m : Int) % 128) + 128).toNat]) (by omega) (by omega) ?_
  intro v17 w18 (H19 : Sat w [restC w (fun _ => False), rowC 5 1 v17 (D.length + 1) ((D.flatMap encB) ++ ([UInt8.ofNat (((m : Int) % 128) + 128).toNat].flatMap encB)), rowC 5 1 (.slice (some ⟨b12, 0, none⟩) 1 1) 1 ([UInt8.ofNat (((m : Int) % 128) + 128).toNat].flatMap encB)] w18)
  have H22 : Sat w [restC w (fun _ => False), rowC 5 1 v17 ((D ++ [UInt8.ofNat (((m : Int) % 128) + 128).toNat]).length) ((D ++ [UInt8.ofNat (((m : Int) % 128) + 128).toNat]).flatMap encB), rowC 5 1 (.slice (some ⟨b12, 0, none⟩) 1 1) 1 ([UInt8.ofNat (((m : Int) % 128) + 128).toNat].flatMap encB)] w18 := H19.cast (by simp only [List.length_append, List.flatMap_append] <;> rfl)
  obtain ⟨a20, c21, rfl⟩ := ownsRow_shape (H22.at 1 rfl)
  refine kq _ _ <| wv 3 (.slice a20 ((D ++ [UInt8.ofNat (((m : Int) % 128) + 128).toNat]).length) c21) <| znt <| w_lit <| wv 13 (.int .u64 ((m : Int))) <| wv 14 (.int .u64 ((m : Int) / 128)) ?_ (hr := e_quo (by kernel_rfl) (by omega) (by omega) (wrap_u64 (by omega)))
  refine wv 0 (.int .u64 ((m : Int) / 128)) <| w_nil <| blk_normal ?_
  have hv := varF_moreR hm.2.1 (show 128 ≤ m by omega)
  have H23 := H22.pk [0, 1]
  refine round_back ?_ _ ⟨(m / 128), a20, c21, (D ++ [UInt8.ofNat (((m : Int) % 128) + 128).toNat]), (f - 1), rfl, (show ((.slice a20 ((D ++ [UInt8.ofNat (((m : Int) % 128) + 128).toNat]).length) c21) : Value) = _ by first | rfl | go_num), ⟨hv.1, hv.2.1, by omega⟩, (by rw [hv.2.2] at hD; simpa using hD), (by rw [List.length_append]; simp only [List.length_cons, List.length_nil]; omega), H23, rfl⟩ (by omega)
  exact zs
 have g24 := of_decide_eq_false b8
 refine zwkf _ b8 ?_
 refine zxb <| ztn <| zsl <| wv 15 (.slice a D.length c) <| wv 16 (.int .u64 ((m : Int))) <| wv 17 (.int .u8 ((m : Int) % 256)) ?_ (hr := e_int (z := (m : Int)) (by kernel_rfl) (by rw [wrap_u8_mod]))
 refine zwd fun Kq kq => zdbs 5 1 1 (.int .u8 (0)) [(0, (.int .u8 ((m : Int) % 256)))] ([(.int .u8 ((m : Int) % 256))] : List Value) H4 ?_
 intro b27 w28 (H29 : Sat w [restC w (fun _ => False), (kRt_0 a D c), rowC 5 1 (.slice (some ⟨b27, 0, none⟩) 1 1) 1 ([(.int .u8 ((m : Int) % 256))] : List Value)] w28)
 have H30 : Sat w [restC w (fun _ => False), (kRt_0 a D c), rowC 5 1 (.slice (some ⟨b27, 0, none⟩) 1 1) 1 ([UInt8.ofNat ((m : Int) % 256).toNat].flatMap encB)] w28 := H29.cast (by rw [byte_enc (by omega)])
 refine kq _ _ <| zwd fun Kq kq => d_append (T := 84) (e := 5) (size := 1) (bytes := 1) rfl H30 (by kernel_rfl) 1 2 rfl rfl rfl rfl (flat_one encB encB_one [UInt8.ofNat ((m : Int) % 256).toNat]) (by omega) (by omega) fun v32 w33 H34 => ?_
 have H37 : Sat w [restC w (fun _ => False), rowC 5 1 v32 ((D ++ [UInt8.ofNat ((m : Int) % 256).toNat]).length) ((D ++ [UInt8.ofNat ((m : Int) % 256).toNat]).flatMap encB), rowC 5 1 (.slice (some ⟨b27, 0, none⟩) 1 1) 1 ([UInt8.ofNat ((m : Int) % 256).toNat].flatMap encB)] w33 := H34.cast (by simp only [List.length_append, List.flatMap_append] <;> rfl)
 obtain ⟨a35, c36, rfl⟩ := ownsRow_shape (H37.at 1 rfl)
 refine kq _ _ <| wv 2 (.slice a35 ((D ++ [UInt8.ofNat ((m : Int) % 256).toNat]).length) c36) <| znt <| w_ret <| ze1 (.slice a35 ((D ++ [UInt8.ofNat ((m : Int) % 256).toNat]).length) c36) ?_
 have hv := varF_last hm.1 (show m < 128 by omega)
 have hX : (D ++ [UInt8.ofNat ((m : Int) % 256).toNat]) = varB n := by rw [← hD, hv]
 exact ⟨_, rfl, (by rw [← hX]; exact H37.at 1 rfl), H37.upd 0 rfl [] (fun _ h => h.elim), (by rw [← hX]; exact H37.fresh 0 rfl (fun _ h => h) 1 rfl rfl)⟩
theorem rInt_any (w : World) (n : Int) (hn : n ≤ 9223372036854775807) :
  Calls Tryz.prog 81 #[(.int .i64 (n))] w fun e w' => ∃ u, e = .returned u ∧ (rowC 5 1 u (intB n).length ((intB n).flatMap encB)).ok w' ∧ Upd [] w w' ∧ ∀ q_, (rowC 5 1 u (intB n).length ((intB n).flatMap encB)).fp q_ → w.heap.size ≤ q_ := by
 have H := Sat.start0 w
 obtain ⟨k, hk⟩ : ∃ k : Nat, (k : Int) = max n 0 := ⟨(max n 0).toNat, by omega⟩
 refine calls_fr Tryz.func81 rfl 7 rfl (Nat.le_of_ble_eq_true rfl) ?_
 refine zsl <| wv 2 (.slice none 0 0) <| znsl <| wv 3 (.int .i64 (n)) <| wv 4 (.int .i64 (max n 0)) ?_ (hr := e_maxI (k := .i64) (a := n) (b := 0) (z := max n 0) rfl rfl rfl)
 refine wv 5 (.int .u64 ((k : Int))) ?_ (hr := e_int (z := max n 0) (by kernel_rfl) ((by rw [← hk]; exact wrap_u64 (by omega))))
 refine zwd fun Kq kq => zdc 6 (rNum_any w k (by omega)) ?_
 rintro _ w2 ⟨u3, rfl, k4, p5, q6⟩
 have H7 := H.addU p5 k4 q6
 obtain ⟨a8, c9, rfl⟩ := ownsRow_shape (H7.at 1 rfl)
 refine ⟨_, rfl, ?_⟩
 refine kq _ _ <| wv 2 (.slice a8 ((varB k).length) c9) <| znt <| w_ret <| ze1 (.slice a8 ((varB k).length) c9) ?_
 have hX : (varB k) = intB n := by unfold intB; rw [show (max 0 n).toNat = k by omega]
 exact ⟨_, rfl, (by rw [← hX]; exact H7.at 1 rfl), H7.upd 0 rfl [] (fun _ h => h.elim), (by rw [← hX]; exact H7.fresh 0 rfl (fun _ h => h) 1 rfl rfl)⟩
theorem rRow_any (w : World) (v : Value) (s : List UInt8) (hs : ListAt encB 1 w v s) (hl : s.length ≤ 1000000) :
  Calls Tryz.prog 80 #[v] w fun e w' => ∃ u, e = .returned u ∧ (rowC 5 1 u (rowB s).length ((rowB s).flatMap encB)).ok w' ∧ Upd [] w w' ∧ ∀ q_, (rowC 5 1 u (rowB s).length ((rowB s).flatMap encB)).fp q_ → w.heap.size ≤ q_ := by
 have H := Sat.start0 w
 obtain ⟨a, c, rfl⟩ := ListAt.len hs
 have hi10 := intB_len (s.length : Int)
 refine calls_fr Tryz.func80 rfl 8 rfl (Nat.le_of_ble_eq_true rfl) ?_
 refine zsl <| wv 2 (.slice none 0 0) <| znsl <| wv 3 (.slice a s.length c) <| wv 4 (.int .i64 ((s.length : Int))) <| zwd fun Kq kq => zdc 5 (rInt_any w (s.length : Int) (by omega)) ?_
 rintro _ w2 ⟨u3, rfl, k4, p5, q6⟩
 have H7 := H.addU p5 k4 q6
 obtain ⟨a8, c9, rfl⟩ := ownsRow_shape (H7.at 1 rfl)
 refine ⟨_, rfl, ?_⟩
 refine kq _ _ <| wv 6 (.slice a s.length c) <| zwd fun Kq kq => d_appendL (T := 84) (e := 5) (size := 1) (bytes := 1) rfl H7 (by kernel_rfl) encB_len encB_one 1 rfl (ListAt.now H7 0 rfl hs) rfl rfl (by omega) (by omega) ?_
 intro v11 w12 (H14 : Sat w [restC w (fun _ => False), rowC 5 1 v11 ((intB (s.length : Int)).length + s.length) ((intB (s.length : Int)).flatMap encB ++ s.flatMap encB)] w12)
 have H13 : Sat w [restC w (fun _ => False), rowC 5 1 v11 (((intB (s.length : Int)) ++ s).length) (((intB (s.length : Int)) ++ s).flatMap encB)] w12 := H14.cast (by simp only [List.length_append, List.flatMap_append])
 obtain ⟨a15, c16, rfl⟩ := ownsRow_shape (H13.at 1 rfl)
 refine kq _ _ <| wv 2 (.slice a15 (((intB (s.length : Int)) ++ s).length) c16) <| znt <| w_ret <| ze1 (.slice a15 (((intB (s.length : Int)) ++ s).length) c16) ?_
 have hX : ((intB (s.length : Int)) ++ s) = rowB s := by unfold rowB intB; rw [show (max 0 (s.length : Int)).toNat = s.length by omega]
 exact ⟨_, rfl, (by rw [← hX]; exact H13.at 1 rfl), H13.upd 0 rfl [] (fun _ h => h.elim), (by rw [← hX]; exact H13.fresh 0 rfl (fun _ h => h) 1 rfl rfl)⟩
theorem rJoin_any (w : World) (v : Value) (vs : List Value) (ss : List (List UInt8)) (hv : ListAt encW 1 w v vs) (hs : Parts w vs ss) (hl : ss.flatten.length ≤ 1000000) (hk : vs.length ≤ 1000) :
  Calls Tryz.prog 79 #[v] w fun e w' => ∃ u, e = .returned u ∧ (rowC 5 1 u ss.flatten.length (ss.flatten.flatMap encB)).ok w' ∧ Upd [] w w' ∧ ∀ q_, (rowC 5 1 u ss.flatten.length (ss.flatten.flatMap encB)).fp q_ → w.heap.size ≤ q_ := by
 have H := Sat.start0 w
 obtain ⟨a0, c0, rfl⟩ := ListAt.len hv
 have hsl := hs.len
 refine calls_fr Tryz.func79 rfl 18 rfl (Nat.le_of_ble_eq_true rfl) ?_
 refine zsl <| wv 2 (.slice none 0 0) <| znsl <| wv 3 (.slice none 0 0) <| znt <| w_seq <| zsl <| wv 5 (.slice a0 vs.length c0) <| wv 6 (.int .i64 ((vs.length : Int))) <| wv 7 (.int .i64 (0)) ?_
 refine znt <| w_block ?_
 have H1 := H.addNil 5 1
 refine wp_round ([3, 4] ++ List.range' 7 10) (fun F_ W_ m_ => ∃ (i : Nat) (a : Option Addr) (c : Nat) (D : List UInt8), F_ 7 = (.int .i64 ((i : Int))) ∧ F_ 3 = (.slice a D.length c) ∧ (i ≤ vs.length) ∧ (D = (ss.take i).flatten) ∧ Sat w [restC w (fun _ => False), (kRt_0 a D c)] W_ ∧ m_ = vs.length - i) _ ⟨0, none, 0, [], (show ((.int .i64 (0)) : Value) = _ by first | rfl | go_num), (by first | rfl | go_num), (Nat.zero_le _), rfl, H1, rfl⟩ ?_
 rintro g2 w3 _ ⟨i, a, c, D, v5, v6, hi, hD, H4, rfl⟩
 refine wp_know 7 _ v5 ?_
 refine wp_know 3 _ v6 ?_
 refine zsl <| wv 8 (.bool (decide ((i : Int) < (vs.length : Int)))) <| znt <| w_seq ?_
 refine (bsplit (decide ((i : Int) < (vs.length : Int)))).elim (fun b8 => ?_) (fun b8 => ?_)
 ·have g9 := of_decide_eq_true b8
  refine zwkt _ b8 ?_
  refine w_skip <| ztn <| w_seq <| w_block <| zsl <| wv 9 (.int .i64 ((i : Int))) <| wv 4 (.int .i64 ((i : Int))) <| znt <| w_lit <| wv 10 (.slice a D.length c) ?_
  refine wv 11 (.slice a0 vs.length c0) <| wv 12 (.int .i64 ((i : Int))) ?_
  obtain ⟨g11, o12, c13, e14, R15⟩ := SliceOf.atD hv undef (show i < vs.length by omega)
  refine wv 13 (.pointer (some ⟨g11, o12 + ((i : Int)).toNat * 1, none⟩)) ?_ (hr := e_indexAddrW (E := 84) (by kernel_rfl) (by kernel_rfl) (Nat.le_of_ble_eq_true rfl) rfl e14 rfl (by omega) (by omega))
  refine zw1 14 (vs.getD i undef) (H4.cellR 0 rfl (cells_at R15 0 (by kernel_rfl) (show o12 + ((i : Int)).toNat * 1 = o12 + i * 1 + 0 by omega)) (fun h => h)) <| zwd fun Kq kq => d_appendL (T := 84) (e := 5) (size := 1) (bytes := 1) rfl H4 (by kernel_rfl) encB_len encB_one 1 rfl (ListAt.now H4 0 rfl (hs.get i (by have := hs.len; omega))) rfl rfl (by have := flat_le ss (i := i) (by omega); rw [hD]; omega) (by have := flat_le ss (i := i) (by omega); rw [hD]; omega) ?_
  intro v17 w18 (H20 : Sat w [restC w (fun _ => False), rowC 5 1 v17 (D.length + (ss.getD i []).length) (D.flatMap encB ++ (ss.getD i []).flatMap encB)] w18)
  have H19 : Sat w [restC w (fun _ => False), rowC 5 1 v17 ((D ++ (ss.getD i [])).length) ((D ++ (ss.getD i [])).flatMap encB)] w18 := H20.cast (by simp only [List.length_append, List.flatMap_append])
  obtain ⟨a21, c22, rfl⟩ := ownsRow_shape (H19.at 1 rfl)
  refine kq _ _ <| wv 3 (.slice a21 ((D ++ (ss.getD i [])).length) c22) <| w_nil <| blk_normal <| ztn <| w_lit <| zwi 16 ((i : Int) + 1) <| wv 7 (.int .i64 ((i : Int) + 1)) <| w_nil <| round_back ?_ _ ⟨(i + 1), a21, c22, (D ++ (ss.getD i [])), rfl, (show ((.slice a21 ((D ++ (ss.getD i [])).length) c22) : Value) = _ by first | rfl | go_num), (by omega), (by rw [hD, flat_step ss (by omega)]), H19, rfl⟩ (by omega)
  exact zs
 have g23 := of_decide_eq_false b8
 refine zwkf _ b8 ?_
 refine zxb <| ztn <| zsl <| wv 17 (.slice a D.length c) <| wv 2 (.slice a D.length c) <| znt <| w_ret <| ze1 (.slice a D.length c) ?_
 have hX : D = ss.flatten := by rw [hD, List.take_of_length_le (by omega)]
 exact ⟨_, rfl, (by rw [← hX]; exact H4.at 1 rfl), H4.upd 0 rfl [] (fun _ h => h.elim), (by rw [← hX]; exact H4.fresh 0 rfl (fun _ h => h) 1 rfl rfl)⟩
end Go.Proofs.YtenihpghfdcpkaaGreat
