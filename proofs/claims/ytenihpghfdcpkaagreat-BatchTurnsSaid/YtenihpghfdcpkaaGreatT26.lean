/- WHAT IS PROVED: contracts and plain laws of Kp12. Conditions: stated with each. -/
import Derived.Test.YtenihpghfdcpkaaGreatT05
import Derived.Test.YtenihpghfdcpkaaGreatT06
import Derived.Test.YtenihpghfdcpkaaGreatT19
import Derived.Test.YtenihpghfdcpkaaGreatT25
set_option maxHeartbeats 4000000
set_option maxRecDepth 100000
namespace Go.Proofs.YtenihpghfdcpkaaGreat
open Go.RowKit
abbrev kKp12_0 (p0 : StampD) : List Value := ([(.int .i64 p0.r), (.int .i64 p0.cl), (.int .i64 p0.seq)] : List Value) ++ hc p0.h ++ ([(.int .u64 p0.t), (.int .i64 p0.sb), (.int .i64 p0.sm)] : List Value)
abbrev kKp12_1 (p0 : DenyD) : List Value := ([(.int .i64 p0.r), (.int .i64 p0.i), (.int .i64 p0.sb), (.int .i64 p0.sm)] : List Value)
abbrev kKp12_2 (p0 : CeR) : List Value := ([(.int .i64 p0.x.cl), (.int .i64 p0.x.seq)] : List Value) ++ hc p0.x.h ++ ([(.int .i64 p0.x.len), (.int .i64 p0.x.sb), (.int .i64 p0.x.sm), (.slice p0.sa p0.S.length p0.sc)] : List Value)
abbrev kKp12_3 (p0 : CommitD) : List Value := ([(.int .i64 p0.cl), (.int .i64 p0.seq)] : List Value) ++ hc p0.h ++ ([(.int .i64 p0.len), (.int .i64 p0.sb), (.int .i64 p0.sm)] : List Value)
abbrev kKp12_4 (p0 : CommitD) (p1 : CeR) (p2 : Nat) : List Value := ([(.int .i64 p0.cl), (.int .i64 p0.seq)] : List Value) ++ hc p0.h ++ ([(.int .i64 p0.len), (.int .i64 p0.sb), (.int .i64 p0.sm), (.slice p1.sa p2 p1.sc)] : List Value)
abbrev kKp12_5 (p0 : PrR) : List Value := ([(.int .i64 p0.r), (.int .i64 p0.e), (.int .u64 p0.f), (.slice p0.ca p0.C.length p0.cc), (.int .i64 p0.sb), (.int .i64 p0.sm)] : List Value)
abbrev kKp12_6 (p0 : OpR) : List Value := ([(.int .i64 p0.i), (.slice p0.pa p0.P.length p0.pc)] : List Value) ++ hc p0.h
abbrev kKp12_7 (p0 : OpR) (p1 : Nat) : List Value := ([(.int .i64 p0.i), (.slice p0.pa p1 p0.pc)] : List Value) ++ hc p0.h
abbrev kKp12_8 (p0 : Int) (p1 : Int) (p2 : Option Addr) (p3 : Nat) (p4 : Nat) (p5 : Option Addr) (p6 : Nat) (p7 : Nat) (p8 : Option Addr) (p9 : Nat) (p10 : Nat) : List Value := ([(.int .i64 p0), (.int .u64 p1), (.slice p2 p3 p4), (.slice p5 p6 p7), (.slice p8 p9 p10)] : List Value)
abbrev kKp12_9 (p0 : PrR) (p1 : Nat) : List Value := ([(.int .i64 p0.r), (.int .i64 p0.e), (.int .u64 p0.f), (.slice p0.ca p1 p0.cc), (.int .i64 p0.sb), (.int .i64 p0.sm)] : List Value)
theorem sameSt_any (w : World) (va : Option Addr) (vc : Nat) (xs : List StampD) (hxs : ListAt encSt 38 w (.slice va xs.length vc) xs) (ua : Option Addr) (uc : Nat) (ys : List StampD) (hys : ListAt encSt 38 w (.slice ua ys.length uc) ys) (hxy : ys = xs) :
  Calls Tryz.prog 186 #[(.slice va xs.length vc), (.slice ua ys.length uc)] w fun e w' => e = .returned (.bool true) ∧ Upd [] w w' := by
 have H := Sat.start0 w
 have hlen : ys.length = xs.length := by rw [hxy]
 have hle := SliceOf.le hxs
 unfold maxLen at hle
 refine calls_fr Tryz.func186 rfl 26 rfl (Nat.le_of_ble_eq_true rfl) ?_
 refine zsl <| wv 4 (.bool false) <| znt <| w_seq <| zsl <| wv 6 (.slice va xs.length vc) <| wv 7 (.int .i64 ((xs.length : Int))) <| wv 8 (.slice ua ys.length uc) <| wv 9 (.int .i64 ((ys.length : Int))) <| wv 10 (.bool (!(decide ((xs.length : Int) = (ys.length : Int))))) ?_
 apply znt
 have b1 : (!(decide ((xs.length : Int) = (ys.length : Int)))) = false := by rw [decide_eq_true (by omega)]; rfl
 have g2 := bnot_false b1
 have g3 := of_decide_eq_true g2
 refine zwkf _ b1 ?_
 refine w_skip <| ztn <| w_seq <| zsl <| wv 5 (.int .i64 (0)) <| znt <| w_block <| wp_round ([4, 5] ++ List.range' 11 15) (fun F_ W_ m_ => ∃ (i : Nat), F_ 5 = (.int .i64 ((i : Int))) ∧ (i ≤ xs.length) ∧ Sat w [restC w (fun _ => False)] W_ ∧ m_ = xs.length - i) _ ⟨0, (show ((.int .i64 (0)) : Value) = _ by first | rfl | go_num), (Nat.zero_le _), H, rfl⟩ ?_
 rintro g4 w5 _ ⟨i, v7, hi, H6, rfl⟩
 refine wp_know 5 _ v7 ?_
 refine w_seq <| zsl <| wv 11 (.int .i64 ((i : Int))) <| wv 12 (.slice va xs.length vc) <| wv 13 (.int .i64 ((xs.length : Int))) <| wv 14 (.bool (decide ((i : Int) < (xs.length : Int)))) <| znt ?_
 refine (bsplit (decide ((i : Int) < (xs.length : Int)))).elim (fun b9 => ?_) (fun b9 => ?_)
 ·have g10 := of_decide_eq_true b9
  refine zwkt _ b9 ?_
  refine w_skip <| ztn <| w_seq <| w_block <| w_seq <| zqs H6 ?_
  refine qv 17 (.slice va xs.length vc) <| qv 18 (.int .i64 ((i : Int))) ?_
  obtain ⟨g12, o13, c14, e15, R16⟩ := SliceOf.atD hxs stamp0 (show i < xs.length by omega)
  refine qv 19 (.pointer (some ⟨g12, o13 + ((i : Int)).toNat * 38, none⟩)) ?_ (hr := fun _ H' => (e_indexAddrW (E := 149) (by kernel_rfl) (by kernel_rfl) (Nat.le_of_ble_eq_true rfl) rfl e15 rfl (by omega) (by omega)))
  refine qv 20 (.agg ⟨(kKp12_0 (xs.getD i stamp0))⟩) ?_ (hr := fun _ H' => (e_loadRun (vs := (kKp12_0 (xs.getD i stamp0))) rfl (by kernel_rfl) (by kernel_rfl) (Nat.le_of_ble_eq_true (by kernel_rfl)) (H'.runR 0 rfl (cells_run R16 0 (by kernel_rfl) (show o13 + ((i : Int)).toNat * 38 = o13 + i * 38 + 0 by omega)) (fun h => h))))
  refine qv 21 (.slice ua ys.length uc) <| qv 22 (.int .i64 ((i : Int))) ?_
  obtain ⟨g17, o18, c19, e20, R21⟩ := SliceOf.atD hys stamp0 (show i < ys.length by omega)
  refine qv 23 (.pointer (some ⟨g17, o18 + ((i : Int)).toNat * 38, none⟩)) ?_ (hr := fun _ H' => (e_indexAddrW (E := 149) (by kernel_rfl) (by kernel_rfl) (Nat.le_of_ble_eq_true rfl) rfl e20 rfl (by omega) (by omega)))
  refine qv 24 (.agg ⟨(kKp12_0 (ys.getD i stamp0))⟩) ?_ (hr := fun _ H' => (e_loadRun (vs := (kKp12_0 (ys.getD i stamp0))) rfl (by kernel_rfl) (by kernel_rfl) (Nat.le_of_ble_eq_true (by kernel_rfl)) (H'.runR 0 rfl (cells_run R21 0 (by kernel_rfl) (show o18 + ((i : Int)).toNat * 38 = o18 + i * 38 + 0 by omega)) (fun h => h))))
  refine qv 25 (.bool (!(decide ((xs.getD i stamp0) = (ys.getD i stamp0))))) ?_ (hr := fun _ H' => (stF.e_ne (xs.getD i stamp0) (ys.getD i stamp0) rfl rfl))
  refine q_end ?_
  intro w22 H23
  apply ztn
  have b24 : (!(decide ((xs.getD i stamp0) = (ys.getD i stamp0)))) = false := by rw [decide_eq_true (by rw [hxy])]; rfl
  have g25 := bnot_false b24
  have g26 := of_decide_eq_true g25
  refine zwkf _ b24 ?_
  refine w_skip <| blk_normal <| ztn <| w_lit <| wv 15 (.int .i64 ((i : Int))) <| zwi 16 ((i : Int) + 1) <| wv 5 (.int .i64 ((i : Int) + 1)) <| w_nil <| round_back ?_ _ ⟨(i + 1), rfl, (by omega), H23, rfl⟩ (by omega)
  exact zs
 have g27 := of_decide_eq_false b9
 refine zwkf _ b9 ?_
 refine zxb <| ztn <| zsl <| wv 4 (.bool true) <| znt <| w_ret <| ze1 (.bool true) ?_
 exact ⟨rfl, H6.upd 0 rfl [] (fun _ h => h.elim)⟩
theorem sameBt_any (w : World) (va : Option Addr) (vc : Nat) (xs : List UInt8) (hxs : ListAt encB 1 w (.slice va xs.length vc) xs) (ua : Option Addr) (uc : Nat) (ys : List UInt8) (hys : ListAt encB 1 w (.slice ua ys.length uc) ys) (hxy : ys = xs) :
  Calls Tryz.prog 138 #[(.slice va xs.length vc), (.slice ua ys.length uc)] w fun e w' => e = .returned (.bool true) ∧ Upd [] w w' := by
 have H := Sat.start0 w
 have hlen : ys.length = xs.length := by rw [hxy]
 have hle := SliceOf.le hxs
 unfold maxLen at hle
 refine calls_fr Tryz.func138 rfl 26 rfl (Nat.le_of_ble_eq_true rfl) ?_
 refine zsl <| wv 4 (.bool false) <| znt <| w_seq <| zsl <| wv 6 (.slice va xs.length vc) <| wv 7 (.int .i64 ((xs.length : Int))) <| wv 8 (.slice ua ys.length uc) <| wv 9 (.int .i64 ((ys.length : Int))) <| wv 10 (.bool (!(decide ((xs.length : Int) = (ys.length : Int))))) ?_
 apply znt
 have b1 : (!(decide ((xs.length : Int) = (ys.length : Int)))) = false := by rw [decide_eq_true (by omega)]; rfl
 refine zwkf _ b1 ?_
 refine w_skip <| ztn <| w_seq <| zsl <| wv 5 (.int .i64 (0)) <| znt <| w_block <| wp_round ([4, 5] ++ List.range' 11 15) (fun F_ W_ m_ => ∃ (i : Nat), F_ 5 = (.int .i64 ((i : Int))) ∧ (i ≤ xs.length) ∧ Sat w [restC w (fun _ => False)] W_ ∧ m_ = xs.length - i) _ ⟨0, (show ((.int .i64 (0)) : Value) = _ by first | rfl | go_num), (Nat.zero_le _), H, rfl⟩ ?_
 rintro g4 w5 _ ⟨i, v7, hi, H6, rfl⟩
 refine wp_know 5 _ v7 ?_
 refine w_seq <| zsl <| wv 11 (.int .i64 ((i : Int))) <| wv 12 (.slice va xs.length vc) <| wv 13 (.int .i64 ((xs.length : Int))) <| wv 14 (.bool (decide ((i : Int) < (xs.length : Int)))) <| znt ?_
 refine (bsplit (decide ((i : Int) < (xs.length : Int)))).elim (fun b9 => ?_) (fun b9 => ?_)
 ·have g10 := of_decide_eq_true b9
  refine zwkt _ b9 ?_
  refine w_skip <| ztn <| w_seq <| w_block <| w_seq <| zqs H6 ?_
  refine qv 17 (.slice va xs.length vc) <| qv 18 (.int .i64 ((i : Int))) ?_
  obtain ⟨g12, o13, c14, e15, R16⟩ := SliceOf.atD hxs 0 (show i < xs.length by omega)
  refine qv 19 (.pointer (some ⟨g12, o13 + ((i : Int)).toNat * 1, none⟩)) ?_ (hr := fun _ H' => (e_indexAddrW (E := 5) (by kernel_rfl) (by kernel_rfl) (Nat.le_of_ble_eq_true rfl) rfl e15 rfl (by omega) (by omega)))
  refine qv 20 (.int .u8 (((xs.getD i 0).toNat : Int))) ?_ (hr := fun _ H' => (zl1 (H'.cellR 0 rfl (cells_at R16 0 (by kernel_rfl) (show o13 + ((i : Int)).toNat * 1 = o13 + i * 1 + 0 by omega)) (fun h => h))))
  refine qv 21 (.slice ua ys.length uc) <| qv 22 (.int .i64 ((i : Int))) ?_
  obtain ⟨g17, o18, c19, e20, R21⟩ := SliceOf.atD hys 0 (show i < ys.length by omega)
  refine qv 23 (.pointer (some ⟨g17, o18 + ((i : Int)).toNat * 1, none⟩)) ?_ (hr := fun _ H' => (e_indexAddrW (E := 5) (by kernel_rfl) (by kernel_rfl) (Nat.le_of_ble_eq_true rfl) rfl e20 rfl (by omega) (by omega)))
  refine qv 24 (.int .u8 (((ys.getD i 0).toNat : Int))) ?_ (hr := fun _ H' => (zl1 (H'.cellR 0 rfl (cells_at R21 0 (by kernel_rfl) (show o18 + ((i : Int)).toNat * 1 = o18 + i * 1 + 0 by omega)) (fun h => h))))
  refine qv 25 (.bool (!(decide (((xs.getD i 0).toNat : Int) = ((ys.getD i 0).toNat : Int))))) <| q_end fun w22 H23 => ?_
  apply ztn
  have b24 : (!(decide (((xs.getD i 0).toNat : Int) = ((ys.getD i 0).toNat : Int)))) = false := by rw [decide_eq_true (by rw [hxy])]; rfl
  have g25 := bnot_false b24
  have g26 := of_decide_eq_true g25
  refine zwkf _ b24 ?_
  refine w_skip <| blk_normal <| ztn <| w_lit <| wv 15 (.int .i64 ((i : Int))) <| zwi 16 ((i : Int) + 1) <| wv 5 (.int .i64 ((i : Int) + 1)) <| w_nil <| round_back ?_ _ ⟨(i + 1), rfl, (by omega), H23, rfl⟩ (by omega)
  exact zs
 have g27 := of_decide_eq_false b9
 refine zwkf _ b9 ?_
 refine zxb <| ztn <| zsl <| wv 4 (.bool true) <| znt <| w_ret <| ze1 (.bool true) ?_
 exact ⟨rfl, H6.upd 0 rfl [] (fun _ h => h.elim)⟩
theorem sameDn_any (w : World) (va : Option Addr) (vc : Nat) (xs : List DenyD) (hxs : ListAt encDn 4 w (.slice va xs.length vc) xs) (ua : Option Addr) (uc : Nat) (ys : List DenyD) (hys : ListAt encDn 4 w (.slice ua ys.length uc) ys) (hxy : ys = xs) :
  Calls Tryz.prog 105 #[(.slice va xs.length vc), (.slice ua ys.length uc)] w fun e w' => e = .returned (.bool true) ∧ Upd [] w w' := by
 have H := Sat.start0 w
 have hlen : ys.length = xs.length := by rw [hxy]
 have hle := SliceOf.le hxs
 unfold maxLen at hle
 refine calls_fr Tryz.func105 rfl 26 rfl (Nat.le_of_ble_eq_true rfl) ?_
 refine zsl <| wv 4 (.bool false) <| znt <| w_seq <| zsl <| wv 6 (.slice va xs.length vc) <| wv 7 (.int .i64 ((xs.length : Int))) <| wv 8 (.slice ua ys.length uc) <| wv 9 (.int .i64 ((ys.length : Int))) <| wv 10 (.bool (!(decide ((xs.length : Int) = (ys.length : Int))))) ?_
 apply znt
 have b1 : (!(decide ((xs.length : Int) = (ys.length : Int)))) = false := by rw [decide_eq_true (by omega)]; rfl
 refine zwkf _ b1 ?_
 refine w_skip <| ztn <| w_seq <| zsl <| wv 5 (.int .i64 (0)) <| znt <| w_block <| wp_round ([4, 5] ++ List.range' 11 15) (fun F_ W_ m_ => ∃ (i : Nat), F_ 5 = (.int .i64 ((i : Int))) ∧ (i ≤ xs.length) ∧ Sat w [restC w (fun _ => False)] W_ ∧ m_ = xs.length - i) _ ⟨0, (show ((.int .i64 (0)) : Value) = _ by first | rfl | go_num), (Nat.zero_le _), H, rfl⟩ ?_
 rintro g4 w5 _ ⟨i, v7, hi, H6, rfl⟩
 refine wp_know 5 _ v7 ?_
 refine w_seq <| zsl <| wv 11 (.int .i64 ((i : Int))) <| wv 12 (.slice va xs.length vc) <| wv 13 (.int .i64 ((xs.length : Int))) <| wv 14 (.bool (decide ((i : Int) < (xs.length : Int)))) <| znt ?_
 refine (bsplit (decide ((i : Int) < (xs.length : Int)))).elim (fun b9 => ?_) (fun b9 => ?_)
 ·have g10 := of_decide_eq_true b9
  refine zwkt _ b9 ?_
  refine w_skip <| ztn <| w_seq <| w_block <| w_seq <| zqs H6 ?_
  refine qv 17 (.slice va xs.length vc) <| qv 18 (.int .i64 ((i : Int))) ?_
  obtain ⟨g12, o13, c14, e15, R16⟩ := SliceOf.atD hxs deny0 (show i < xs.length by omega)
  refine qv 19 (.pointer (some ⟨g12, o13 + ((i : Int)).toNat * 4, none⟩)) ?_ (hr := fun _ H' => (e_indexAddrW (E := 122) (by kernel_rfl) (by kernel_rfl) (Nat.le_of_ble_eq_true rfl) rfl e15 rfl (by omega) (by omega)))
  refine qv 20 (.agg ⟨(kKp12_1 (xs.getD i deny0))⟩) ?_ (hr := fun _ H' => (e_loadRun (vs := (kKp12_1 (xs.getD i deny0))) rfl (by kernel_rfl) (by kernel_rfl) (Nat.le_of_ble_eq_true (by kernel_rfl)) (H'.runR 0 rfl (cells_run R16 0 (by kernel_rfl) (show o13 + ((i : Int)).toNat * 4 = o13 + i * 4 + 0 by omega)) (fun h => h))))
  refine qv 21 (.slice ua ys.length uc) <| qv 22 (.int .i64 ((i : Int))) ?_
  obtain ⟨g17, o18, c19, e20, R21⟩ := SliceOf.atD hys deny0 (show i < ys.length by omega)
  refine qv 23 (.pointer (some ⟨g17, o18 + ((i : Int)).toNat * 4, none⟩)) ?_ (hr := fun _ H' => (e_indexAddrW (E := 122) (by kernel_rfl) (by kernel_rfl) (Nat.le_of_ble_eq_true rfl) rfl e20 rfl (by omega) (by omega)))
  refine qv 24 (.agg ⟨(kKp12_1 (ys.getD i deny0))⟩) ?_ (hr := fun _ H' => (e_loadRun (vs := (kKp12_1 (ys.getD i deny0))) rfl (by kernel_rfl) (by kernel_rfl) (Nat.le_of_ble_eq_true (by kernel_rfl)) (H'.runR 0 rfl (cells_run R21 0 (by kernel_rfl) (show o18 + ((i : Int)).toNat * 4 = o18 + i * 4 + 0 by omega)) (fun h => h))))
  refine qv 25 (.bool (!(decide ((xs.getD i deny0) = (ys.getD i deny0))))) ?_ (hr := fun _ H' => (dnF.e_ne (xs.getD i deny0) (ys.getD i deny0) rfl rfl))
  refine q_end ?_
  intro w22 H23
  apply ztn
  have b24 : (!(decide ((xs.getD i deny0) = (ys.getD i deny0)))) = false := by rw [decide_eq_true (by rw [hxy])]; rfl
  have g25 := bnot_false b24
  have g26 := of_decide_eq_true g25
  refine zwkf _ b24 ?_
  refine w_skip <| blk_normal <| ztn <| w_lit <| wv 15 (.int .i64 ((i : Int))) <| zwi 16 ((i : Int) + 1) <| wv 5 (.int .i64 ((i : Int) + 1)) <| w_nil <| round_back ?_ _ ⟨(i + 1), rfl, (by omega), H23, rfl⟩ (by omega)
  exact zs
 have g27 := of_decide_eq_false b9
 refine zwkf _ b9 ?_
 refine zxb <| ztn <| zsl <| wv 4 (.bool true) <| znt <| w_ret <| ze1 (.bool true) ?_
 exact ⟨rfl, H6.upd 0 rfl [] (fun _ h => h.elim)⟩
theorem kCert_any (w : World) (c d : CeR) (hc_ : CeOk w c) (hd_ : CeOk w d) (hx : d.x = c.x) (hS : d.S = c.S) :
  Calls Tryz.prog 139 #[(.agg ⟨(([(.int .i64 (c.x.cl)), (.int .i64 (c.x.seq))] : List Value) ++ hc c.x.h ++ ([(.int .i64 (c.x.len)), (.int .i64 (c.x.sb)), (.int .i64 (c.x.sm)), (.slice c.sa c.S.length c.sc)] : List Value))⟩), (.agg ⟨(([(.int .i64 (d.x.cl)), (.int .i64 (d.x.seq))] : List Value) ++ hc d.x.h ++ ([(.int .i64 (d.x.len)), (.int .i64 (d.x.sb)), (.int .i64 (d.x.sm)), (.slice d.sa d.S.length d.sc)] : List Value))⟩)] w fun e w' => e = .returned (.bool true) ∧ Upd [] w w' := by
 have H := Sat.start0 w
 refine calls_fr Tryz.func139 rfl 17 rfl (Nat.le_of_ble_eq_true rfl) ?_
 refine zsl <| zwd fun Kq kq => zdb (kKp12_2 c) H fun b2 w3 H4 => ?_
 refine kq _ _ <| zwd fun Kq kq => zdb (kKp12_2 d) H4 fun b6 w7 H8 => ?_
 refine kq _ _ <| wv 4 (.bool false) <| znsl <| wv 5 (pt b2 0) <| zwN 6 (kKp12_3 c.x) (H8.at 1 rfl) <| wv 7 (pt b6 0) <| zwN 8 (kKp12_3 d.x) (H8.at 2 rfl) <| wv 9 (.bool (decide (c.x = d.x))) ?_ (hr := coF.e_eq c.x d.x rfl rfl)
 refine wv 10 (.bool (decide (c.x = d.x))) ?_
 have b9 : (decide (c.x = d.x)) = true := by exact decide_eq_true hx.symm
 refine wl_know 10 (.bool true) (congrArg Value.bool b9) ?_
 have g10 := of_decide_eq_true b9
 refine wy 5 10 true 11 (pt b2 37) <| wy 5 10 true 12 (.slice c.sa c.S.length c.sc) ?_ (hr := zl1 (H8.cell 1 rfl (by kernel_rfl)))
 refine wy 5 10 true 13 (pt b6 37) <| wy 5 10 true 14 (.slice d.sa d.S.length d.sc) ?_ (hr := zl1 (H8.cell 2 rfl (by kernel_rfl)))
 refine wl_do (wantsY 5 10 true rfl (by kernel_rfl) rfl (by kernel_rfl)) (fun Kq kq => ?_)
 refine zdq 15 (sameSt_any w7 c.sa c.sc c.S (ListAt.now H8 0 rfl hc_) d.sa d.sc d.S (ListAt.now H8 0 rfl hd_) hS) H8 ?_
 intro w12 H13
 refine kq _ _ <| wv 16 (.bool true) <| wv 4 (.bool true) <| znt <| w_ret <| ze1 (.bool true) ?_
 exact ⟨rfl, H13.upd 0 rfl [] (fun _ h => h.elim)⟩
theorem ce_at {C D : List CeR} (h : D.map (fun c => (c.x, c.S)) = C.map fun c => (c.x, c.S)) {i : Nat} (hi : i < C.length) : (D.getD i ce0).x = (C.getD i ce0).x ∧ (D.getD i ce0).S = (C.getD i ce0).S := by
 have hl := map_len h
 have e := congrArg (fun l => l[i]?) h
 simp only [List.getElem?_map, List.getElem?_eq_getElem hi, List.getElem?_eq_getElem (show i < D.length by omega), Option.map_some, Option.some.injEq, Prod.mk.injEq] at e
 rw [List.getD_eq_getElem?_getD, List.getD_eq_getElem?_getD, List.getElem?_eq_getElem hi, List.getElem?_eq_getElem (show i < D.length by omega)]
 exact e
theorem kCerts_any (w : World) (va : Option Addr) (vc : Nat) (C : List CeR) (hC : ListAt encCe 38 w (.slice va C.length vc) C) (hCo : ∀ c ∈ C, CeOk w c) (ua : Option Addr) (uc : Nat) (D : List CeR) (hD : ListAt encCe 38 w (.slice ua D.length uc) D) (hDo : ∀ c ∈ D, CeOk w c) (he : D.map (fun c => (c.x, c.S)) = C.map fun c => (c.x, c.S)) :
  Calls Tryz.prog 106 #[(.slice va C.length vc), (.slice ua D.length uc)] w fun e w' => e = .returned (.bool true) ∧ Upd [] w w' := by
 have H := Sat.start0 w
 have hlen : D.length = C.length := map_len he
 have hle := SliceOf.le hC
 unfold maxLen at hle
 refine calls_fr Tryz.func106 rfl 27 rfl (Nat.le_of_ble_eq_true rfl) ?_
 refine zsl <| wv 4 (.bool false) <| znt <| w_seq <| zsl <| wv 6 (.slice va C.length vc) <| wv 7 (.int .i64 ((C.length : Int))) <| wv 8 (.slice ua D.length uc) <| wv 9 (.int .i64 ((D.length : Int))) <| wv 10 (.bool (!(decide ((C.length : Int) = (D.length : Int))))) ?_
 apply znt
 have b1 : (!(decide ((C.length : Int) = (D.length : Int)))) = false := by rw [decide_eq_true (by omega)]; rfl
 refine zwkf _ b1 ?_
 refine w_skip <| ztn <| w_seq <| zsl <| wv 11 (.slice va C.length vc) <| wv 12 (.int .i64 ((C.length : Int))) <| wv 13 (.int .i64 (0)) <| znt <| w_block <| wp_round ([4, 5] ++ List.range' 13 14) (fun F_ W_ m_ => ∃ (i : Nat), F_ 13 = (.int .i64 ((i : Int))) ∧ (i ≤ C.length) ∧ Sat w [restC w (fun _ => False)] W_ ∧ m_ = C.length - i) _ ⟨0, (show ((.int .i64 (0)) : Value) = _ by first | rfl | go_num), (Nat.zero_le _), H, rfl⟩ ?_
 rintro g4 w5 _ ⟨i, v7, hi, H6, rfl⟩
 refine wp_know 13 _ v7 ?_
 refine zsl <| wv 14 (.bool (decide ((i : Int) < (C.length : Int)))) <| znt <| w_seq ?_
 refine (bsplit (decide ((i : Int) < (C.length : Int)))).elim (fun b9 => ?_) (fun b9 => ?_)
 ·have g10 := of_decide_eq_true b9
  refine zwkt _ b9 ?_
  refine w_skip <| ztn <| w_seq <| w_block <| zsl <| wv 15 (.int .i64 ((i : Int))) <| wv 5 (.int .i64 ((i : Int))) <| znt <| w_seq <| zqs H6 ?_
  refine qv 16 (.slice va C.length vc) <| qv 17 (.int .i64 ((i : Int))) ?_
  obtain ⟨g12, o13, c14, e15, R16⟩ := SliceOf.atD hC ce0 (show i < C.length by omega)
  refine qv 18 (.pointer (some ⟨g12, o13 + ((i : Int)).toNat * 38, none⟩)) ?_ (hr := fun _ H' => (e_indexAddrW (E := 76) (by kernel_rfl) (by kernel_rfl) (Nat.le_of_ble_eq_true rfl) rfl e15 rfl (by omega) (by omega)))
  refine qv 19 (.agg ⟨(kKp12_4 ((C.getD i ce0).x) (C.getD i ce0) (((C.getD i ce0).S).length))⟩) ?_ (hr := fun _ H' => (e_loadRun (vs := (kKp12_4 ((C.getD i ce0).x) (C.getD i ce0) (((C.getD i ce0).S).length))) rfl (by kernel_rfl) (by kernel_rfl) (Nat.le_of_ble_eq_true (by kernel_rfl)) (H'.runR 0 rfl (cells_run R16 0 (by kernel_rfl) (show o13 + ((i : Int)).toNat * 38 = o13 + i * 38 + 0 by omega)) (fun h => h))))
  refine qv 20 (.slice ua D.length uc) <| qv 21 (.int .i64 ((i : Int))) ?_
  obtain ⟨g17, o18, c19, e20, R21⟩ := SliceOf.atD hD ce0 (show i < D.length by omega)
  refine qv 22 (.pointer (some ⟨g17, o18 + ((i : Int)).toNat * 38, none⟩)) ?_ (hr := fun _ H' => (e_indexAddrW (E := 76) (by kernel_rfl) (by kernel_rfl) (Nat.le_of_ble_eq_true rfl) rfl e20 rfl (by omega) (by omega)))
  refine qv 23 (.agg ⟨(kKp12_4 ((D.getD i ce0).x) (D.getD i ce0) (((D.getD i ce0).S).length))⟩) ?_ (hr := fun _ H' => (e_loadRun (vs := (kKp12_4 ((D.getD i ce0).x) (D.getD i ce0) (((D.getD i ce0).S).length))) rfl (by kernel_rfl) (by kernel_rfl) (Nat.le_of_ble_eq_true (by kernel_rfl)) (H'.runR 0 rfl (cells_run R21 0 (by kernel_rfl) (show o18 + ((i : Int)).toNat * 38 = o18 + i * 38 + 0 by omega)) (fun h => h))))
  refine q_call (wants0 rfl) (d := 24) (v := (.bool true)) rfl (fun _ _ => by kernel_rfl) (fun w' H' => (kCert_any w' (C.getD i ce0) (D.getD i ce0) (ListAt.now H' 0 rfl (hCo _ (getD_memC (by omega)))) (ListAt.now H' 0 rfl (hDo _ (getD_memC (by omega)))) (ce_at he (i := i) (by omega)).1 (ce_at he (i := i) (by omega)).2).mono fun _ _ h => ⟨h.1, H'.keepU h.2⟩) ?_
  refine qv 25 (.bool false) <| q_end fun w22 H23 => ?_
  refine ztn <| wp_iff rfl ?_
  refine w_skip <| blk_normal <| ztn <| w_lit <| zwi 26 ((i : Int) + 1) <| wv 13 (.int .i64 ((i : Int) + 1)) <| w_nil <| round_back ?_ _ ⟨(i + 1), rfl, (by omega), H23, rfl⟩ (by omega)
  exact zs
 have g24 := of_decide_eq_false b9
 refine zwkf _ b9 ?_
 refine zxb <| ztn <| zsl <| wv 4 (.bool true) <| znt <| w_ret <| ze1 (.bool true) ?_
 exact ⟨rfl, H6.upd 0 rfl [] (fun _ h => h.elim)⟩
theorem kProm_any (w : World) (p q : PrR) (hp : PrOk w p) (hq : PrOk w q) (he : keyP q = keyP p) :
  Calls Tryz.prog 68 #[(.agg ⟨([(.int .i64 (p.r)), (.int .i64 (p.e)), (.int .u64 (p.f)), (.slice p.ca p.C.length p.cc), (.int .i64 (p.sb)), (.int .i64 (p.sm))] : List Value)⟩), (.agg ⟨([(.int .i64 (q.r)), (.int .i64 (q.e)), (.int .u64 (q.f)), (.slice q.ca q.C.length q.cc), (.int .i64 (q.sb)), (.int .i64 (q.sm))] : List Value)⟩)] w fun e w' => e = .returned (.bool true) ∧ Upd [] w w' := by
 have H := Sat.start0 w
 unfold keyP at he
 simp only [Prod.mk.injEq] at he
 obtain ⟨e1, e2, e3, e4, e5, e6⟩ := he
 refine calls_fr Tryz.func68 rfl 38 rfl (Nat.le_of_ble_eq_true rfl) ?_
 refine zsl <| zwd fun Kq kq => zdb (kKp12_5 p) H fun b2 w3 H4 => ?_
 refine kq _ _ <| zwd fun Kq kq => zdb (kKp12_5 q) H4 fun b6 w7 H8 => ?_
 refine kq _ _ <| wv 4 (.bool false) <| znsl <| wv 5 (pt b2 0) <| zw1 6 (.int .i64 (p.r)) (H8.cell 1 rfl rfl) <| wv 7 (pt b6 0) <| zw1 8 (.int .i64 (q.r)) (H8.cell 2 rfl rfl) <| wv 9 (.bool (decide (p.r = q.r))) <| wv 10 (.bool (decide (p.r = q.r))) ?_
 have b9 : (decide (p.r = q.r)) = true := by exact decide_eq_true e1.symm
 refine wl_know 10 (.bool true) (congrArg Value.bool b9) ?_
 have g10 := of_decide_eq_true b9
 refine wy 5 10 true 11 (pt b2 1) <| wy 5 10 true 12 (.int .i64 (p.e)) ?_ (hr := zl1 (H8.cell 1 rfl rfl))
 refine wy 5 10 true 13 (pt b6 1) <| wy 5 10 true 14 (.int .i64 (q.e)) ?_ (hr := zl1 (H8.cell 2 rfl rfl))
 refine wy 5 10 true 15 (.bool (decide (p.e = q.e))) <| wv 16 (.bool (decide (p.e = q.e))) <| wv 17 (.bool (decide (p.e = q.e))) ?_
 have b11 : (decide (p.e = q.e)) = true := by exact decide_eq_true e2.symm
 refine wl_know 17 (.bool true) (congrArg Value.bool b11) ?_
 have g12 := of_decide_eq_true b11
 refine wy 12 17 true 18 (pt b2 2) <| wy 12 17 true 19 (.int .u64 (p.f)) ?_ (hr := zl1 (H8.cell 1 rfl rfl))
 refine wy 12 17 true 20 (pt b6 2) <| wy 12 17 true 21 (.int .u64 (q.f)) ?_ (hr := zl1 (H8.cell 2 rfl rfl))
 refine wy 12 17 true 22 (.bool (decide (p.f = q.f))) <| wv 23 (.bool (decide (p.f = q.f))) <| wv 24 (.bool (decide (p.f = q.f))) ?_
 have b13 : (decide (p.f = q.f)) = true := by exact decide_eq_true e3.symm
 refine wl_know 24 (.bool true) (congrArg Value.bool b13) ?_
 have g14 := of_decide_eq_true b13
 refine wy 19 24 true 25 (pt b2 4) <| wy 19 24 true 26 (.agg ⟨([(.int .i64 (p.sb)), (.int .i64 (p.sm))] : List Value)⟩) ?_ (hr := zlN (vs := ([(.int .i64 (p.sb)), (.int .i64 (p.sm))] : List Value)) (H8.at 1 rfl))
 refine wy 19 24 true 27 (pt b6 4) <| wy 19 24 true 28 (.agg ⟨([(.int .i64 (q.sb)), (.int .i64 (q.sm))] : List Value)⟩) ?_ (hr := zlN (vs := ([(.int .i64 (q.sb)), (.int .i64 (q.sm))] : List Value)) (H8.at 2 rfl))
 refine wy 19 24 true 29 (.bool (decide (p.sb = q.sb ∧ p.sm = q.sm))) ?_ (hr := e_eqSig p.sb p.sm q.sb q.sm rfl rfl)
 refine wv 30 (.bool (decide (p.sb = q.sb ∧ p.sm = q.sm))) <| wv 31 (.bool (decide (p.sb = q.sb ∧ p.sm = q.sm))) ?_
 have b15 : (decide (p.sb = q.sb ∧ p.sm = q.sm)) = true := by exact decide_eq_true ⟨e4.symm, e5.symm⟩
 refine wl_know 31 (.bool true) (congrArg Value.bool b15) ?_
 refine wy 26 31 true 32 (pt b2 3) <| wy 26 31 true 33 (.slice p.ca p.C.length p.cc) ?_ (hr := zl1 (H8.cell 1 rfl rfl))
 refine wy 26 31 true 34 (pt b6 3) <| wy 26 31 true 35 (.slice q.ca q.C.length q.cc) ?_ (hr := zl1 (H8.cell 2 rfl rfl))
 refine wl_do (wantsY 26 31 true rfl (by kernel_rfl) rfl (by kernel_rfl)) (fun Kq kq => ?_)
 refine zdq 36 (kCerts_any w7 p.ca p.cc p.C (ListAt.now H8 0 rfl hp.1) (fun c hc => ListAt.now H8 0 rfl (hp.2 c hc)) q.ca q.cc q.C (ListAt.now H8 0 rfl hq.1) (fun c hc => ListAt.now H8 0 rfl (hq.2 c hc)) e6) H8 ?_
 intro w17 H18
 refine kq _ _ <| wv 37 (.bool true) <| wv 4 (.bool true) <| znt <| w_ret <| ze1 (.bool true) ?_
 exact ⟨rfl, H18.upd 0 rfl [] (fun _ h => h.elim)⟩
theorem kOpen_any (w : World) (p q : OpR) (hp : ListAt encB 1 w (.slice p.pa p.P.length p.pc) p.P) (hq : ListAt encB 1 w (.slice q.pa q.P.length q.pc) q.P) (he : keyO q = keyO p) :
  Calls Tryz.prog 104 #[(.agg ⟨(([(.int .i64 (p.i)), (.slice p.pa p.P.length p.pc)] : List Value) ++ hc p.h)⟩), (.agg ⟨(([(.int .i64 (q.i)), (.slice q.pa q.P.length q.pc)] : List Value) ++ hc q.h)⟩)] w fun e w' => e = .returned (.bool true) ∧ Upd [] w w' := by
 have H := Sat.start0 w
 unfold keyO at he
 simp only [Prod.mk.injEq] at he
 obtain ⟨e1, e2, e3⟩ := he
 refine calls_fr Tryz.func104 rfl 24 rfl (Nat.le_of_ble_eq_true rfl) ?_
 refine zsl <| zwd fun Kq kq => zdb (kKp12_6 p) H fun b2 w3 H4 => ?_
 refine kq _ _ <| zwd fun Kq kq => zdb (kKp12_6 q) H4 fun b6 w7 H8 => ?_
 refine kq _ _ <| wv 4 (.bool false) <| znsl <| wv 5 (pt b2 0) <| zw1 6 (.int .i64 (p.i)) (H8.cell 1 rfl (by kernel_rfl)) <| wv 7 (pt b6 0) <| zw1 8 (.int .i64 (q.i)) (H8.cell 2 rfl (by kernel_rfl)) <| wv 9 (.bool (decide (p.i = q.i))) <| wv 10 (.bool (decide (p.i = q.i))) ?_
 have b9 : (decide (p.i = q.i)) = true := by exact decide_eq_true e1.symm
 refine wl_know 10 (.bool true) (congrArg Value.bool b9) ?_
 refine wy 5 10 true 11 (pt b2 2) <| wy 5 10 true 12 (.agg ⟨(hc p.h)⟩) ?_ (hr := zlN (vs := (hc p.h)) (H8.at 1 rfl))
 refine wy 5 10 true 13 (pt b6 2) <| wy 5 10 true 14 (.agg ⟨(hc q.h)⟩) ?_ (hr := zlN (vs := (hc q.h)) (H8.at 2 rfl))
 refine wy 5 10 true 15 (.bool (decide (p.h = q.h))) ?_ (hr := e_eqHash p.h q.h rfl rfl)
 refine wv 16 (.bool (decide (p.h = q.h))) <| wv 17 (.bool (decide (p.h = q.h))) ?_
 have b11 : (decide (p.h = q.h)) = true := by exact decide_eq_true e3.symm
 refine wl_know 17 (.bool true) (congrArg Value.bool b11) ?_
 refine wy 12 17 true 18 (pt b2 1) <| wy 12 17 true 19 (.slice p.pa p.P.length p.pc) ?_ (hr := zl1 (H8.cell 1 rfl (by kernel_rfl)))
 refine wy 12 17 true 20 (pt b6 1) <| wy 12 17 true 21 (.slice q.pa q.P.length q.pc) ?_ (hr := zl1 (H8.cell 2 rfl (by kernel_rfl)))
 refine wl_do (wantsY 12 17 true rfl (by kernel_rfl) rfl (by kernel_rfl)) (fun Kq kq => ?_)
 refine zdq 22 (sameBt_any w7 p.pa p.pc p.P (ListAt.now H8 0 rfl hp) q.pa q.pc q.P (ListAt.now H8 0 rfl hq) e2) H8 ?_
 intro w14 H15
 refine kq _ _ <| wv 23 (.bool true) <| wv 4 (.bool true) <| znt <| w_ret <| ze1 (.bool true) ?_
 exact ⟨rfl, H15.upd 0 rfl [] (fun _ h => h.elim)⟩
theorem map_at {β γ : Type} {key : β → γ} {C D : List β} (z : β) (h : D.map key = C.map key) {i : Nat} (hi : i < C.length) : key (D.getD i z) = key (C.getD i z) := by
 have hl := map_len h
 have e := congrArg (fun l => l[i]?) h
 simp only [List.getElem?_map, List.getElem?_eq_getElem hi, List.getElem?_eq_getElem (show i < D.length by omega), Option.map_some, Option.some.injEq] at e
 rw [List.getD_eq_getElem?_getD, List.getD_eq_getElem?_getD, List.getElem?_eq_getElem hi, List.getElem?_eq_getElem (show i < D.length by omega)]
 exact e
theorem getD_memTb {L : List TbR} {i : Nat} (h : i < L.length) : L.getD i tb0 ∈ L := by
 rw [List.getD_eq_getElem?_getD, List.getElem?_eq_getElem h]; exact List.getElem_mem h
theorem kOpens_any (w : World) (va : Option Addr) (vc : Nat) (C : List OpR) (hC : ListAt encOp 34 w (.slice va C.length vc) C) (hCo : ∀ x ∈ C, ListAt encB 1 w (.slice x.pa x.P.length x.pc) x.P) (ua : Option Addr) (uc : Nat) (D : List OpR) (hD : ListAt encOp 34 w (.slice ua D.length uc) D) (hDo : ∀ x ∈ D, ListAt encB 1 w (.slice x.pa x.P.length x.pc) x.P) (he : D.map keyO = C.map keyO) :
  Calls Tryz.prog 66 #[(.slice va C.length vc), (.slice ua D.length uc)] w fun e w' => e = .returned (.bool true) ∧ Upd [] w w' := by
 have H := Sat.start0 w
 have hlen : D.length = C.length := map_len he
 have hle := SliceOf.le hC
 unfold maxLen at hle
 refine calls_fr Tryz.func66 rfl 27 rfl (Nat.le_of_ble_eq_true rfl) ?_
 refine zsl <| wv 4 (.bool false) <| znt <| w_seq <| zsl <| wv 6 (.slice va C.length vc) <| wv 7 (.int .i64 ((C.length : Int))) <| wv 8 (.slice ua D.length uc) <| wv 9 (.int .i64 ((D.length : Int))) <| wv 10 (.bool (!(decide ((C.length : Int) = (D.length : Int))))) ?_
 apply znt
 have b1 : (!(decide ((C.length : Int) = (D.length : Int)))) = false := by rw [decide_eq_true (by omega)]; rfl
 refine zwkf _ b1 ?_
 refine w_skip <| ztn <| w_seq <| zsl <| wv 11 (.slice va C.length vc) <| wv 12 (.int .i64 ((C.length : Int))) <| wv 13 (.int .i64 (0)) <| znt <| w_block <| wp_round ([4, 5] ++ List.range' 13 14) (fun F_ W_ m_ => ∃ (i : Nat), F_ 13 = (.int .i64 ((i : Int))) ∧ (i ≤ C.length) ∧ Sat w [restC w (fun _ => False)] W_ ∧ m_ = C.length - i) _ ⟨0, (show ((.int .i64 (0)) : Value) = _ by first | rfl | go_num), (Nat.zero_le _), H, rfl⟩ ?_
 rintro g4 w5 _ ⟨i, v7, hi, H6, rfl⟩
 refine wp_know 13 _ v7 ?_
 refine zsl <| wv 14 (.bool (decide ((i : Int) < (C.length : Int)))) <| znt <| w_seq ?_
 refine (bsplit (decide ((i : Int) < (C.length : Int)))).elim (fun b9 => ?_) (fun b9 => ?_)
 ·have g10 := of_decide_eq_true b9
  refine zwkt _ b9 ?_
  refine w_skip <| ztn <| w_seq <| w_block <| zsl <| wv 15 (.int .i64 ((i : Int))) <| wv 5 (.int .i64 ((i : Int))) <| znt <| w_seq <| zqs H6 ?_
  refine qv 16 (.slice va C.length vc) <| qv 17 (.int .i64 ((i : Int))) ?_
  obtain ⟨g12, o13, c14, e15, R16⟩ := SliceOf.atD hC op0 (show i < C.length by omega)
  refine qv 18 (.pointer (some ⟨g12, o13 + ((i : Int)).toNat * 34, none⟩)) ?_ (hr := fun _ H' => (e_indexAddrW (E := 86) (by kernel_rfl) (by kernel_rfl) (Nat.le_of_ble_eq_true rfl) rfl e15 rfl (by omega) (by omega)))
  refine qv 19 (.agg ⟨(kKp12_7 (C.getD i op0) (((C.getD i op0).P).length))⟩) ?_ (hr := fun _ H' => (e_loadRun (vs := (kKp12_7 (C.getD i op0) (((C.getD i op0).P).length))) rfl (by kernel_rfl) (by kernel_rfl) (Nat.le_of_ble_eq_true (by kernel_rfl)) (H'.runR 0 rfl (cells_run R16 0 (by kernel_rfl) (show o13 + ((i : Int)).toNat * 34 = o13 + i * 34 + 0 by omega)) (fun h => h))))
  refine qv 20 (.slice ua D.length uc) <| qv 21 (.int .i64 ((i : Int))) ?_
  obtain ⟨g17, o18, c19, e20, R21⟩ := SliceOf.atD hD op0 (show i < D.length by omega)
  refine qv 22 (.pointer (some ⟨g17, o18 + ((i : Int)).toNat * 34, none⟩)) ?_ (hr := fun _ H' => (e_indexAddrW (E := 86) (by kernel_rfl) (by kernel_rfl) (Nat.le_of_ble_eq_true rfl) rfl e20 rfl (by omega) (by omega)))
  refine qv 23 (.agg ⟨(kKp12_7 (D.getD i op0) (((D.getD i op0).P).length))⟩) ?_ (hr := fun _ H' => (e_loadRun (vs := (kKp12_7 (D.getD i op0) (((D.getD i op0).P).length))) rfl (by kernel_rfl) (by kernel_rfl) (Nat.le_of_ble_eq_true (by kernel_rfl)) (H'.runR 0 rfl (cells_run R21 0 (by kernel_rfl) (show o18 + ((i : Int)).toNat * 34 = o18 + i * 34 + 0 by omega)) (fun h => h))))
  refine q_call (wants0 rfl) (d := 24) (v := (.bool true)) rfl (fun _ _ => by kernel_rfl) (fun w' H' => (kOpen_any w' (C.getD i op0) (D.getD i op0) (ListAt.now H' 0 rfl (hCo _ (getD_memO (by omega)))) (ListAt.now H' 0 rfl (hDo _ (getD_memO (by omega)))) (map_at op0 he (by omega))).mono fun _ _ h => ⟨h.1, H'.keepU h.2⟩) ?_
  refine qv 25 (.bool false) <| q_end fun w22 H23 => ?_
  refine ztn <| wp_iff rfl ?_
  refine w_skip <| blk_normal <| ztn <| w_lit <| zwi 26 ((i : Int) + 1) <| wv 13 (.int .i64 ((i : Int) + 1)) <| w_nil <| round_back ?_ _ ⟨(i + 1), rfl, (by omega), H23, rfl⟩ (by omega)
  exact zs
 have g24 := of_decide_eq_false b9
 refine zwkf _ b9 ?_
 refine zxb <| ztn <| zsl <| wv 4 (.bool true) <| znt <| w_ret <| ze1 (.bool true) ?_
 exact ⟨rfl, H6.upd 0 rfl [] (fun _ h => h.elim)⟩
theorem kTombs_any (w : World) (va : Option Addr) (vc : Nat) (C : List TbR) (hC : ListAt encTb 2 w (.slice va C.length vc) C) (hCo : ∀ x ∈ C, ListAt encDn 4 w (.slice x.da x.D.length x.dc) x.D) (ua : Option Addr) (uc : Nat) (D : List TbR) (hD : ListAt encTb 2 w (.slice ua D.length uc) D) (hDo : ∀ x ∈ D, ListAt encDn 4 w (.slice x.da x.D.length x.dc) x.D) (he : D.map keyT = C.map keyT) :
  Calls Tryz.prog 67 #[(.slice va C.length vc), (.slice ua D.length uc)] w fun e w' => e = .returned (.bool true) ∧ Upd [] w w' := by
 have H := Sat.start0 w
 have hlen : D.length = C.length := map_len he
 have hle := SliceOf.le hC
 unfold maxLen at hle
 refine calls_fr Tryz.func67 rfl 42 rfl (Nat.le_of_ble_eq_true rfl) ?_
 refine zsl <| wv 4 (.bool false) <| znt <| w_seq <| zsl <| wv 6 (.slice va C.length vc) <| wv 7 (.int .i64 ((C.length : Int))) <| wv 8 (.slice ua D.length uc) <| wv 9 (.int .i64 ((D.length : Int))) <| wv 10 (.bool (!(decide ((C.length : Int) = (D.length : Int))))) ?_
 apply znt
 have b1 : (!(decide ((C.length : Int) = (D.length : Int)))) = false := by rw [decide_eq_true (by omega)]; rfl
 refine zwkf _ b1 ?_
 refine w_skip <| ztn <| w_seq <| zsl <| wv 11 (.slice va C.length vc) <| wv 12 (.int .i64 ((C.length : Int))) <| wv 13 (.int .i64 (0)) <| znt <| w_block <| wp_round ([4, 5] ++ List.range' 13 29) (fun F_ W_ m_ => ∃ (i : Nat), F_ 13 = (.int .i64 ((i : Int))) ∧ (i ≤ C.length) ∧ Sat w [restC w (fun _ => False)] W_ ∧ m_ = C.length - i) _ ⟨0, (show ((.int .i64 (0)) : Value) = _ by first | rfl | go_num), (Nat.zero_le _), H, rfl⟩ ?_
 rintro g4 w5 _ ⟨i, v7, hi, H6, rfl⟩
 refine wp_know 13 _ v7 ?_
 refine zsl <| wv 14 (.bool (decide ((i : Int) < (C.length : Int)))) <| znt <| w_seq ?_
 refine (bsplit (decide ((i : Int) < (C.length : Int)))).elim (fun b9 => ?_) (fun b9 => ?_)
 ·have g10 := of_decide_eq_true b9
  refine zwkt _ b9 ?_
  refine w_skip <| ztn <| w_seq <| w_block <| zsl <| wv 15 (.int .i64 ((i : Int))) <| wv 5 (.int .i64 ((i : Int))) <| znt <| w_seq <| zqs H6 ?_
  refine qv 16 (.slice va C.length vc) <| qv 17 (.int .i64 ((i : Int))) ?_
  obtain ⟨g12, o13, c14, e15, R16⟩ := SliceOf.atD hC tb0 (show i < C.length by omega)
  refine qv 18 (.pointer (some ⟨g12, o13 + ((i : Int)).toNat * 2, none⟩)) ?_ (hr := fun _ H' => (e_indexAddrW (E := 89) (by kernel_rfl) (by kernel_rfl) (Nat.le_of_ble_eq_true rfl) rfl e15 rfl (by omega) (by omega)))
  refine qv 19 (.pointer (some ⟨g12, o13 + ((i : Int)).toNat * 2, none⟩)) <| qv 20 (.int .i64 ((C.getD i tb0).i)) ?_ (hr := fun _ H' => (zl1 (H'.cellR 0 rfl (cells_at R16 0 (by kernel_rfl) (show o13 + ((i : Int)).toNat * 2 = o13 + i * 2 + 0 by omega)) (fun h => h))))
  refine qv 21 (.slice ua D.length uc) <| qv 22 (.int .i64 ((i : Int))) ?_
  obtain ⟨g17, o18, c19, e20, R21⟩ := SliceOf.atD hD tb0 (show i < D.length by omega)
  refine qv 23 (.pointer (some ⟨g17, o18 + ((i : Int)).toNat * 2, none⟩)) ?_ (hr := fun _ H' => (e_indexAddrW (E := 89) (by kernel_rfl) (by kernel_rfl) (Nat.le_of_ble_eq_true rfl) rfl e20 rfl (by omega) (by omega)))
  refine qv 24 (.pointer (some ⟨g17, o18 + ((i : Int)).toNat * 2, none⟩)) <| qv 25 (.int .i64 ((D.getD i tb0).i)) ?_ (hr := fun _ H' => (zl1 (H'.cellR 0 rfl (cells_at R21 0 (by kernel_rfl) (show o18 + ((i : Int)).toNat * 2 = o18 + i * 2 + 0 by omega)) (fun h => h))))
  refine qv 26 (.bool (!(decide (((C.getD i tb0).i) = ((D.getD i tb0).i))))) <| qv 27 (.bool (!(decide (((C.getD i tb0).i) = ((D.getD i tb0).i))))) ?_
  have b22 : (!(decide (((C.getD i tb0).i) = ((D.getD i tb0).i)))) = false := by rw [decide_eq_true (by have q := map_at tb0 he (i := i) (by omega); unfold keyT at q; simp only [Prod.mk.injEq] at q; exact q.1.symm)]; rfl
  refine q_know 27 (.bool false) (congrArg Value.bool b22) ?_
  have g23 := bnot_false b22
  have g24 := of_decide_eq_true g23
  refine qy 11 27 false 28 (.slice va C.length vc) <| qy 11 27 false 29 (.int .i64 ((i : Int))) <| qy 11 27 false 30 (.pointer (some ⟨g12, o13 + ((i : Int)).toNat * 2, none⟩)) ?_ (hr := fun _ H' => (e_indexAddrW (E := 89) (by kernel_rfl) (by kernel_rfl) (Nat.le_of_ble_eq_true rfl) rfl e15 rfl (by omega) (by omega)))
  refine qy 11 27 false 31 (.pointer (some ⟨g12, o13 + ((i : Int)).toNat * 2 + 1, none⟩)) <| qy 11 27 false 32 (.slice (C.getD i tb0).da ((C.getD i tb0).D).length (C.getD i tb0).dc) ?_ (hr := fun _ H' => (zl1 (H'.cellR 0 rfl (cells_at R16 1 (by kernel_rfl) (show o13 + ((i : Int)).toNat * 2 + 1 = o13 + i * 2 + 1 by omega)) (fun h => h))))
  refine qy 11 27 false 33 (.slice ua D.length uc) <| qy 11 27 false 34 (.int .i64 ((i : Int))) <| qy 11 27 false 35 (.pointer (some ⟨g17, o18 + ((i : Int)).toNat * 2, none⟩)) ?_ (hr := fun _ H' => (e_indexAddrW (E := 89) (by kernel_rfl) (by kernel_rfl) (Nat.le_of_ble_eq_true rfl) rfl e20 rfl (by omega) (by omega)))
  refine qy 11 27 false 36 (.pointer (some ⟨g17, o18 + ((i : Int)).toNat * 2 + 1, none⟩)) <| qy 11 27 false 37 (.slice (D.getD i tb0).da ((D.getD i tb0).D).length (D.getD i tb0).dc) ?_ (hr := fun _ H' => (zl1 (H'.cellR 0 rfl (cells_at R21 1 (by kernel_rfl) (show o18 + ((i : Int)).toNat * 2 + 1 = o18 + i * 2 + 1 by omega)) (fun h => h))))
  refine q_call (wantsY 11 27 false rfl (by kernel_rfl) rfl (by kernel_rfl)) (d := 38) (v := (.bool true)) rfl (fun _ _ => by kernel_rfl) (fun w' H' => (sameDn_any w' (C.getD i tb0).da (C.getD i tb0).dc ((C.getD i tb0).D) (ListAt.now H' 0 rfl (hCo _ (getD_memTb (by omega)))) (D.getD i tb0).da (D.getD i tb0).dc ((D.getD i tb0).D) (ListAt.now H' 0 rfl (hDo _ (getD_memTb (by omega)))) (by have q := map_at tb0 he (i := i) (by omega); unfold keyT at q; simp only [Prod.mk.injEq] at q; exact q.2)).mono fun _ _ h => ⟨h.1, H'.keepU h.2⟩) ?_
  refine qy 11 27 false 39 (.bool false) <| qv 40 (.bool false) <| q_end fun w25 H26 => ?_
  refine ztn <| wp_iff rfl ?_
  refine w_skip <| blk_normal <| ztn <| w_lit <| zwi 41 ((i : Int) + 1) <| wv 13 (.int .i64 ((i : Int) + 1)) <| w_nil <| round_back ?_ _ ⟨(i + 1), rfl, (by omega), H26, rfl⟩ (by omega)
  exact zs
 have g27 := of_decide_eq_false b9
 refine zwkf _ b9 ?_
 refine zxb <| ztn <| zsl <| wv 4 (.bool true) <| znt <| w_ret <| ze1 (.bool true) ?_
 exact ⟨rfl, H6.upd 0 rfl [] (fun _ h => h.elim)⟩
theorem kBatch_any (w : World) (ep tm : Int) (pa1 : Option Addr) (pc1 : Nat) (P1 : List PrR) (hP1 : ListAt encPr 6 w (.slice pa1 P1.length pc1) P1) (hPo1 : ∀ p ∈ P1, PrOk w p) (oa1 : Option Addr) (oc1 : Nat) (O1 : List OpR) (hO1 : ListAt encOp 34 w (.slice oa1 O1.length oc1) O1) (hOo1 : ∀ x ∈ O1, ListAt encB 1 w (.slice x.pa x.P.length x.pc) x.P) (ta1 : Option Addr) (tc1 : Nat) (T1 : List TbR) (hT1 : ListAt encTb 2 w (.slice ta1 T1.length tc1) T1) (hTo1 : ∀ x ∈ T1, ListAt encDn 4 w (.slice x.da x.D.length x.dc) x.D) (pa2 : Option Addr) (pc2 : Nat) (P2 : List PrR) (hP2 : ListAt encPr 6 w (.slice pa2 P2.length pc2) P2) (hPo2 : ∀ p ∈ P2, PrOk w p) (oa2 : Option Addr) (oc2 : Nat) (O2 : List OpR) (hO2 : ListAt encOp 34 w (.slice oa2 O2.length oc2) O2) (hOo2 : ∀ x ∈ O2, ListAt encB 1 w (.slice x.pa x.P.length x.pc) x.P) (ta2 : Option Addr) (tc2 : Nat) (T2 : List TbR) (hT2 : ListAt encTb 2 w (.slice ta2 T2.length tc2) T2) (hTo2 : ∀ x ∈ T2, ListAt encDn 4 w (.slice x.da x.D.length x.dc) x.D) (heP : P2.map keyP = P1.map keyP) (heO : O2.map keyO = O1.map keyO) (heT : T2.map keyT = T1.map keyT) :
  Calls Tryz.prog 19 #[(.agg ⟨([(.int .i64 (ep)), (.int .u64 (tm)), (.slice pa1 P1.length pc1), (.slice oa1 O1.length oc1), (.slice ta1 T1.length tc1)] : List Value)⟩), (.agg ⟨([(.int .i64 (ep)), (.int .u64 (tm)), (.slice pa2 P2.length pc2), (.slice oa2 O2.length oc2), (.slice ta2 T2.length tc2)] : List Value)⟩)] w fun e w' => e = .returned (.bool true) ∧ Upd [] w w' := by
 have H := Sat.start0 w
 have hlen : P2.length = P1.length := map_len heP
 have hle := SliceOf.le hP1
 unfold maxLen at hle
 refine calls_fr Tryz.func19 rfl 62 rfl (Nat.le_of_ble_eq_true rfl) ?_
 refine zsl <| zwd fun Kq kq => zdb (kKp12_8 ep tm pa1 P1.length pc1 oa1 O1.length oc1 ta1 T1.length tc1) H fun b2 w3 H4 => ?_
 refine kq _ _ <| zwd fun Kq kq => zdb (kKp12_8 ep tm pa2 P2.length pc2 oa2 O2.length oc2 ta2 T2.length tc2) H4 fun b6 w7 H8 => ?_
 refine kq _ _ <| wv 4 (.bool false) <| znt <| w_seq <| zsl <| wv 6 (pt b2 0) <| zw1 7 (.int .i64 (ep)) (H8.cell 1 rfl rfl) <| wv 8 (pt b6 0) <| zw1 9 (.int .i64 (ep)) (H8.cell 2 rfl rfl) <| wv 10 (.bool (!(decide (ep = ep)))) ?_
 refine wv 11 (.bool (!(decide (ep = ep)))) ?_
 have b9 : (!(decide (ep = ep))) = false := by rw [decide_eq_true rfl]; rfl
 refine wl_know 11 (.bool false) (congrArg Value.bool b9) ?_
 have g10 := bnot_false b9
 have g10 := of_decide_eq_true g10
 refine wy 5 11 false 12 (pt b2 1) <| wy 5 11 false 13 (.int .u64 (tm)) ?_ (hr := zl1 (H8.cell 1 rfl rfl))
 refine wy 5 11 false 14 (pt b6 1) <| wy 5 11 false 15 (.int .u64 (tm)) ?_ (hr := zl1 (H8.cell 2 rfl rfl))
 refine wy 5 11 false 16 (.bool (!(decide (tm = tm)))) <| wv 17 (.bool (!(decide (tm = tm)))) <| wv 18 (.bool (!(decide (tm = tm)))) ?_
 have b12 : (!(decide (tm = tm))) = false := by rw [decide_eq_true rfl]; rfl
 refine wl_know 18 (.bool false) (congrArg Value.bool b12) ?_
 have g13 := bnot_false b12
 have g14 := of_decide_eq_true g13
 refine wy 12 18 false 19 (pt b2 2) <| wy 12 18 false 20 (.slice pa1 P1.length pc1) ?_ (hr := zl1 (H8.cell 1 rfl rfl))
 refine wy 12 18 false 21 (.int .i64 ((P1.length : Int))) <| wy 12 18 false 22 (pt b6 2) <| wy 12 18 false 23 (.slice pa2 P2.length pc2) ?_ (hr := zl1 (H8.cell 2 rfl rfl))
 refine wy 12 18 false 24 (.int .i64 ((P2.length : Int))) <| wy 12 18 false 25 (.bool (!(decide ((P1.length : Int) = (P2.length : Int))))) <| wv 26 (.bool (!(decide ((P1.length : Int) = (P2.length : Int))))) <| wv 27 (.bool (!(decide ((P1.length : Int) = (P2.length : Int))))) ?_
 have b15 : (!(decide ((P1.length : Int) = (P2.length : Int)))) = false := by rw [decide_eq_true (by omega)]; rfl
 refine wl_know 27 (.bool false) (congrArg Value.bool b15) ?_
 have g16 := bnot_false b15
 have g17 := of_decide_eq_true g16
 refine wy 21 27 false 28 (pt b2 3) <| wy 21 27 false 29 (.slice oa1 O1.length oc1) ?_ (hr := zl1 (H8.cell 1 rfl rfl))
 refine wy 21 27 false 30 (pt b6 3) <| wy 21 27 false 31 (.slice oa2 O2.length oc2) ?_ (hr := zl1 (H8.cell 2 rfl rfl))
 refine wl_do (wantsY 21 27 false rfl (by kernel_rfl) rfl (by kernel_rfl)) (fun Kq kq => ?_)
 refine zdq 32 (kOpens_any w7 oa1 oc1 O1 (ListAt.now H8 0 rfl hO1) (fun x hx => ListAt.now H8 0 rfl (hOo1 x hx)) oa2 oc2 O2 (ListAt.now H8 0 rfl hO2) (fun x hx => ListAt.now H8 0 rfl (hOo2 x hx)) heO) H8 ?_
 intro w19 H20
 refine kq _ _ <| wy 21 27 false 33 (.bool false) <| wv 34 (.bool false) <| wv 35 (.bool false) <| wy 29 35 false 36 (pt b2 4) <| wy 29 35 false 37 (.slice ta1 T1.length tc1) ?_ (hr := zl1 (H20.cell 1 rfl rfl))
 refine wy 29 35 false 38 (pt b6 4) <| wy 29 35 false 39 (.slice ta2 T2.length tc2) ?_ (hr := zl1 (H20.cell 2 rfl rfl))
 refine wl_do (wantsY 29 35 false rfl (by kernel_rfl) rfl (by kernel_rfl)) (fun Kq kq => ?_)
 refine zdq 40 (kTombs_any w19 ta1 tc1 T1 (ListAt.now H20 0 rfl hT1) (fun x hx => ListAt.now H20 0 rfl (hTo1 x hx)) ta2 tc2 T2 (ListAt.now H20 0 rfl hT2) (fun x hx => ListAt.now H20 0 rfl (hTo2 x hx)) heT) H20 ?_
 intro w23 H24
 refine kq _ _ <| wy 29 35 false 41 (.bool false) <| wv 42 (.bool false) <| znt <| wp_iff rfl ?_
 refine w_skip <| ztn <| w_seq <| zsl <| wv 43 (pt b2 2) <| zw1 44 (.slice pa1 P1.length pc1) (H24.cell 1 rfl rfl) <| wv 45 (.int .i64 ((P1.length : Int))) <| wv 46 (.int .i64 (0)) <| znt <| w_block ?_
 refine wp_round ([4, 5] ++ List.range' 46 16) (fun F_ W_ m_ => ∃ (i : Nat), F_ 46 = (.int .i64 ((i : Int))) ∧ (i ≤ P1.length) ∧ Sat w [restC w (fun _ => False), cellC b2 47 (kKp12_8 ep tm pa1 P1.length pc1 oa1 O1.length oc1 ta1 T1.length tc1), cellC b6 47 (kKp12_8 ep tm pa2 P2.length pc2 oa2 O2.length oc2 ta2 T2.length tc2)] W_ ∧ m_ = P1.length - i) _ ⟨0, (show ((.int .i64 (0)) : Value) = _ by first | rfl | go_num), (Nat.zero_le _), H24, rfl⟩ ?_
 rintro g26 w27 _ ⟨i, v29, hi, H28, rfl⟩
 refine wp_know 46 _ v29 ?_
 refine zsl <| wv 47 (.bool (decide ((i : Int) < (P1.length : Int)))) <| znt <| w_seq ?_
 refine (bsplit (decide ((i : Int) < (P1.length : Int)))).elim (fun b31 => ?_) (fun b31 => ?_)
 ·have g32 := of_decide_eq_true b31
  refine zwkt _ b31 ?_
  refine w_skip <| ztn <| w_seq <| w_block <| zsl <| wv 48 (.int .i64 ((i : Int))) <| wv 5 (.int .i64 ((i : Int))) <| znt <| w_seq <| zqs H28 ?_
  refine qv 49 (pt b2 2) <| qv 50 (.slice pa1 P1.length pc1) ?_ (hr := fun _ H' => (zl1 (H'.cell 1 rfl rfl)))
  refine qv 51 (.int .i64 ((i : Int))) ?_
  obtain ⟨g34, o35, c36, e37, R38⟩ := SliceOf.atD hP1 pr0 (show i < P1.length by omega)
  refine qv 52 (.pointer (some ⟨g34, o35 + ((i : Int)).toNat * 6, none⟩)) ?_ (hr := fun _ H' => (e_indexAddrW (E := 71) (by kernel_rfl) (by kernel_rfl) (Nat.le_of_ble_eq_true rfl) rfl e37 rfl (by omega) (by omega)))
  refine qv 53 (.agg ⟨(kKp12_9 (P1.getD i pr0) (((P1.getD i pr0).C).length))⟩) ?_ (hr := fun _ H' => (e_loadRun (vs := (kKp12_9 (P1.getD i pr0) (((P1.getD i pr0).C).length))) rfl (by kernel_rfl) (by kernel_rfl) (Nat.le_of_ble_eq_true (by kernel_rfl)) (H'.runR 0 rfl (cells_run R38 0 (by kernel_rfl) (show o35 + ((i : Int)).toNat * 6 = o35 + i * 6 + 0 by omega)) (fun h => h))))
  refine qv 54 (pt b6 2) <| qv 55 (.slice pa2 P2.length pc2) ?_ (hr := fun _ H' => (zl1 (H'.cell 2 rfl rfl)))
  refine qv 56 (.int .i64 ((i : Int))) ?_
  obtain ⟨g39, o40, c41, e42, R43⟩ := SliceOf.atD hP2 pr0 (show i < P2.length by omega)
  refine qv 57 (.pointer (some ⟨g39, o40 + ((i : Int)).toNat * 6, none⟩)) ?_ (hr := fun _ H' => (e_indexAddrW (E := 71) (by kernel_rfl) (by kernel_rfl) (Nat.le_of_ble_eq_true rfl) rfl e42 rfl (by omega) (by omega)))
  refine qv 58 (.agg ⟨(kKp12_9 (P2.getD i pr0) (((P2.getD i pr0).C).length))⟩) ?_ (hr := fun _ H' => (e_loadRun (vs := (kKp12_9 (P2.getD i pr0) (((P2.getD i pr0).C).length))) rfl (by kernel_rfl) (by kernel_rfl) (Nat.le_of_ble_eq_true (by kernel_rfl)) (H'.runR 0 rfl (cells_run R43 0 (by kernel_rfl) (show o40 + ((i : Int)).toNat * 6 = o40 + i * 6 + 0 by omega)) (fun h => h))))
  refine q_call (wants0 rfl) (d := 59) (v := (.bool true)) rfl (fun _ _ => by kernel_rfl) (fun w' H' => (kProm_any w' (P1.getD i pr0) (P2.getD i pr0) ⟨ListAt.now H' 0 rfl (hPo1 _ (getD_memP (by omega))).1, fun c hc => ListAt.now H' 0 rfl ((hPo1 _ (getD_memP (by omega))).2 c hc)⟩ ⟨ListAt.now H' 0 rfl (hPo2 _ (getD_memP (by omega))).1, fun c hc => ListAt.now H' 0 rfl ((hPo2 _ (getD_memP (by omega))).2 c hc)⟩ (map_at pr0 heP (by omega))).mono fun _ _ h => ⟨h.1, H'.keepU h.2⟩) ?_
  refine qv 60 (.bool false) <| q_end fun w44 H45 => ?_
  refine ztn <| wp_iff rfl ?_
  refine w_skip <| blk_normal <| ztn <| w_lit <| zwi 61 ((i : Int) + 1) <| wv 46 (.int .i64 ((i : Int) + 1)) <| w_nil <| round_back ?_ _ ⟨(i + 1), rfl, (by omega), H45, rfl⟩ (by omega)
  exact zs
 have g46 := of_decide_eq_false b31
 refine zwkf _ b31 ?_
 refine zxb <| ztn <| zsl <| wv 4 (.bool true) <| znt <| w_ret <| ze1 (.bool true) ?_
 exact ⟨rfl, H28.upd 0 rfl [] (fun _ h => h.elim)⟩
end Go.Proofs.YtenihpghfdcpkaaGreat
