/- WHAT IS PROVED: contracts and plain laws of ClB. Conditions: stated with each. -/
import Derived.Test.YtgigjkjdmalmaaaGreatPY05
import Derived.Test.YtgigjkjdmalmaaaGreatPY06
import Derived.Test.YtgigjkjdmalmaaaGreatPY15
set_option maxHeartbeats 4000000
set_option maxRecDepth 100000
namespace Go.Proofs.YtgigjkjdmalmaaaGreat
open Go.RowKit
abbrev Z2q (p0 : Zk) : List Value := ([(.int .i64 p0.r), (.int .i64 p0.cl), (.int .i64 p0.seq)] : List Value) ++ hc p0.h ++ ([(.int .u64 p0.t), (.int .i64 p0.sb), (.int .i64 p0.sm)] : List Value)
abbrev Z9r : List Value := ([(.int .i64 (0)), (.int .i64 (0)), (.int .i64 (0))] : List Value) ++ hc Zx ++ ([(.int .u64 (0)), (.int .i64 (0)), (.int .i64 (0))] : List Value)
abbrev kClB_2 (p0 : Option Addr) (p1 : List Zk) (p2 : Nat) : Ck := Zc 49 38 (.slice p0 p1.length p2) p1.length (p1.flatMap ZV)
abbrev Z6M (p0 : Z0) (p1 : Option Addr) (p2 : Nat) (p3 : Nat) : List Value := ([(.int .i64 p0.cl), (.int .i64 p0.seq)] : List Value) ++ hc p0.h ++ ([(.int .i64 p0.len), (.int .i64 p0.sb), (.int .i64 p0.sm), (.slice p1 p2 p3)] : List Value)
abbrev kClB_4 : List Value := ([(.int .i64 (0)), (.int .i64 (0))] : List Value) ++ hc Zx ++ ([(.int .i64 (0)), (.int .i64 (0)), (.int .i64 (0)), (.slice none 0 0)] : List Value)
abbrev Z6N (p0 : Int) (p1 : Option Addr) (p2 : Nat) (p3 : Nat) (p4 : Z1e) : List Value := ([(.int .i64 p0), (.slice p1 p2 p3)] : List Value) ++ hc p4
abbrev kClB_6 : List Value := ([(.int .i64 (0)), (.slice none 0 0)] : List Value) ++ hc Zx
abbrev Z52 : List Value := ([(.int .i64 (0)), (.int .i64 (0)), (.int .u64 (0)), (.slice none 0 0), (.int .i64 (0)), (.int .i64 (0))] : List Value)
abbrev Z2r : List Value := ([(.int .i64 (0)), (.int .u64 (0)), (.slice none 0 0), (.slice none 0 0), (.slice none 0 0)] : List Value)
theorem Za1 (w : World) (s : Zk) :
  Calls Tryz.prog 110 #[(.agg ⟨(([(.int .i64 (s.r)), (.int .i64 (s.cl)), (.int .i64 (s.seq))] : List Value) ++ hc s.h ++ ([(.int .u64 (s.t)), (.int .i64 (s.sb)), (.int .i64 (s.sm))] : List Value))⟩)] w fun e w' => e = .returned (.agg ⟨ZV s⟩) ∧ Upd [] w w' := by
 have H := Sat.start0 w
 refine Zg Tryz.func110 rfl 4 rfl (Nat.le_of_ble_eq_true rfl) ?_
 apply zsl
 refine zwd fun Kq kq => ?_
 refine zdb (Z2q s) H ?_
 intro b2 w3 H4
 refine kq _ _ ?_
 clear kq Kq
 refine zwd fun Kq kq => ?_
 refine zda (Z9r) H4 ?_
 intro b6 w7 H8
 refine kq _ _ ?_
 clear kq Kq
 apply Z0N
 refine zwN 3 (Z2q s) (H8.at 1 rfl) ?_
 refine zwd fun Kq kq => ?_
 refine Z21 (Z2q s) H8 2 ?_
 intro w10 H11
 refine kq _ _ ?_
 clear kq Kq
 apply znt
 apply Zz
 refine Z1x rfl (Z02 (vs := (Z2q s)) rfl (by kernel_rfl) (by kernel_rfl) (by exact Nat.le_of_ble_eq_true (by kernel_rfl)) (H11.at 2 rfl) (by kernel_rfl)) ?_
 exact ⟨rfl, H11.upd 0 rfl [] (fun _ h => h.elim)⟩
theorem Zab {S : List Zk} {i : Nat} (h : i < S.length) : S.take (i + 1) = S.take i ++ [S.getD i Zr] := by
 rw [List.take_add_one, List.getD_eq_getElem?_getD, List.getElem?_eq_getElem h]; rfl
theorem Zar (w : World) (sa : Option Addr) (sc : Nat) (S : List Zk) (hS : ListAt ZV 38 w (.slice sa S.length sc) S) (hlS : S.length ≤ 1000) :
  Calls Tryz.prog 109 #[(.slice sa S.length sc), (.func (.func 110) #[] #[])] w fun e w' => ∃ u, e = .returned u ∧ (Zc 49 38 u S.length (S.flatMap ZV)).ok w' ∧ Upd [] w w' ∧ ∀ q_, (Zc 49 38 u S.length (S.flatMap ZV)).fp q_ → w.heap.size ≤ q_ := by
 have H := Sat.start0 w
 refine Zg Tryz.func109 rfl 22 rfl (Nat.le_of_ble_eq_true rfl) ?_
 apply zsl
 refine wv 4 (.slice none 0 0) ?_
 apply Z0N
 refine wv 5 (.slice none 0 0) ?_
 apply znt
 apply Zf
 apply zsl
 refine wv 8 (.slice sa S.length sc) ?_
 refine wv 9 (.int .i64 ((S.length : Int))) ?_
 refine wv 10 (.int .i64 (0)) ?_
 apply znt
 apply ZA
 have H1 := H.addNil 49 38
 refine ZW ([5, 7] ++ List.range' 10 11) (fun F_ W_ m_ => ∃ (i : Nat) (da : Option Addr) (dc : Nat) (D : List Zk), F_ 10 = (.int .i64 ((i : Int))) ∧ F_ 5 = (.slice da D.length dc) ∧ (i ≤ S.length) ∧ (D = S.take i) ∧ (D.length = i) ∧ Sat w [Z7 w (fun _ => False), (kClB_2 da D dc)] W_ ∧ m_ = S.length - i) _ ⟨0, none, 0, [], (show ((.int .i64 (0)) : Value) = _ by first | rfl | go_num), (by first | rfl | go_num), (Nat.zero_le _), rfl, rfl, H1, rfl⟩ ?_
 rintro g2 w3 _ ⟨i, da, dc, D, v5, v6, hi, hD, hDn, H4, rfl⟩
 refine Zo 10 _ v5 ?_
 refine Zo 5 _ v6 ?_
 apply zsl
 refine wv 11 (.bool (decide ((i : Int) < (S.length : Int)))) ?_
 apply znt
 apply Zf
 refine (ZC (decide ((i : Int) < (S.length : Int)))).elim (fun b8 => ?_) (fun b8 => ?_)
 ·have g9 := of_decide_eq_true b8
  refine Z1q _ b8 ?_
  apply ZF
  apply ztn
  apply Zf
  apply ZA
  apply zsl
  obtain ⟨g11, o12, c13, e14, R15⟩ := SliceOf.atD hS Zr (show i < S.length by omega)
  refine wv 12 (.pointer (some ⟨g11, o12 + ((i : Int)).toNat * 38, none⟩)) ?_ (hr := ZM (E := 49) (by kernel_rfl) (by kernel_rfl) (Nat.le_of_ble_eq_true rfl) rfl e14 rfl (by omega) (by omega))
  refine wv 13 (.agg ⟨(Z2q (S.getD i Zr))⟩) ?_ (hr := Z0a (vs := (Z2q (S.getD i Zr))) rfl (by kernel_rfl) (by kernel_rfl) (Nat.le_of_ble_eq_true (by kernel_rfl)) (H4.runR 0 rfl (Z16 R15 0 (by kernel_rfl) (show o12 + ((i : Int)).toNat * 38 = o12 + i * 38 + 0 by omega)) (fun h => h)))
  refine zwd fun Kq kq => ?_
  refine zda (Z9r) H4 ?_
  intro b17 w18 H19
  refine kq _ _ ?_
  clear kq Kq
  refine zwd fun Kq kq => ?_
  refine Z21 (Z2q (S.getD i Zr)) H19 2 ?_
  intro w21 H22
  refine kq _ _ ?_
  clear kq Kq
  apply znt
  apply Zt
  refine wv 14 (.slice da D.length dc) ?_
  refine wv 15 (.func (.func 110) #[] #[]) ?_
  refine zwN 16 (Z2q (S.getD i Zr)) (H22.at 2 rfl) ?_
  refine zwd fun Kq kq => ?_
  refine zdq 17 (Za1 w21 (S.getD i Zr)) H22 ?_
  intro w25 H26
  refine kq _ _ ?_
  clear kq Kq
  refine zwd fun Kq kq => ?_
  refine Z3U 49 38 80 (.agg ⟨(Z9r)⟩) [(0, (.agg ⟨(Z2q (S.getD i Zr))⟩))] (Z2q (S.getD i Zr)) H26 ?_
  intro b29 w30 H31
  have H32 := H31.ct 3 rfl (Zc 49 38 (.slice (some ⟨b29, 0, none⟩) 1 1) 1 ([(S.getD i Zr)].flatMap ZV)) (by rw [(show ((Z2q (S.getD i Zr)) : List Value) = ([(S.getD i Zr)] : List Zk).flatMap ZV by kernel_rfl)])
  refine kq _ _ ?_
  clear kq Kq
  refine zwd fun Kq kq => ?_
  refine Z0n (T := 55) (e := 49) (size := 38) (bytes := 80) rfl H32 (by kernel_rfl) 1 3 rfl rfl rfl rfl (Z0e ZV Z2m [(S.getD i Zr)]) (by omega) (by omega) ?_
  intro v34 w35 H36
  have H39 := H36.ct 1 rfl (Zc 49 38 v34 ((D ++ [(S.getD i Zr)]).length) ((D ++ [(S.getD i Zr)]).flatMap ZV)) ja
  obtain ⟨a37, c38, rfl⟩ := Ze (H39.at 1 rfl)
  refine kq _ _ ?_
  clear kq Kq
  refine wv 5 (.slice a37 ((D ++ [(S.getD i Zr)]).length) c38) ?_
  apply Zu
  apply Zw
  apply ztn
  apply Zt
  refine zwi 20 ((i : Int) + 1) ?_
  refine wv 10 (.int .i64 ((i : Int) + 1)) ?_
  apply Zu
  have H40 := H39.pk [0, 1]
  refine ZE ?_ _ ⟨(i + 1), a37, c38, (D ++ [(S.getD i Zr)]), rfl, (show ((.slice a37 ((D ++ [(S.getD i Zr)]).length) c38) : Value) = _ by first | rfl | go_num), (by omega), (by rw [hD]; exact (Zab (by omega)).symm), (by simp only [List.length_append, List.length_cons, List.length_nil]; omega), H40, rfl⟩ (by omega)
  exact zs
 have g41 := of_decide_eq_false b8
 refine Z1a _ b8 ?_
 apply zxb
 apply ztn
 apply zsl
 refine wv 21 (.slice da D.length dc) ?_
 refine wv 4 (.slice da D.length dc) ?_
 apply znt
 apply Zz
 refine ze1 (.slice da D.length dc) ?_
 have hDS : D = S := by rw [hD, List.take_of_length_le (by omega)]
 subst hDS
 exact ⟨_, rfl, H4.at 1 rfl, H4.upd 0 rfl [] (fun _ h => h.elim), H4.fresh 0 rfl (fun _ h => h) 1 rfl rfl⟩
theorem Z9J (w : World) (x : Z0) (sa : Option Addr) (sc : Nat) (S : List Zk) (hS : ListAt ZV 38 w (.slice sa S.length sc) S) (hlS : S.length ≤ 1000) :
  Calls Tryz.prog 92 #[(.agg ⟨(([(.int .i64 (x.cl)), (.int .i64 (x.seq))] : List Value) ++ hc x.h ++ ([(.int .i64 (x.len)), (.int .i64 (x.sb)), (.int .i64 (x.sm)), (.slice sa S.length sc)] : List Value))⟩)] w fun e w' => ∃ u, e = .returned (.agg ⟨Z1E x ++ [u]⟩) ∧ (Zc 49 38 u S.length (S.flatMap ZV)).ok w' ∧ Upd [] w w' ∧ ∀ q_, (Zc 49 38 u S.length (S.flatMap ZV)).fp q_ → w.heap.size ≤ q_ := by
 have H := Sat.start0 w
 refine Zg Tryz.func92 rfl 8 rfl (Nat.le_of_ble_eq_true rfl) ?_
 apply zsl
 refine zwd fun Kq kq => ?_
 refine zdb (Z6M x sa S.length sc) H ?_
 intro b2 w3 H4
 refine kq _ _ ?_
 clear kq Kq
 refine zwd fun Kq kq => ?_
 refine zda (kClB_4) H4 ?_
 intro b6 w7 H8
 refine kq _ _ ?_
 clear kq Kq
 apply Z0N
 refine wv 3 (pt b2 37) ?_
 refine zw1 4 (.slice sa S.length sc) (H8.cell 1 rfl (by kernel_rfl)) ?_
 refine zwd fun Kq kq => ?_
 refine zdc 5 (Zar w7 sa sc S (ListAt.now H8 0 rfl hS) (by omega)) ?_
 rintro _ w10 ⟨u11, rfl, k12, p13, q14⟩
 have H15 := H8.addU p13 k12 q14
 obtain ⟨a16, c17, rfl⟩ := Ze (H15.at 3 rfl)
 refine ⟨_, rfl, ?_⟩
 refine kq _ _ ?_
 clear kq Kq
 refine wv 6 (pt b2 37) ?_
 refine zwd fun Kq kq => ?_
 refine zds ([(.slice a16 S.length c17)] : List Value) (Z6M x a16 S.length c17) H15 1 ?_
 intro w19 H20
 refine kq _ _ ?_
 clear kq Kq
 apply Z0N
 refine zwN 7 (Z6M x a16 S.length c17) (H20.at 1 rfl) ?_
 refine zwd fun Kq kq => ?_
 refine Z21 (Z6M x a16 S.length c17) H20 2 ?_
 intro w23 H24
 refine kq _ _ ?_
 clear kq Kq
 apply znt
 apply Zz
 refine Z1x rfl (Z02 (vs := (Z6M x a16 S.length c17)) rfl (by kernel_rfl) (by kernel_rfl) (by exact Nat.le_of_ble_eq_true (by kernel_rfl)) (H24.at 2 rfl) (by kernel_rfl)) ?_
 exact ⟨_, rfl, H24.at 3 rfl, H24.upd 0 rfl [] (fun _ h => h.elim), H24.fresh 0 rfl (fun _ h => h) 3 rfl rfl⟩
theorem Z9L (w : World) (oi : Int) (oa : Option Addr) (oc : Nat) (P : List UInt8) (oh : Z1e) (hP : ListAt ZH 1 w (.slice oa P.length oc) P) (hlP : P.length ≤ 1000) :
  Calls Tryz.prog 94 #[(.agg ⟨(([(.int .i64 (oi)), (.slice oa P.length oc)] : List Value) ++ hc oh)⟩)] w fun e w' => ∃ u, e = .returned (.agg ⟨[.int .i64 oi, u] ++ hc oh⟩) ∧ (Zc 5 1 u P.length (P.flatMap ZH)).ok w' ∧ Upd [] w w' ∧ ∀ q_, (Zc 5 1 u P.length (P.flatMap ZH)).fp q_ → w.heap.size ≤ q_ := by
 have H := Sat.start0 w
 refine Zg Tryz.func94 rfl 8 rfl (Nat.le_of_ble_eq_true rfl) ?_
 apply zsl
 refine zwd fun Kq kq => ?_
 refine zdb (Z6N oi oa P.length oc oh) H ?_
 intro b2 w3 H4
 refine kq _ _ ?_
 clear kq Kq
 refine zwd fun Kq kq => ?_
 refine zda (kClB_6) H4 ?_
 intro b6 w7 H8
 refine kq _ _ ?_
 clear kq Kq
 apply Z0N
 refine wv 3 (pt b2 1) ?_
 refine zw1 4 (.slice oa P.length oc) (H8.cell 1 rfl (by kernel_rfl)) ?_
 refine zwd fun Kq kq => ?_
 refine Z1f (T := 38) (e := 5) (size := 1) (bytes := 1) rfl H8 (by kernel_rfl) Z0u Z1b (ListAt.now H8 0 rfl hP) rfl rfl (by omega) (by omega) ?_
 intro v10 w11 H12
 obtain ⟨a13, c14, rfl⟩ := Ze (H12.at 3 rfl)
 refine kq _ _ ?_
 clear kq Kq
 refine wv 6 (pt b2 1) ?_
 refine zwd fun Kq kq => ?_
 refine zds ([(.slice a13 P.length c14)] : List Value) (Z6N oi a13 P.length c14 oh) H12 1 ?_
 intro w16 H17
 refine kq _ _ ?_
 clear kq Kq
 apply Z0N
 refine zwN 7 (Z6N oi a13 P.length c14 oh) (H17.at 1 rfl) ?_
 refine zwd fun Kq kq => ?_
 refine Z21 (Z6N oi a13 P.length c14 oh) H17 2 ?_
 intro w20 H21
 refine kq _ _ ?_
 clear kq Kq
 apply znt
 apply Zz
 refine Z1x rfl (Z02 (vs := (Z6N oi a13 P.length c14 oh)) rfl (by kernel_rfl) (by kernel_rfl) (by exact Nat.le_of_ble_eq_true (by kernel_rfl)) (H21.at 2 rfl) (by kernel_rfl)) ?_
 exact ⟨_, rfl, H21.at 3 rfl, H21.upd 0 rfl [] (fun _ h => h.elim), H21.fresh 0 rfl (fun _ h => h) 3 rfl rfl⟩
theorem Z7k (w : World) :
  Calls Tryz.prog 111 #[(.slice none 0 0), (.func (.func 92) #[] #[])] w fun e w' => e = .returned (.slice none 0 0) ∧ Upd [] w w' := by
 have H := Sat.start0 w
 refine Zg Tryz.func111 rfl 22 rfl (Nat.le_of_ble_eq_true rfl) ?_
 apply zsl
 refine wv 4 (.slice none 0 0) ?_
 apply Z0N
 refine wv 5 (.slice none 0 0) ?_
 apply znt
 apply Zf
 apply zsl
 refine wv 8 (.slice none 0 0) ?_
 refine wv 9 (.int .i64 (0)) ?_
 refine wv 10 (.int .i64 (0)) ?_
 apply znt
 apply ZA
 refine ZW ([5, 7] ++ List.range' 10 11) (fun F_ W_ m_ => ∃ (i : Nat), F_ 10 = (.int .i64 ((i : Int))) ∧ F_ 5 = (.slice none 0 0) ∧ (i = 0) ∧ Sat w [Z7 w (fun _ => False)] W_ ∧ m_ = i + 1) _ ⟨0, (show ((.int .i64 (0)) : Value) = _ by first | rfl | go_num), (by first | rfl | go_num), rfl, H, rfl⟩ ?_
 rintro g1 w2 _ ⟨i, v4, v5, hi, H3, rfl⟩
 refine Zo 10 _ v4 ?_
 refine Zo 5 _ v5 ?_
 apply zsl
 refine wv 11 (.bool (decide ((i : Int) < 0))) ?_
 apply znt
 apply Zf
 have b7 : (decide ((i : Int) < 0)) = false := by exact decide_eq_false (by omega)
 have g8 := of_decide_eq_false b7
 refine Z1a _ b7 ?_
 apply zxb
 apply ztn
 apply zsl
 refine wv 21 (.slice none 0 0) ?_
 refine wv 4 (.slice none 0 0) ?_
 apply znt
 apply Zz
 refine ze1 (.slice none 0 0) ?_
 exact ⟨rfl, H3.upd 0 rfl [] (fun _ h => h.elim)⟩
theorem Z4K (w : World) :
  Calls Tryz.prog 112 #[(.slice none 0 0), (.func (.func 93) #[] #[])] w fun e w' => e = .returned (.slice none 0 0) ∧ Upd [] w w' := by
 have H := Sat.start0 w
 refine Zg Tryz.func112 rfl 22 rfl (Nat.le_of_ble_eq_true rfl) ?_
 apply zsl
 refine wv 4 (.slice none 0 0) ?_
 apply Z0N
 refine wv 5 (.slice none 0 0) ?_
 apply znt
 apply Zf
 apply zsl
 refine wv 8 (.slice none 0 0) ?_
 refine wv 9 (.int .i64 (0)) ?_
 refine wv 10 (.int .i64 (0)) ?_
 apply znt
 apply ZA
 refine ZW ([5, 7] ++ List.range' 10 11) (fun F_ W_ m_ => ∃ (i : Nat), F_ 10 = (.int .i64 ((i : Int))) ∧ F_ 5 = (.slice none 0 0) ∧ (i = 0) ∧ Sat w [Z7 w (fun _ => False)] W_ ∧ m_ = i + 1) _ ⟨0, (show ((.int .i64 (0)) : Value) = _ by first | rfl | go_num), (by first | rfl | go_num), rfl, H, rfl⟩ ?_
 rintro g1 w2 _ ⟨i, v4, v5, hi, H3, rfl⟩
 refine Zo 10 _ v4 ?_
 refine Zo 5 _ v5 ?_
 apply zsl
 refine wv 11 (.bool (decide ((i : Int) < 0))) ?_
 apply znt
 apply Zf
 have b7 : (decide ((i : Int) < 0)) = false := by exact decide_eq_false (by omega)
 refine Z1a _ b7 ?_
 apply zxb
 apply ztn
 apply zsl
 refine wv 21 (.slice none 0 0) ?_
 refine wv 4 (.slice none 0 0) ?_
 apply znt
 apply Zz
 refine ze1 (.slice none 0 0) ?_
 exact ⟨rfl, H3.upd 0 rfl [] (fun _ h => h.elim)⟩
theorem Z4J (w : World) :
  Calls Tryz.prog 113 #[(.slice none 0 0), (.func (.func 94) #[] #[])] w fun e w' => e = .returned (.slice none 0 0) ∧ Upd [] w w' := by
 have H := Sat.start0 w
 refine Zg Tryz.func113 rfl 22 rfl (Nat.le_of_ble_eq_true rfl) ?_
 apply zsl
 refine wv 4 (.slice none 0 0) ?_
 apply Z0N
 refine wv 5 (.slice none 0 0) ?_
 apply znt
 apply Zf
 apply zsl
 refine wv 8 (.slice none 0 0) ?_
 refine wv 9 (.int .i64 (0)) ?_
 refine wv 10 (.int .i64 (0)) ?_
 apply znt
 apply ZA
 refine ZW ([5, 7] ++ List.range' 10 11) (fun F_ W_ m_ => ∃ (i : Nat), F_ 10 = (.int .i64 ((i : Int))) ∧ F_ 5 = (.slice none 0 0) ∧ (i = 0) ∧ Sat w [Z7 w (fun _ => False)] W_ ∧ m_ = i + 1) _ ⟨0, (show ((.int .i64 (0)) : Value) = _ by first | rfl | go_num), (by first | rfl | go_num), rfl, H, rfl⟩ ?_
 rintro g1 w2 _ ⟨i, v4, v5, hi, H3, rfl⟩
 refine Zo 10 _ v4 ?_
 refine Zo 5 _ v5 ?_
 apply zsl
 refine wv 11 (.bool (decide ((i : Int) < 0))) ?_
 apply znt
 apply Zf
 have b7 : (decide ((i : Int) < 0)) = false := by exact decide_eq_false (by omega)
 refine Z1a _ b7 ?_
 apply zxb
 apply ztn
 apply zsl
 refine wv 21 (.slice none 0 0) ?_
 refine wv 4 (.slice none 0 0) ?_
 apply znt
 apply Zz
 refine ze1 (.slice none 0 0) ?_
 exact ⟨rfl, H3.upd 0 rfl [] (fun _ h => h.elim)⟩
theorem Z7l (w : World) :
  Calls Tryz.prog 114 #[(.slice none 0 0), (.func (.func 115) #[] #[])] w fun e w' => e = .returned (.slice none 0 0) ∧ Upd [] w w' := by
 have H := Sat.start0 w
 refine Zg Tryz.func114 rfl 22 rfl (Nat.le_of_ble_eq_true rfl) ?_
 apply zsl
 refine wv 4 (.slice none 0 0) ?_
 apply Z0N
 refine wv 5 (.slice none 0 0) ?_
 apply znt
 apply Zf
 apply zsl
 refine wv 8 (.slice none 0 0) ?_
 refine wv 9 (.int .i64 (0)) ?_
 refine wv 10 (.int .i64 (0)) ?_
 apply znt
 apply ZA
 refine ZW ([5, 7] ++ List.range' 10 11) (fun F_ W_ m_ => ∃ (i : Nat), F_ 10 = (.int .i64 ((i : Int))) ∧ F_ 5 = (.slice none 0 0) ∧ (i = 0) ∧ Sat w [Z7 w (fun _ => False)] W_ ∧ m_ = i + 1) _ ⟨0, (show ((.int .i64 (0)) : Value) = _ by first | rfl | go_num), (by first | rfl | go_num), rfl, H, rfl⟩ ?_
 rintro g1 w2 _ ⟨i, v4, v5, hi, H3, rfl⟩
 refine Zo 10 _ v4 ?_
 refine Zo 5 _ v5 ?_
 apply zsl
 refine wv 11 (.bool (decide ((i : Int) < 0))) ?_
 apply znt
 apply Zf
 have b7 : (decide ((i : Int) < 0)) = false := by exact decide_eq_false (by omega)
 refine Z1a _ b7 ?_
 apply zxb
 apply ztn
 apply zsl
 refine wv 21 (.slice none 0 0) ?_
 refine wv 4 (.slice none 0 0) ?_
 apply znt
 apply Zz
 refine ze1 (.slice none 0 0) ?_
 exact ⟨rfl, H3.upd 0 rfl [] (fun _ h => h.elim)⟩
theorem Z7m (w : World) :
  Calls Tryz.prog 96 #[(.slice none 0 0), (.func (.func 97) #[] #[])] w fun e w' => e = .returned (.slice none 0 0) ∧ Upd [] w w' := by
 have H := Sat.start0 w
 refine Zg Tryz.func96 rfl 22 rfl (Nat.le_of_ble_eq_true rfl) ?_
 apply zsl
 refine wv 4 (.slice none 0 0) ?_
 apply Z0N
 refine wv 5 (.slice none 0 0) ?_
 apply znt
 apply Zf
 apply zsl
 refine wv 8 (.slice none 0 0) ?_
 refine wv 9 (.int .i64 (0)) ?_
 refine wv 10 (.int .i64 (0)) ?_
 apply znt
 apply ZA
 refine ZW ([5, 7] ++ List.range' 10 11) (fun F_ W_ m_ => ∃ (i : Nat), F_ 10 = (.int .i64 ((i : Int))) ∧ F_ 5 = (.slice none 0 0) ∧ (i = 0) ∧ Sat w [Z7 w (fun _ => False)] W_ ∧ m_ = i + 1) _ ⟨0, (show ((.int .i64 (0)) : Value) = _ by first | rfl | go_num), (by first | rfl | go_num), rfl, H, rfl⟩ ?_
 rintro g1 w2 _ ⟨i, v4, v5, hi, H3, rfl⟩
 refine Zo 10 _ v4 ?_
 refine Zo 5 _ v5 ?_
 apply zsl
 refine wv 11 (.bool (decide ((i : Int) < 0))) ?_
 apply znt
 apply Zf
 have b7 : (decide ((i : Int) < 0)) = false := by exact decide_eq_false (by omega)
 refine Z1a _ b7 ?_
 apply zxb
 apply ztn
 apply zsl
 refine wv 21 (.slice none 0 0) ?_
 refine wv 4 (.slice none 0 0) ?_
 apply znt
 apply Zz
 refine ze1 (.slice none 0 0) ?_
 exact ⟨rfl, H3.upd 0 rfl [] (fun _ h => h.elim)⟩
theorem Z9M (w : World) :
  Calls Tryz.prog 93 #[(.agg ⟨([(.int .i64 (0)), (.int .i64 (0)), (.int .u64 (0)), (.slice none 0 0), (.int .i64 (0)), (.int .i64 (0))] : List Value)⟩)] w fun e w' => e = .returned (.agg ⟨[.int .i64 0, .int .i64 0, .int .u64 0, .slice none 0 0, .int .i64 0, .int .i64 0]⟩) ∧ Upd [] w w' := by
 have H := Sat.start0 w
 refine Zg Tryz.func93 rfl 8 rfl (Nat.le_of_ble_eq_true rfl) ?_
 apply zsl
 refine zwd fun Kq kq => ?_
 refine zdb (Z52) H ?_
 intro b2 w3 H4
 refine kq _ _ ?_
 clear kq Kq
 refine zwd fun Kq kq => ?_
 refine zda (Z52) H4 ?_
 intro b6 w7 H8
 refine kq _ _ ?_
 clear kq Kq
 apply Z0N
 refine wv 3 (pt b2 3) ?_
 refine zw1 4 (.slice none 0 0) (H8.cell 1 rfl rfl) ?_
 refine zwd fun Kq kq => ?_
 refine zdq 5 (Z7k w7) H8 ?_
 intro w10 H11
 refine kq _ _ ?_
 clear kq Kq
 refine wv 6 (pt b2 3) ?_
 refine zwd fun Kq kq => ?_
 refine zds ([(.slice none 0 0)] : List Value) (Z52) H11 1 ?_
 intro w14 H15
 refine kq _ _ ?_
 clear kq Kq
 apply Z0N
 refine zwN 7 (Z52) (H15.at 1 rfl) ?_
 refine zwd fun Kq kq => ?_
 refine Z21 (Z52) H15 2 ?_
 intro w18 H19
 refine kq _ _ ?_
 clear kq Kq
 apply znt
 apply Zz
 refine Z1x rfl (Z02 (vs := (Z52)) rfl (by kernel_rfl) (by kernel_rfl) (by exact Nat.le_of_ble_eq_true (by kernel_rfl)) (H19.at 2 rfl) (by kernel_rfl)) ?_
 exact ⟨rfl, H19.upd 0 rfl [] (fun _ h => h.elim)⟩
theorem Z5e (w : World) :
  Calls Tryz.prog 95 #[(.agg ⟨([(.int .i64 (0)), (.int .u64 (0)), (.slice none 0 0), (.slice none 0 0), (.slice none 0 0)] : List Value)⟩)] w fun e w' => e = .returned (.agg ⟨[.int .i64 0, .int .u64 0, .slice none 0 0, .slice none 0 0, .slice none 0 0]⟩) ∧ Upd [] w w' := by
 have H := Sat.start0 w
 refine Zg Tryz.func95 rfl 16 rfl (Nat.le_of_ble_eq_true rfl) ?_
 apply zsl
 refine zwd fun Kq kq => ?_
 refine zdb (Z2r) H ?_
 intro b2 w3 H4
 refine kq _ _ ?_
 clear kq Kq
 refine zwd fun Kq kq => ?_
 refine zda (Z2r) H4 ?_
 intro b6 w7 H8
 refine kq _ _ ?_
 clear kq Kq
 apply znt
 apply Zf
 refine Z1o H8 [Z7 w (fun _ => False), Z3 b2 67 (Z2r), Z3 b6 67 (Z2r)] [10, 12, 14] 15 rfl (by kernel_rfl) (fun Hx => (Hx.pk [0, 1, 2])) ?_
 intro w9 H10 S11
 refine zkp 0 S11 3 (pt b2 2) ?_
 refine zkv 1 S11 4 (.slice none 0 0) ?_ (he := fun _ H' => (Zi rfl (by kernel_rfl) (H'.cell 1 rfl rfl)))
 refine zkp 3 S11 6 (pt b2 3) ?_
 refine zkv 4 S11 7 (.slice none 0 0) ?_ (he := fun _ H' => (Zi rfl (by kernel_rfl) (H'.cell 1 rfl rfl)))
 refine zkp 6 S11 9 (pt b2 4) ?_
 refine zkv 7 S11 10 (.slice none 0 0) ?_ (he := fun _ H' => (Zi rfl (by kernel_rfl) (H'.cell 1 rfl rfl)))
 refine Z4G 2 fun Kq kq => ?_
 refine zdq 5 (Z4K w9) H10 ?_
 intro w13 H14
 have S16 := H14.pk [0, 1, 2]
 refine kq _ _ S16 ?_
 clear kq Kq
 refine zkp 9 S16 12 (pt b2 2) ?_
 refine Z4G 5 fun Kq kq => ?_
 refine zdq 8 (Z4J w13) H14 ?_
 intro w18 H19
 have S21 := H19.pk [0, 1, 2]
 refine kq _ _ S21 ?_
 clear kq Kq
 refine Z4G 8 fun Kq kq => ?_
 refine zdq 11 (Z7l w18) H19 ?_
 intro w23 H24
 have S26 := H24.pk [0, 1, 2]
 refine kq _ _ S26 ?_
 clear kq Kq
 refine Z3u 10 (Sat w [Z7 w (fun _ => False), Z3 b6 67 (Z2r)]) rfl (by kernel_rfl) (Z5 rfl) rfl (fun Kq kq => ?_)
 refine zds ([(.slice none 0 0)] : List Value) (Z2r) H24 1 ?_
 intro w28 H29
 have S31 := H29.pk [0, 2]
 refine kq _ _ S31 ?_
 clear kq Kq
 refine hv0 11 S31 13 (pt b2 3) ?_
 refine Z0H 12 fun Kq kq => ?_
 refine zds ([(.slice none 0 0)] : List Value) (Z2r) H29 1 ?_
 intro w33 H34
 have S36 := H34.pk [0, 2]
 refine kq _ _ S36 ?_
 clear kq Kq
 refine hv0 13 S36 14 (pt b2 4) ?_
 refine Z0H 14 fun Kq kq => ?_
 refine zds ([(.slice none 0 0)] : List Value) (Z2r) H34 1 ?_
 intro w38 H39
 have S41 := H39.pk [0, 2]
 refine kq _ _ S41 ?_
 clear kq Kq
 refine zhf ?_
 apply ztn
 apply zsl
 refine zwN 15 (Z2r) (H39.at 1 rfl) ?_
 refine zwd fun Kq kq => ?_
 refine Z21 (Z2r) H39 2 ?_
 intro w43 H44
 refine kq _ _ ?_
 clear kq Kq
 apply znt
 apply Zz
 refine Z1x rfl (Z02 (vs := (Z2r)) rfl (by kernel_rfl) (by kernel_rfl) (by exact Nat.le_of_ble_eq_true (by kernel_rfl)) (H44.at 2 rfl) (by kernel_rfl)) ?_
 exact ⟨rfl, H44.upd 0 rfl [] (fun _ h => h.elim)⟩
end Go.Proofs.YtgigjkjdmalmaaaGreat
