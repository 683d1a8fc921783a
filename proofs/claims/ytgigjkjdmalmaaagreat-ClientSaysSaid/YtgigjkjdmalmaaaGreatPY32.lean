/- WHAT IS PROVED: contracts and plain laws of MkG. Conditions: stated with each. -/
import Derived.Test.YtgigjkjdmalmaaaGreatPY05
import Derived.Test.YtgigjkjdmalmaaaGreatPY13
import Derived.Test.YtgigjkjdmalmaaaGreatPY31
set_option maxHeartbeats 4000000
set_option maxRecDepth 100000
namespace Go.Proofs.YtgigjkjdmalmaaaGreat
open Go.RowKit
abbrev Z2N (p0 : Int) (p1 : Int) : List Value := ([(.int .i64 p0), (.int .i64 p1)] : List Value)
abbrev Z58 (p0 : Z0) : List Value := ([(.int .i64 p0.cl), (.int .i64 p0.seq)] : List Value) ++ hc p0.h ++ ([(.int .i64 p0.len), (.int .i64 p0.sb), (.int .i64 p0.sm)] : List Value)
abbrev Z59 : List Value := ([(.int .i64 (0)), (.int .i64 (0))] : List Value) ++ hc Zx ++ ([(.int .i64 (0)), (.int .i64 (0)), (.int .i64 (0)), (.slice none 0 0)] : List Value)
abbrev Zbz (p0 : Option Addr) (p1 : List Zk) (p2 : Nat) : Ck := Zc 49 38 (.slice p0 p1.length p2) p1.length (p1.flatMap ZV)
abbrev Z3K (p0 : Zk) : List Value := ([(.int .i64 p0.r), (.int .i64 p0.cl), (.int .i64 p0.seq)] : List Value) ++ hc p0.h ++ ([(.int .u64 p0.t), (.int .i64 p0.sb), (.int .i64 p0.sm)] : List Value)
abbrev ZbA : List Value := ([(.int .i64 (0)), (.int .i64 (0)), (.int .i64 (0))] : List Value) ++ hc Zx ++ ([(.int .u64 (0)), (.int .i64 (0)), (.int .i64 (0))] : List Value)
abbrev Z9D (p0 : Z0) (p1 : Nat) (p2 : Nat) (p3 : Nat) : List Value := ([(.int .i64 p0.cl), (.int .i64 p0.seq)] : List Value) ++ hc p0.h ++ ([(.int .i64 p0.len), (.int .i64 p0.sb), (.int .i64 p0.sm), (.slice (some ⟨p1, 0, none⟩) p2 p3)] : List Value)
def ZbN : Z0 := ⟨0, 0, Zx, 0, 0, 0⟩
theorem Z8h (w : World) (f cn : Int) (hf : 1 ≤ f ∧ f ≤ 5) (Q : Nat) (hQ : (Q : Int) = 2 * f + 1) : Calls Tryz.prog 58 #[.agg ⟨[.int .i64 f, .int .i64 cn]⟩] w fun e w' => e = .returned (.int .i64 (Q : Int)) ∧ Upd [] w w' := by
 rw [hQ]; exact Zcr w f cn (by omega)
theorem Z5l (w : World) (f cn : Int) (x : Z0) (N Q : Nat) (hN : (N : Int) = 3 * f + 1) (hQ : (Q : Int) = 2 * f + 1) (hf : 1 ≤ f ∧ f ≤ 5) (sa : Option Addr) (sc : Nat) (S : List Zk) (hS : ListAt ZV 38 w (.slice sa S.length sc) S) (hlS : S.length ≤ 1000) (hlo : (Z6f f x S).length ≤ 12) :
  Calls Tryz.prog 61 #[(.agg ⟨([(.int .i64 (f)), (.int .i64 (cn))] : List Value)⟩), (.agg ⟨(([(.int .i64 (x.cl)), (.int .i64 (x.seq))] : List Value) ++ hc x.h ++ ([(.int .i64 (x.len)), (.int .i64 (x.sb)), (.int .i64 (x.sm))] : List Value))⟩), (.slice sa S.length sc)] w fun e w' => (e = .returned (.tuple #[.agg ⟨Z1E ZbN ++ [.slice none 0 0]⟩, .int .i64 8]) ∧ (Z6Z x S N).length < Q ∧ Upd [] w w') ∨ ∃ g c, e = .returned (.tuple #[.agg ⟨Z1E x ++ [.slice (some ⟨g, 0, none⟩) Q c]⟩, .int .i64 0]) ∧ Q ≤ (Z6Z x S N).length ∧ (Zc 49 38 (.slice (some ⟨g, 0, none⟩) (Z6Z x S N).length c) (Z6Z x S N).length ((Z6Z x S N).flatMap ZV)).ok w' ∧ Upd [] w w' ∧ w.heap.size ≤ g := by
 have H := Sat.start0 w
 refine Zg Tryz.func61 rfl 62 rfl (Nat.le_of_ble_eq_true rfl) ?_
 apply zsl
 refine zwd fun Kq kq => ?_
 refine zdb (Z2N f cn) H ?_
 intro b2 w3 H4
 refine kq _ _ ?_
 clear kq Kq
 refine zwd fun Kq kq => ?_
 refine zdb (Z58 x) H4 ?_
 intro b6 w7 H8
 refine kq _ _ ?_
 clear kq Kq
 refine zwd fun Kq kq => ?_
 refine zda (Z59) H8 ?_
 intro b10 w11 H12
 refine kq _ _ ?_
 clear kq Kq
 refine wv 7 (.int .i64 (0)) ?_
 apply Z0N
 refine wv 8 (.slice none 0 0) ?_
 apply znt
 apply Zf
 apply zsl
 refine wv 12 (.slice sa S.length sc) ?_
 refine wv 13 (.int .i64 ((S.length : Int))) ?_
 refine wv 14 (.int .i64 (0)) ?_
 apply znt
 apply ZA
 have H13 := H12.addNil 49 38
 refine ZW ([8, 10, 11] ++ List.range' 14 34) (fun F_ W_ m_ => ∃ (i : Nat) (a : Option Addr) (c : Nat) (D : List Zk), F_ 14 = (.int .i64 ((i : Int))) ∧ F_ 8 = (.slice a D.length c) ∧ (i ≤ S.length) ∧ (D = Z6f f x (S.take i)) ∧ Sat w [Z7 w (fun _ => False), Z3 b2 27 (Z2N f cn), Z3 b6 54 (Z58 x), Z3 b10 57 (Z59), (Zbz a D c)] W_ ∧ m_ = S.length - i) _ ⟨0, none, 0, [], (show ((.int .i64 (0)) : Value) = _ by first | rfl | go_num), (by first | rfl | go_num), (Nat.zero_le _), rfl, H13, rfl⟩ ?_
 rintro g14 w15 _ ⟨i, a, c, D, v17, v18, hi, hD, H16, rfl⟩
 refine Zo 14 _ v17 ?_
 refine Zo 8 _ v18 ?_
 have hDl : D.length ≤ i := by rw [hD]; have := Z89 f x (S.take i); rw [List.length_take] at this; omega
 apply zsl
 refine wv 15 (.bool (decide ((i : Int) < (S.length : Int)))) ?_
 apply znt
 apply Zf
 refine (ZC (decide ((i : Int) < (S.length : Int)))).elim (fun b20 => ?_) (fun b20 => ?_)
 ·have g21 := of_decide_eq_true b20
  refine Z1q _ b20 ?_
  apply ZF
  apply ztn
  apply Zf
  apply ZA
  apply zsl
  obtain ⟨g23, o24, c25, e26, R27⟩ := SliceOf.atD hS Zr (show i < S.length by omega)
  refine wv 16 (.pointer (some ⟨g23, o24 + ((i : Int)).toNat * 38, none⟩)) ?_ (hr := ZM (E := 49) (by kernel_rfl) (by kernel_rfl) (Nat.le_of_ble_eq_true rfl) rfl e26 rfl (by omega) (by omega))
  refine wv 17 (.agg ⟨(Z3K (S.getD i Zr))⟩) ?_ (hr := Z0a (vs := (Z3K (S.getD i Zr))) rfl (by kernel_rfl) (by kernel_rfl) (Nat.le_of_ble_eq_true (by kernel_rfl)) (H16.runR 0 rfl (Z16 R27 0 (by kernel_rfl) (show o24 + ((i : Int)).toNat * 38 = o24 + i * 38 + 0 by omega)) (fun h => h)))
  refine zwd fun Kq kq => ?_
  refine zda (ZbA) H16 ?_
  intro b29 w30 H31
  refine kq _ _ ?_
  clear kq Kq
  refine zwd fun Kq kq => ?_
  refine Z21 (Z3K (S.getD i Zr)) H31 5 ?_
  intro w33 H34
  refine kq _ _ ?_
  clear kq Kq
  apply Z0N
  refine wv 18 (.func (.func 81) #[] #[(pt b29 0)]) ?_
  refine wv 11 (.func (.func 81) #[] #[(pt b29 0)]) ?_
  apply znt
  refine Z0v (List.range' 19 24) (fun G_ W_ => G_ 42 = (.bool (Z86 f x (S.getD i Zr) && !Z7Y D (S.getD i Zr).r)) ∧ Sat w [Z7 w (fun _ => False), Z3 b2 27 (Z2N f cn), Z3 b6 54 (Z58 x), Z3 b10 57 (Z59), (Zbz a D c), Z3 b29 49 (Z3K (S.getD i Zr))] W_) ?_ ?_
  ·apply Zt
   refine zwN 19 (Z2N f cn) (H34.at 1 rfl) ?_
   refine wv 20 (pt b29 0) ?_
   refine zw1 21 (.int .i64 ((S.getD i Zr).r)) (H34.cell 5 rfl (by kernel_rfl)) ?_
   refine zwd fun Kq kq => ?_
   refine zdq 22 (Zbl w33 f cn ((S.getD i Zr).r) (by omega)) H34 ?_
   intro w38 H39
   refine kq _ _ ?_
   clear kq Kq
   refine wv 23 (.bool (inB f ((S.getD i Zr).r))) ?_
   refine (ZC (inB f ((S.getD i Zr).r))).elim (fun b41 => ?_) (fun b41 => ?_)
   ·refine ZP 23 (.bool true) (congrArg Value.bool b41) ?_
    refine wy 4 23 true 24 (pt b29 1) ?_
    refine wy 4 23 true 25 (.agg ⟨([(.int .i64 ((S.getD i Zr).cl)), (.int .i64 ((S.getD i Zr).seq))] : List Value)⟩) ?_ (hr := ZG (vs := ([(.int .i64 ((S.getD i Zr).cl)), (.int .i64 ((S.getD i Zr).seq))] : List Value)) rfl (by kernel_rfl) (by kernel_rfl) (by exact Nat.le_of_ble_eq_true (by kernel_rfl)) (H39.at 5 rfl) (by kernel_rfl))
    refine wy 4 23 true 26 (pt b6 0) ?_
    refine wy 4 23 true 27 (.agg ⟨(Z2N x.cl x.seq)⟩) ?_ (hr := ZG (vs := (Z2N x.cl x.seq)) rfl (by kernel_rfl) (by kernel_rfl) (by exact Nat.le_of_ble_eq_true (by kernel_rfl)) (H39.at 2 rfl) (by kernel_rfl))
    refine wy 4 23 true 28 (.bool (decide (((S.getD i Zr).cl) = x.cl ∧ ((S.getD i Zr).seq) = x.seq))) ?_ (hr := Zav ((S.getD i Zr).cl) ((S.getD i Zr).seq) x.cl x.seq rfl rfl)
    refine wv 29 (.bool (decide (((S.getD i Zr).cl) = x.cl ∧ ((S.getD i Zr).seq) = x.seq))) ?_
    refine wv 30 (.bool (decide (((S.getD i Zr).cl) = x.cl ∧ ((S.getD i Zr).seq) = x.seq))) ?_
    refine (ZC (decide (((S.getD i Zr).cl) = x.cl ∧ ((S.getD i Zr).seq) = x.seq))).elim (fun b42 => ?_) (fun b42 => ?_)
    ·refine ZP 30 (.bool true) (congrArg Value.bool b42) ?_
     refine wy 11 30 true 31 (pt b29 3) ?_
     refine wy 11 30 true 32 (.agg ⟨(hc (S.getD i Zr).h)⟩) ?_ (hr := ZG (vs := (hc (S.getD i Zr).h)) rfl (by kernel_rfl) (by kernel_rfl) (by exact Nat.le_of_ble_eq_true (by kernel_rfl)) (H39.at 5 rfl) (by kernel_rfl))
     refine wy 11 30 true 33 (pt b6 2) ?_
     refine wy 11 30 true 34 (.agg ⟨(hc x.h)⟩) ?_ (hr := ZG (vs := (hc x.h)) rfl (by kernel_rfl) (by kernel_rfl) (by exact Nat.le_of_ble_eq_true (by kernel_rfl)) (H39.at 2 rfl) (by kernel_rfl))
     refine wy 11 30 true 35 (.bool (decide (((S.getD i Zr).h) = x.h))) ?_ (hr := Zau ((S.getD i Zr).h) x.h rfl rfl)
     refine wv 36 (.bool (decide (((S.getD i Zr).h) = x.h))) ?_
     refine wv 37 (.bool (decide (((S.getD i Zr).h) = x.h))) ?_
     refine (ZC (decide (((S.getD i Zr).h) = x.h))).elim (fun b43 => ?_) (fun b43 => ?_)
     ·have g44 := of_decide_eq_true b43
      refine ZP 37 (.bool true) (congrArg Value.bool b43) ?_
      refine wy 18 37 true 38 (.slice a D.length c) ?_
      refine wy 18 37 true 39 (.func (.func 81) #[] #[(pt b29 0)]) ?_
      refine Z0B (Z0k 18 37 true rfl (by kernel_rfl) rfl (by kernel_rfl)) (fun Kq kq => ?_)
      refine zdq 40 (Z6A w38 b29 (S.getD i Zr) (H39.at 5 rfl) (.slice a D.length c) D (H39.at 4 rfl) (by omega)) H39 ?_
      intro w47 H48
      refine kq _ _ ?_
      clear kq Kq
      refine wy 18 37 true 41 (.bool (!(Z7Y D (S.getD i Zr).r))) ?_
      refine wv 42 (.bool (!(Z7Y D (S.getD i Zr).r))) ?_
      apply Zu
      refine ZJ ?_ ⟨(congrArg Value.bool (show (!(Z7Y D (S.getD i Zr).r)) = (Z86 f x (S.getD i Zr) && !Z7Y D (S.getD i Zr).r) by simp only [Z86, Z3x, b41, b42, b43, Bool.not_true, Bool.not_false, Bool.true_or, Bool.false_or, Bool.or_true, Bool.or_false, Bool.and_true, Bool.true_and, Bool.and_false, Bool.false_and])), H48⟩
      exact zs
     have g50 := of_decide_eq_false b43
     refine ZP 37 (.bool false) (congrArg Value.bool b43) ?_
     iterate 4 refine wn 18 37 true ?_
     refine wv 42 (.bool false) ?_
     apply Zu
     refine ZJ ?_ ⟨(congrArg Value.bool (show false = (Z86 f x (S.getD i Zr) && !Z7Y D (S.getD i Zr).r) by simp only [Z86, Z3x, b41, b42, b43, Bool.not_true, Bool.not_false, Bool.true_or, Bool.false_or, Bool.or_true, Bool.or_false, Bool.and_true, Bool.true_and, Bool.and_false, Bool.false_and])), H39⟩
     exact zs
    refine ZP 30 (.bool false) (congrArg Value.bool b42) ?_
    iterate 5 refine wn 11 30 true ?_
    refine wv 36 (.bool false) ?_
    refine wv 37 (.bool false) ?_
    iterate 4 refine wn 18 37 true ?_
    refine wv 42 (.bool false) ?_
    apply Zu
    refine ZJ ?_ ⟨(congrArg Value.bool (show false = (Z86 f x (S.getD i Zr) && !Z7Y D (S.getD i Zr).r) by simp only [Z86, Z3x, b41, b42, Bool.not_true, Bool.not_false, Bool.true_or, Bool.false_or, Bool.or_true, Bool.or_false, Bool.and_true, Bool.true_and, Bool.and_false, Bool.false_and])), H39⟩
    exact zs
   refine ZP 23 (.bool false) (congrArg Value.bool b41) ?_
   iterate 5 refine wn 4 23 true ?_
   refine wv 29 (.bool false) ?_
   refine wv 30 (.bool false) ?_
   iterate 5 refine wn 11 30 true ?_
   refine wv 36 (.bool false) ?_
   refine wv 37 (.bool false) ?_
   iterate 4 refine wn 18 37 true ?_
   refine wv 42 (.bool false) ?_
   apply Zu
   refine ZJ ?_ ⟨(congrArg Value.bool (show false = (Z86 f x (S.getD i Zr) && !Z7Y D (S.getD i Zr).r) by simp only [Z86, Z3x, b41, Bool.not_true, Bool.not_false, Bool.true_or, Bool.false_or, Bool.or_true, Bool.or_false, Bool.and_true, Bool.true_and, Bool.and_false, Bool.false_and])), H39⟩
   exact zs
  rintro f52 w53 ⟨v55, H54⟩
  refine Zo 42 _ v55 ?_
  refine (ZC (Z86 f x (S.getD i Zr) && !Z7Y D (S.getD i Zr).r)).elim (fun b56 => ?_) (fun b56 => ?_)
  ·refine Z1q _ b56 ?_
   apply Zt
   refine wv 43 (.slice a D.length c) ?_
   refine zwN 44 (Z3K (S.getD i Zr)) (H54.at 5 rfl) ?_
   refine zwd fun Kq kq => ?_
   refine Z3U 49 38 80 (.agg ⟨(ZbA)⟩) [(0, (.agg ⟨(Z3K (S.getD i Zr))⟩))] (Z3K (S.getD i Zr)) H54 ?_
   intro b58 w59 H60
   have H61 := H60.ct 6 rfl (Zc 49 38 (.slice (some ⟨b58, 0, none⟩) 1 1) 1 ([(S.getD i Zr)].flatMap ZV)) (by rw [show ((Z3K (S.getD i Zr)) : List Value) = [(S.getD i Zr)].flatMap ZV from by simp only [List.flatMap_cons, List.flatMap_nil, List.append_nil]; rfl])
   refine kq _ _ ?_
   clear kq Kq
   refine zwd fun Kq kq => ?_
   refine Z0n (T := 55) (e := 49) (size := 38) (bytes := 80) rfl H61 (by kernel_rfl) 4 6 rfl rfl rfl rfl (Z0e ZV Z2m [(S.getD i Zr)]) (by omega) (by omega) ?_
   intro v63 w64 H65
   have H68 := H65.ct 4 rfl (Zc 49 38 v63 ((D ++ [(S.getD i Zr)]).length) ((D ++ [(S.getD i Zr)]).flatMap ZV)) ja
   obtain ⟨a66, c67, rfl⟩ := Ze (H68.at 4 rfl)
   refine kq _ _ ?_
   clear kq Kq
   refine wv 8 (.slice a66 ((D ++ [(S.getD i Zr)]).length) c67) ?_
   apply Zu
   apply Zw
   apply ztn
   apply Zt
   refine zwi 47 ((i : Int) + 1) ?_
   refine wv 14 (.int .i64 ((i : Int) + 1)) ?_
   apply Zu
   have H69 := H68.pk [0, 1, 2, 3, 4]
   refine ZE ?_ _ ⟨(i + 1), a66, c67, (D ++ [(S.getD i Zr)]), rfl, (show ((.slice a66 ((D ++ [(S.getD i Zr)]).length) c67) : Value) = _ by first | rfl | go_num), (by omega), (by rw [Z3g _ _ _ (by omega), ← hD]; unfold Z4B; rw [if_pos b56]), H69, rfl⟩ (by omega)
   exact zs
  refine Z1a _ b56 ?_
  apply ZF
  apply Zw
  apply ztn
  apply Zt
  refine zwi 47 ((i : Int) + 1) ?_
  refine wv 14 (.int .i64 ((i : Int) + 1)) ?_
  apply Zu
  have H70 := H54.pk [0, 1, 2, 3, 4]
  refine ZE ?_ _ ⟨(i + 1), a, c, D, rfl, rfl, (by omega), (by rw [Z3g _ _ _ (by omega), ← hD]; unfold Z4B; rw [if_neg (by rw [b56]; exact Bool.false_ne_true)]), H70, rfl⟩ (by omega)
  exact zs
 have g71 := of_decide_eq_false b20
 refine Z1a _ b20 ?_
 apply zxb
 apply ztn
 apply Zf
 apply Zf
 have hT : D = Z6f f x S := by rw [hD, List.take_of_length_le (by omega)]
 have hrl : D.length = (Z6Z x S N).length := by rw [hT]; exact Zcb hN
 have hD12 : D.length ≤ 12 := by rw [hT]; exact hlo
 apply Zt
 refine wv 48 (.slice a D.length c) ?_
 refine wv 49 (.int .i64 ((D.length : Int))) ?_
 refine zwN 50 (Z2N f cn) (H16.at 1 rfl) ?_
 refine zwd fun Kq kq => ?_
 refine zdq 51 (Z8h w15 f cn hf Q hQ) H16 ?_
 intro w74 H75
 refine kq _ _ ?_
 clear kq Kq
 refine wv 52 (.bool (decide ((D.length : Int) < (Q : Int)))) ?_
 apply znt
 refine (ZC (decide ((D.length : Int) < (Q : Int)))).elim (fun b77 => ?_) (fun b77 => ?_)
 ·have g78 := of_decide_eq_true b77
  refine Z1q _ b77 ?_
  apply zsl
  refine wv 53 (.agg ⟨(Z59)⟩) ?_
  refine zwd fun Kq kq => ?_
  refine Z21 (Z59) H75 3 ?_
  intro w81 H82
  refine kq _ _ ?_
  clear kq Kq
  refine wv 7 (.int .i64 (8)) ?_
  apply znt
  apply Zz
  apply ZY
  refine end2 rfl (Z02 (vs := (Z59)) rfl (by kernel_rfl) (by kernel_rfl) (by exact Nat.le_of_ble_eq_true (by kernel_rfl)) (H82.at 3 rfl) (by kernel_rfl)) (Z0c (v := (.int .i64 (8))) rfl) ?_
  exact .inl ⟨rfl, by omega, H82.upd 0 rfl [] (fun _ h => h.elim)⟩
 have g84 := of_decide_eq_false b77
 refine Z1a _ b77 ?_
 apply ZF
 apply ztn
 apply zsl
 refine wv 54 (.slice a D.length c) ?_
 refine zwd fun Kq kq => ?_
 obtain ⟨g87, c88, e89⟩ := Z18 (H75.at 4 rfl) (by omega)
 obtain rfl : a = some ⟨g87, 0, none⟩ := by cases e89; rfl
 refine zdc 55 (Za8 w74 g87 c D (H75.at 4 rfl) (by omega) (fun s hs => by rw [hT] at hs; have := ((Z4C f x S).mem s).1 hs; omega)) ?_
 rintro _ w90 ⟨rfl, D91, p92, s93, k94, u95⟩
 have H96 := H75.setU u95 4 rfl (by rintro b hb; obtain rfl := List.mem_singleton.1 hb; rfl) k94 (fun b hb => .inl hb)
 have hDl := p92.length_eq
 refine ⟨_, rfl, ?_⟩
 refine kq _ _ ?_
 clear kq Kq
 apply znt
 apply Zf
 have hR : D91 = Z6Z x S N := Z5j (F := f) (L := S) (x := x) hN (by rw [← hT]; exact p92) s93
 have hcap : D.length ≤ c := by have q := ListAt.cap (ListAt.row (enc := ZV) (sz := 38) Z0W (by decide) (H96.at 4 rfl)); omega
 refine Z0b H96 [Z7 w (fun _ => False), Z3 b2 27 (Z2N f cn), Z3 b6 54 (Z58 x), Zc 49 38 (.slice (some ⟨g87, 0, none⟩) D.length c) D.length (D91.flatMap ZV)] 8 rfl (by kernel_rfl) (fun Hx => (Hx.pk [0, 1, 2, 4])) ?_
 intro w97 H98 S99
 refine hv0 0 S99 56 (.agg ⟨(Z58 x)⟩) ?_ (he := fun _ H' => (ZG (vs := (Z58 x)) rfl (by kernel_rfl) (by kernel_rfl) (by exact Nat.le_of_ble_eq_true (by kernel_rfl)) (H'.at 2 rfl) (by kernel_rfl)))
 refine hv0 1 S99 57 (.slice (some ⟨g87, 0, none⟩) D.length c) ?_
 refine hv0 2 S99 58 (.agg ⟨(Z2N f cn)⟩) ?_ (he := fun _ H' => (ZG (vs := (Z2N f cn)) rfl (by kernel_rfl) (by kernel_rfl) (by exact Nat.le_of_ble_eq_true (by kernel_rfl)) (H'.at 1 rfl) (by kernel_rfl)))
 refine Z0H 3 fun Kq kq => ?_
 refine zdq 59 (Z8h w97 f cn hf Q hQ) H98 ?_
 intro w101 H102
 have S104 := H102.pk [0, 1, 2, 4]
 refine kq _ _ S104 ?_
 clear kq Kq
 refine hv0 4 S104 60 (.slice (some ⟨g87, 0, none⟩) Q c) ?_ (he := fun _ H' => (Z2k (E := 49) (q := Q) (by kernel_rfl) (by kernel_rfl) rfl rfl (by omega) (by omega)))
 refine Z0s 5 rfl (by kernel_rfl) (by kernel_rfl) (by kernel_rfl) (fun _ _ _ h => h) S104 (Z5 rfl) (d := 61) (v := (.agg ⟨(Z9D x g87 Q c)⟩)) rfl (fun _ H' => (by kernel_rfl)) ?_
 refine Z0H 6 fun Kq kq => ?_
 refine Z21 (Z9D x g87 Q c) H102 3 ?_
 intro w106 H107
 have S109 := H107.pk [0, 1, 2, 4]
 refine kq _ _ S109 ?_
 clear kq Kq
 refine hv0 7 S109 7 (.int .i64 (0)) ?_
 refine zhf ?_
 apply ztn
 apply Zz
 refine end2 rfl (Z02 (vs := (Z9D x g87 Q c)) rfl (by kernel_rfl) (by kernel_rfl) (by exact Nat.le_of_ble_eq_true (by kernel_rfl)) (H107.at 3 rfl) (by kernel_rfl)) (Z0c (v := (.int .i64 (0))) rfl) ?_
 exact .inr ⟨g87, c, rfl, by omega, (by have q := H107.at 4 rfl; rw [hrl, hR] at q; exact q), H107.upd 0 rfl [] (fun _ h => h.elim), H107.fresh 0 rfl (fun _ h => h) 4 rfl rfl g87 rfl⟩
end Go.Proofs.YtgigjkjdmalmaaaGreat
