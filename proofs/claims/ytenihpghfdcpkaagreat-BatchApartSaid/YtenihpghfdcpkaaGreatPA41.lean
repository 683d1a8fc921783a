/- WHAT IS PROVED: contracts and plain laws of EnB. Conditions: stated with each. -/
import Derived.Test.YtenihpghfdcpkaaGreatPA03
import Derived.Test.YtenihpghfdcpkaaGreatPA05
import Derived.Test.YtenihpghfdcpkaaGreatPA21
import Derived.Test.YtenihpghfdcpkaaGreatPA40
set_option maxHeartbeats 4000000
set_option maxRecDepth 100000
namespace Go.Proofs.YtenihpghfdcpkaaGreat
open Go.RowKit
abbrev Z9q (p0 : Int) (p1 : Int) (p2 : Option Addr) (p3 : Nat) (p4 : Nat) (p5 : Value) (p6 : Value) : List Value := ([(.int .i64 p0), (.int .u64 p1), (.slice p2 p3 p4), p5, p6] : List Value)
abbrev Z8T (p0 : PrR) (p1 : Nat) : List Value := ([(.int .i64 p0.r), (.int .i64 p0.e), (.int .u64 p0.f), (.slice p0.ca p1 p0.cc), (.int .i64 p0.sb), (.int .i64 p0.sm)] : List Value)
abbrev kEnB_2 : List Value := ([(.int .i64 (0)), (.int .i64 (0)), (.int .u64 (0)), (.slice none 0 0), (.int .i64 (0)), (.int .i64 (0))] : List Value)
abbrev Z7A (p0 : Z9) (p1 : CeR) (p2 : Nat) : List Value := ([(.int .i64 p0.cl), (.int .i64 p0.seq)] : List Value) ++ hc p0.h ++ ([(.int .i64 p0.len), (.int .i64 p0.sb), (.int .i64 p0.sm), (.slice p1.sa p2 p1.sc)] : List Value)
abbrev kEnB_4 : List Value := ([(.int .i64 (0)), (.int .i64 (0))] : List Value) ++ hc Zn ++ ([(.int .i64 (0)), (.int .i64 (0)), (.int .i64 (0)), (.slice none 0 0)] : List Value)
abbrev Z3S (p0 : Int) (p1 : Int) : List Value := ([(.int .i64 p0), (.int .i64 p1)] : List Value)
abbrev Z4e (p0 : Z9) (p1 : Int) : List Value := ([(.int .i64 p0.cl), (.int .i64 p0.seq)] : List Value) ++ hc p0.h ++ ([(.int .u64 p1)] : List Value)
abbrev Z7v : List Value := ([(.int .i64 (0)), (.int .i64 (0))] : List Value) ++ hc Zn ++ ([(.int .u64 (0))] : List Value)
abbrev Z2o (p0 : Z1H) : List Value := ([(.int .i64 p0.cl), (.int .i64 p0.sq)] : List Value) ++ hc p0.h ++ ([(.int .u64 p0.t)] : List Value)
abbrev Zf3 (p0 : Option Addr) (p1 : List Z1H) (p2 : Nat) : Ck := Zc 63 35 (.slice p0 p1.length p2) p1.length (p1.flatMap Z1q)
theorem Z4s (w : World) (last tm ep : Int) (vo vt : Value) (mv : Value) (LM : List (NmD × Bool)) (hLM : MapLike w mv nmV Value.bool LM) (pa : Option Addr) (pc : Nat) (P : List PrR) (hP : ListAt Z0p 6 w (.slice pa P.length pc) P) (hPo : ∀ i, i < P.length → PrOk w (P.getD i pr0)) (hsm : PSm P) (hlP : P.length ≤ 1000) (hlC : ∀ i, i < P.length → (P.getD i pr0).C.length ≤ 1000) :
  Calls Tryz.prog 14 #[(.int .u64 (last)), (mv), (.agg ⟨([(.int .i64 (ep)), (.int .u64 (tm)), (.slice pa P.length pc), (vo), (vt)] : List Value)⟩)] w fun e w' => ∃ (oa : Option Addr) (oc : Nat) (O : List Z1H), e = .returned (.slice oa O.length oc) ∧ O.Perm ((Z7i last tm (lgM LM) (P.flatMap (·.C))).map (·.2)) ∧ (O.Pairwise fun a b => ¬ Zc1 b a) ∧ (Zc 63 35 (.slice oa O.length oc) O.length (O.flatMap Z1q)).ok w' ∧ Upd [] w w' ∧ ∀ q_, (Zc 63 35 (.slice oa O.length oc) O.length (O.flatMap Z1q)).fp q_ → w.heap.size ≤ q_ := by
 have H := Sat.start0 w
 obtain ⟨lg, hlg⟩ : ∃ lg, lg = lgM LM := ⟨_, rfl⟩
 refine Z8 Tryz.func14 rfl 92 rfl (Nat.le_of_ble_eq_true rfl) ?_
 refine zsl <| zwd fun Kq kq => zdb (Z9q ep tm pa P.length pc vo vt) H fun b2 w3 H4 => ?_
 refine kq _ _ <| wv 6 (.slice none 0 0) <| Z0y <| zwd fun Kq kq => Z2s nmV Z3N rfl H4 fun b6 w7 H8 => ?_
 refine kq _ _ <| wv 7 (.map (some b6)) <| znt <| Z5 <| zsl <| wv 19 (pt b2 2) <| zw1 20 (.slice pa P.length pc) (H8.cell 1 rfl rfl) <| wv 21 (.int .i64 ((P.length : Int))) <| wv 22 (.int .i64 (0)) <| znt ?_
 refine Za <| Zw ([9, 11, 12, 13, 14] ++ List.range' 22 57) (fun F_ W_ m_ => ∃ (i : Nat) (M : Zan), F_ 22 = (.int .i64 ((i : Int))) ∧ (i ≤ P.length) ∧ (M = Z7i last tm lg ((P.take i).flatMap (·.C))) ∧ Sat w [Z3 w (fun _ => False), Z0 b2 47 (Z9q ep tm pa P.length pc vo vt), Z0B b6 nmV Z3N M] W_ ∧ m_ = P.length - i) _ ⟨0, [], (show ((.int .i64 (0)) : Value) = _ by first | rfl | go_num), (Nat.zero_le _), rfl, H8, rfl⟩ ?_
 rintro g9 w10 _ ⟨i, M, v12, hi, hM, H11, rfl⟩
 refine Zd 22 _ v12 ?_
 refine zsl <| wv 23 (.bool (decide ((i : Int) < (P.length : Int)))) <| znt <| Z5 ?_
 refine (ZJ (decide ((i : Int) < (P.length : Int)))).elim (fun b14 => ?_) (fun b14 => ?_)
 ·have g15 := of_decide_eq_true b14
  refine Z33 _ b14 ?_
  refine Zt <| ztn <| Z5 <| Za <| zsl ?_
  obtain ⟨g17, o18, c19, e20, R21⟩ := SliceOf.atD hP pr0 (show i < P.length by omega)
  refine wv 24 (.pointer (some ⟨g17, o18 + ((i : Int)).toNat * 6, none⟩)) ?_ (hr := Zh (E := 71) (by kernel_rfl) (by kernel_rfl) (Nat.le_of_ble_eq_true rfl) rfl e20 rfl (by omega) (by omega))
  refine wv 25 (.agg ⟨(Z8T (P.getD i pr0) (((P.getD i pr0).C).length))⟩) ?_ (hr := Z05 (vs := (Z8T (P.getD i pr0) (((P.getD i pr0).C).length))) rfl (by kernel_rfl) (by kernel_rfl) (Nat.le_of_ble_eq_true (by kernel_rfl)) (H11.runR 0 rfl (Z0W R21 0 (by kernel_rfl) (show o18 + ((i : Int)).toNat * 6 = o18 + i * 6 + 0 by omega)) (fun h => h)))
  refine zwd fun Kq kq => zda (kEnB_2) H11 fun b23 w24 H25 => ?_
  refine kq _ _ <| zwd fun Kq kq => Z1z (Z8T (P.getD i pr0) (((P.getD i pr0).C).length)) H25 3 fun w27 H28 => ?_
  refine kq _ _ <| Z0y <| wv 26 (pt b23 3) <| zw1 27 (.slice (P.getD i pr0).ca ((P.getD i pr0).C).length (P.getD i pr0).cc) (H28.cell 3 rfl rfl) <| wv 28 (.int .i64 ((((P.getD i pr0).C).length : Int))) <| wv 29 (.int .i64 (0)) <| znt <| Za ?_
  have hlCi := hlC i (by omega)
  refine Zw ([11, 12, 13, 14] ++ List.range' 29 49) (fun F_ W_ m_ => ∃ (k : Nat) (M2 : Zan), F_ 29 = (.int .i64 ((k : Int))) ∧ (k ≤ (P.getD i pr0).C.length) ∧ (M2 = Z7i last tm lg ((P.take i).flatMap (·.C) ++ (P.getD i pr0).C.take k)) ∧ Sat w [Z3 w (fun _ => False), Z0 b2 47 (Z9q ep tm pa P.length pc vo vt), Z0B b6 nmV Z3N M2, Z0 b23 71 (Z8T (P.getD i pr0) (((P.getD i pr0).C).length))] W_ ∧ m_ = (P.getD i pr0).C.length - k) _ ⟨0, M, (show ((.int .i64 (0)) : Value) = _ by first | rfl | go_num), (Nat.zero_le _), (by rw [hM, List.take_zero, List.append_nil]), H28, rfl⟩ ?_
  rintro g30 w31 _ ⟨k, M2, v33, hk, hM2, H32, rfl⟩
  refine Zd 29 _ v33 ?_
  refine zsl <| wv 30 (.bool (decide ((k : Int) < (((P.getD i pr0).C).length : Int)))) <| znt <| Z5 ?_
  refine (ZJ (decide ((k : Int) < (((P.getD i pr0).C).length : Int)))).elim (fun b35 => ?_) (fun b35 => ?_)
  ·have g36 := of_decide_eq_true b35
   refine Z33 _ b35 ?_
   refine Zt <| ztn <| Z5 <| Za <| zsl ?_
   obtain ⟨g38, o39, c40, e41, R42⟩ := SliceOf.atD (hPo i (by omega)).1 ce0 (show k < ((P.getD i pr0).C).length by omega)
   refine wv 31 (.pointer (some ⟨g38, o39 + ((k : Int)).toNat * 38, none⟩)) ?_ (hr := Zh (E := 76) (by kernel_rfl) (by kernel_rfl) (Nat.le_of_ble_eq_true rfl) rfl e41 rfl (by omega) (by omega))
   refine wv 32 (.agg ⟨(Z7A ((((P.getD i pr0).C).getD k ce0).x) (((P.getD i pr0).C).getD k ce0) (((((P.getD i pr0).C).getD k ce0).S).length))⟩) ?_ (hr := Z05 (vs := (Z7A ((((P.getD i pr0).C).getD k ce0).x) (((P.getD i pr0).C).getD k ce0) (((((P.getD i pr0).C).getD k ce0).S).length))) rfl (by kernel_rfl) (by kernel_rfl) (Nat.le_of_ble_eq_true (by kernel_rfl)) (H32.runR 0 rfl (Z0W R42 0 (by kernel_rfl) (show o39 + ((k : Int)).toNat * 38 = o39 + k * 38 + 0 by omega)) (fun h => h)))
   refine zwd fun Kq kq => zda (kEnB_4) H32 fun b44 w45 H46 => ?_
   refine kq _ _ <| zwd fun Kq kq => Z1z (Z7A ((((P.getD i pr0).C).getD k ce0).x) (((P.getD i pr0).C).getD k ce0) (((((P.getD i pr0).C).getD k ce0).S).length)) H46 4 fun w48 H49 => ?_
   refine kq _ _ <| znt <| Z5 <| Z08 H49 [Z3 w (fun _ => False), Z0 b2 47 (Z9q ep tm pa P.length pc vo vt), Z0B b6 nmV Z3N M2, Z0 b23 71 (Z8T (P.getD i pr0) (((P.getD i pr0).C).length)), Z0 b44 76 (Z7A ((((P.getD i pr0).C).getD k ce0).x) (((P.getD i pr0).C).getD k ce0) (((((P.getD i pr0).C).getD k ce0).S).length))] 11 rfl (by kernel_rfl) (fun Hx => (Hx.pk [0, 1, 2, 3, 4])) fun w51 H52 S53 => ?_
   refine hv0 0 S53 33 (pt b44 0) <| hv0 1 S53 34 (pt b44 0) <| hv0 2 S53 35 (.agg ⟨(Z3S ((((P.getD i pr0).C).getD k ce0).x.cl) ((((P.getD i pr0).C).getD k ce0).x.seq))⟩) ?_ (he := fun _ H' => (zlN (vs := (Z3S ((((P.getD i pr0).C).getD k ce0).x.cl) ((((P.getD i pr0).C).getD k ce0).x.seq))) (H'.at 4 rfl)))
   refine hv0 3 S53 36 (pt b44 0) <| hv0 4 S53 37 (pt b44 2) <| hv0 5 S53 38 (.agg ⟨(hc (((P.getD i pr0).C).getD k ce0).x.h)⟩) ?_ (he := fun _ H' => (zlN (vs := (hc (((P.getD i pr0).C).getD k ce0).x.h)) (H'.at 4 rfl)))
   refine hv0 6 S53 39 (.agg ⟨(Z7A ((((P.getD i pr0).C).getD k ce0).x) (((P.getD i pr0).C).getD k ce0) (((((P.getD i pr0).C).getD k ce0).S).length))⟩) ?_ (he := fun _ H' => (Z42 (vs := (Z7A ((((P.getD i pr0).C).getD k ce0).x) (((P.getD i pr0).C).getD k ce0) (((((P.getD i pr0).C).getD k ce0).S).length))) rfl (by kernel_rfl) (by kernel_rfl) (Nat.le_of_ble_eq_true (by kernel_rfl)) (H'.at 4 rfl) (by kernel_rfl)))
   refine Z6A 7 9 rfl rfl (by kernel_rfl) (Zb rfl) (Zb rfl) (fun Kq kq => ?_) (fun Kq kq => ?_)
   ·refine zdq 40 (Z9p w51 (((P.getD i pr0).C).getD k ce0).x (((P.getD i pr0).C).getD k ce0).sa (((P.getD i pr0).C).getD k ce0).sc ((((P.getD i pr0).C).getD k ce0).S) (ListAt.now H52 0 rfl (ZcP hPo (i := i) (k := k) (by omega) (by omega))) (hsm.at (i := i) (k := k) (by omega) (by omega)).2.1) H52 ?_
    intro w55 H56
    have S58 := H56.pk [0, 1, 2, 3, 4]
    refine kq _ _ S58 <| Z3u 8 rfl (by kernel_rfl) (by kernel_rfl) (by kernel_rfl) (fun _ _ _ h => h) S58 (Zb rfl) (d := 41) (v := (.agg ⟨(Z4e ((((P.getD i pr0).C).getD k ce0).x) (Zj ((((P.getD i pr0).C).getD k ce0).S)))⟩)) rfl (fun _ H' => (by kernel_rfl)) ?_
    refine Z4q 9 fun Kq kq => ?_
    refine zda (Z7v) H56 ?_
    intro b60 w61 H62
    have S63 := H62.pk [0, 1, 2, 3, 4]
    refine kq _ _ S63 <| Z4q 10 fun Kq kq => ?_
    refine Z1z (Z4e ((((P.getD i pr0).C).getD k ce0).x) (Zj ((((P.getD i pr0).C).getD k ce0).S))) H62 5 ?_
    intro w65 H66
    have S68 := H66.pk [0, 1, 2, 3, 4]
    refine kq _ _ S68 <| zhf <| ztn <| Z5 <| zsl <| wv 42 (pt b60 34) <| zw1 43 (.int .u64 (Zj ((((P.getD i pr0).C).getD k ce0).S))) (H66.cell 5 rfl (by kernel_rfl)) <| wv 44 (.int .u64 (last)) <| wv 45 (.bool (decide ((Zj ((((P.getD i pr0).C).getD k ce0).S)) ≤ last))) <| wv 46 (.bool (decide ((Zj ((((P.getD i pr0).C).getD k ce0).S)) ≤ last))) ?_
    refine (ZJ (decide ((Zj ((((P.getD i pr0).C).getD k ce0).S)) ≤ last))).elim (fun b69 => ?_) (fun b69 => ?_)
    ·have g70 := of_decide_eq_true b69
     refine Z06 46 (.bool true) (congrArg Value.bool b69) ?_
     iterate 5 refine wn 4 46 false ?_
     refine wv 52 (.bool true) <| wv 53 (.bool true) ?_
     iterate 4 refine wn 11 53 false ?_
     refine wv 58 (.bool true) <| znt <| Z1X rfl ?_
     refine Z4k <| Z1N <| Z3g <| ztn <| Zl <| zwi 77 ((k : Int) + 1) <| wv 29 (.int .i64 ((k : Int) + 1)) <| Zu ?_
     have H72 := H66.pk [0, 1, 2, 3]
     refine Z6 ?_ _ ⟨(k + 1), M2, rfl, (by omega), (Z1t hM2 (by omega) (Z2C (Zfb b69))), H72, rfl⟩ (by omega)
     exact zs
    have g73 := of_decide_eq_false b69
    refine Z06 46 (.bool false) (congrArg Value.bool b69) ?_
    refine wy 4 46 false 47 (pt b60 34) <| wy 4 46 false 48 (.int .u64 (Zj ((((P.getD i pr0).C).getD k ce0).S))) ?_ (hr := zl1 (H66.cell 5 rfl (by kernel_rfl)))
    refine wy 4 46 false 49 (pt b2 1) <| wy 4 46 false 50 (.int .u64 (tm)) ?_ (hr := zl1 (H66.cell 1 rfl rfl))
    refine wy 4 46 false 51 (.bool (decide ((Zj ((((P.getD i pr0).C).getD k ce0).S)) > tm))) <| wv 52 (.bool (decide ((Zj ((((P.getD i pr0).C).getD k ce0).S)) > tm))) <| wv 53 (.bool (decide ((Zj ((((P.getD i pr0).C).getD k ce0).S)) > tm))) ?_
    refine (ZJ (decide ((Zj ((((P.getD i pr0).C).getD k ce0).S)) > tm))).elim (fun b75 => ?_) (fun b75 => ?_)
    ·have g76 := of_decide_eq_true b75
     refine Z06 53 (.bool true) (congrArg Value.bool b75) ?_
     iterate 4 refine wn 11 53 false ?_
     refine wv 58 (.bool true) <| znt <| Z1X rfl ?_
     refine Z4k <| Z1N <| Z3g <| ztn <| Zl <| zwi 77 ((k : Int) + 1) <| wv 29 (.int .i64 ((k : Int) + 1)) <| Zu ?_
     have H78 := H66.pk [0, 1, 2, 3]
     refine Z6 ?_ _ ⟨(k + 1), M2, rfl, (by omega), (Z1t hM2 (by omega) (Z2C (skip2 b75))), H78, rfl⟩ (by omega)
     exact zs
    have g79 := of_decide_eq_false b75
    refine Z06 53 (.bool false) (congrArg Value.bool b75) ?_
    refine wy 11 53 false 54 (mv) <| wy 11 53 false 55 (pt b60 0) <| wy 11 53 false 56 (.agg ⟨(Z3S ((((P.getD i pr0).C).getD k ce0).x.cl) ((((P.getD i pr0).C).getD k ce0).x.seq))⟩) ?_ (hr := zlN (vs := (Z3S ((((P.getD i pr0).C).getD k ce0).x.cl) ((((P.getD i pr0).C).getD k ce0).x.seq))) (H66.at 5 rfl))
    refine wy 11 53 false 57 (.bool ((Zp LM (⟨(((P.getD i pr0).C).getD k ce0).x.cl, (((P.getD i pr0).C).getD k ce0).x.seq⟩ : NmD)).getD false)) ?_ (hr := ZaD (kt := 59) (et := 4) nmK (by kernel_rfl) (fun w => by kernel_rfl) rfl (⟨(((P.getD i pr0).C).getD k ce0).x.cl, (((P.getD i pr0).C).getD k ce0).x.seq⟩ : NmD) rfl (hLM.now H66 0 rfl) (ZaW Value.bool _ _))
    refine wv 58 (.bool ((Zp LM (⟨(((P.getD i pr0).C).getD k ce0).x.cl, (((P.getD i pr0).C).getD k ce0).x.seq⟩ : NmD)).getD false)) <| znt ?_
    refine (ZJ ((Zp LM (⟨(((P.getD i pr0).C).getD k ce0).x.cl, (((P.getD i pr0).C).getD k ce0).x.seq⟩ : NmD)).getD false)).elim (fun b81 => ?_) (fun b81 => ?_)
    ·refine Z33 _ b81 ?_
     refine Z4k <| Z1N <| Z3g <| ztn <| Zl <| zwi 77 ((k : Int) + 1) <| wv 29 (.int .i64 ((k : Int) + 1)) <| Zu ?_
     have H82 := H66.pk [0, 1, 2, 3]
     refine Z6 ?_ _ ⟨(k + 1), M2, rfl, (by omega), (Z1t hM2 (by omega) (Z2C (skip3 hlg b81))), H82, rfl⟩ (by omega)
     exact zs
    refine Z2X _ b81 ?_
    refine Zt <| ztn <| zsl <| wv 60 (.map (some b6)) <| wv 61 (pt b60 0) <| zwN 62 (Z3S ((((P.getD i pr0).C).getD k ce0).x.cl) ((((P.getD i pr0).C).getD k ce0).x.seq)) (H66.at 5 rfl) <| wv 63 (.tuple #[(.agg ⟨(Z2o ((Zp M2 (⟨(((P.getD i pr0).C).getD k ce0).x.cl, (((P.getD i pr0).C).getD k ce0).x.seq⟩ : NmD)).getD Z2L))⟩), (.bool ((Zp M2 (⟨(((P.getD i pr0).C).getD k ce0).x.cl, (((P.getD i pr0).C).getD k ce0).x.seq⟩ : NmD)).isSome))]) ?_ (hr := Z5j (kt := 59) (et := 63) nmK (by kernel_rfl) Zaw rfl (⟨(((P.getD i pr0).C).getD k ce0).x.cl, (((P.getD i pr0).C).getD k ce0).x.seq⟩ : NmD) rfl (H66.at 2 rfl) (ZaW Z3N _ _) rfl)
    refine wv 59 (.tuple #[(.agg ⟨(Z2o ((Zp M2 (⟨(((P.getD i pr0).C).getD k ce0).x.cl, (((P.getD i pr0).C).getD k ce0).x.seq⟩ : NmD)).getD Z2L))⟩), (.bool ((Zp M2 (⟨(((P.getD i pr0).C).getD k ce0).x.cl, (((P.getD i pr0).C).getD k ce0).x.seq⟩ : NmD)).isSome))]) <| wv 64 (.agg ⟨(Z2o ((Zp M2 (⟨(((P.getD i pr0).C).getD k ce0).x.cl, (((P.getD i pr0).C).getD k ce0).x.seq⟩ : NmD)).getD Z2L))⟩) <| wv 65 (.bool ((Zp M2 (⟨(((P.getD i pr0).C).getD k ce0).x.cl, (((P.getD i pr0).C).getD k ce0).x.seq⟩ : NmD)).isSome)) <| zwd fun Kq kq => zda (Z7v) H66 fun b84 w85 H86 => ?_
    refine kq _ _ <| zwd fun Kq kq => Z1z (Z2o ((Zp M2 (⟨(((P.getD i pr0).C).getD k ce0).x.cl, (((P.getD i pr0).C).getD k ce0).x.seq⟩ : NmD)).getD Z2L)) H86 6 fun w88 H89 => ?_
    refine kq _ _ <| wv 14 (.bool ((Zp M2 (⟨(((P.getD i pr0).C).getD k ce0).x.cl, (((P.getD i pr0).C).getD k ce0).x.seq⟩ : NmD)).isSome)) <| Z0y <| wv 66 (.bool ((Zp M2 (⟨(((P.getD i pr0).C).getD k ce0).x.cl, (((P.getD i pr0).C).getD k ce0).x.seq⟩ : NmD)).isSome)) <| wv 67 (.bool (!((Zp M2 (⟨(((P.getD i pr0).C).getD k ce0).x.cl, (((P.getD i pr0).C).getD k ce0).x.seq⟩ : NmD)).isSome))) <| wv 68 (.bool (!((Zp M2 (⟨(((P.getD i pr0).C).getD k ce0).x.cl, (((P.getD i pr0).C).getD k ce0).x.seq⟩ : NmD)).isSome))) ?_
    refine (ZJ (!((Zp M2 (⟨(((P.getD i pr0).C).getD k ce0).x.cl, (((P.getD i pr0).C).getD k ce0).x.seq⟩ : NmD)).isSome))).elim (fun b91 => ?_) (fun b91 => ?_)
    ·have g92 := ZS b91
     refine Z06 68 (.bool true) (congrArg Value.bool b91) ?_
     iterate 3 refine wn 2 68 false ?_
     refine wv 72 (.bool true) <| znt <| Z1X rfl ?_
     refine Zl <| wv 73 (.map (some b6)) <| wv 74 (pt b60 0) <| zwN 75 (Z3S ((((P.getD i pr0).C).getD k ce0).x.cl) ((((P.getD i pr0).C).getD k ce0).x.seq)) (H89.at 5 rfl) <| zwN 76 (Z4e ((((P.getD i pr0).C).getD k ce0).x) (Zj ((((P.getD i pr0).C).getD k ce0).S))) (H89.at 5 rfl) <| zwd fun Kq kq => Z0F (kt := 59) (et := 63) rfl H89 2 rfl nmK (by kernel_rfl) rfl (⟨(((P.getD i pr0).C).getD k ce0).x.cl, (((P.getD i pr0).C).getD k ce0).x.seq⟩ : NmD) rfl (⟨(((P.getD i pr0).C).getD k ce0).x.cl, (((P.getD i pr0).C).getD k ce0).x.seq, ((((P.getD i pr0).C).getD k ce0).x.h), Zj ((((P.getD i pr0).C).getD k ce0).S)⟩ : Z1H) rfl fun w95 H96 => ?_
     refine kq _ _ <| Zu <| Z7 <| ztn <| Zl <| zwi 77 ((k : Int) + 1) <| wv 29 (.int .i64 ((k : Int) + 1)) <| Zu ?_
     have H97 := H96.pk [0, 1, 2, 3]
     refine Z6 ?_ _ ⟨(k + 1), (Z2j M2 (⟨(((P.getD i pr0).C).getD k ce0).x.cl, (((P.getD i pr0).C).getD k ce0).x.seq⟩ : NmD) (⟨(((P.getD i pr0).C).getD k ce0).x.cl, (((P.getD i pr0).C).getD k ce0).x.seq, ((((P.getD i pr0).C).getD k ce0).x.h), Zj ((((P.getD i pr0).C).getD k ce0).S)⟩ : Z1H)), rfl, (by omega), (Z1t hM2 (by omega) (Z6M (Zb8 hlg b69 b75 b81) (Zd3 (by have q := b91; simpa using q)))), H97, rfl⟩ (by omega)
     exact zs
    have g98 := Zr b91
    refine Z06 68 (.bool false) (congrArg Value.bool b91) ?_
    refine wy 2 68 false 69 (.agg ⟨(Z4e ((((P.getD i pr0).C).getD k ce0).x) (Zj ((((P.getD i pr0).C).getD k ce0).S)))⟩) ?_ (hr := Z42 (vs := (Z4e ((((P.getD i pr0).C).getD k ce0).x) (Zj ((((P.getD i pr0).C).getD k ce0).S)))) rfl (by kernel_rfl) (by kernel_rfl) (Nat.le_of_ble_eq_true (by kernel_rfl)) (H89.at 5 rfl) (by kernel_rfl))
    refine wy 2 68 false 70 (.agg ⟨(Z2o ((Zp M2 (⟨(((P.getD i pr0).C).getD k ce0).x.cl, (((P.getD i pr0).C).getD k ce0).x.seq⟩ : NmD)).getD Z2L))⟩) ?_ (hr := Z42 (vs := (Z2o ((Zp M2 (⟨(((P.getD i pr0).C).getD k ce0).x.cl, (((P.getD i pr0).C).getD k ce0).x.seq⟩ : NmD)).getD Z2L))) rfl (by kernel_rfl) (by kernel_rfl) (Nat.le_of_ble_eq_true (by kernel_rfl)) (H89.at 6 rfl) (by kernel_rfl))
    refine Z5I (Z11 2 68 false rfl (by kernel_rfl) rfl (by kernel_rfl)) (fun Kq kq => ?_)
    refine zdq 71 (Z8F w88 (⟨(((P.getD i pr0).C).getD k ce0).x.cl, (((P.getD i pr0).C).getD k ce0).x.seq, ((((P.getD i pr0).C).getD k ce0).x.h), Zj ((((P.getD i pr0).C).getD k ce0).S)⟩ : Z1H) ((Zp M2 (⟨(((P.getD i pr0).C).getD k ce0).x.cl, (((P.getD i pr0).C).getD k ce0).x.seq⟩ : NmD)).getD Z2L)) H89 ?_
    intro w101 H102
    refine kq _ _ <| wv 72 (.bool (Z3t (⟨(((P.getD i pr0).C).getD k ce0).x.cl, (((P.getD i pr0).C).getD k ce0).x.seq, ((((P.getD i pr0).C).getD k ce0).x.h), Zj ((((P.getD i pr0).C).getD k ce0).S)⟩ : Z1H) ((Zp M2 (⟨(((P.getD i pr0).C).getD k ce0).x.cl, (((P.getD i pr0).C).getD k ce0).x.seq⟩ : NmD)).getD Z2L))) <| znt ?_
    refine (ZJ (Z3t (⟨(((P.getD i pr0).C).getD k ce0).x.cl, (((P.getD i pr0).C).getD k ce0).x.seq, ((((P.getD i pr0).C).getD k ce0).x.h), Zj ((((P.getD i pr0).C).getD k ce0).S)⟩ : Z1H) ((Zp M2 (⟨(((P.getD i pr0).C).getD k ce0).x.cl, (((P.getD i pr0).C).getD k ce0).x.seq⟩ : NmD)).getD Z2L))).elim (fun b104 => ?_) (fun b104 => ?_)
    ·refine Z33 _ b104 ?_
     refine Zl <| wv 73 (.map (some b6)) <| wv 74 (pt b60 0) <| zwN 75 (Z3S ((((P.getD i pr0).C).getD k ce0).x.cl) ((((P.getD i pr0).C).getD k ce0).x.seq)) (H102.at 5 rfl) <| zwN 76 (Z4e ((((P.getD i pr0).C).getD k ce0).x) (Zj ((((P.getD i pr0).C).getD k ce0).S))) (H102.at 5 rfl) <| zwd fun Kq kq => Z0F (kt := 59) (et := 63) rfl H102 2 rfl nmK (by kernel_rfl) rfl (⟨(((P.getD i pr0).C).getD k ce0).x.cl, (((P.getD i pr0).C).getD k ce0).x.seq⟩ : NmD) rfl (⟨(((P.getD i pr0).C).getD k ce0).x.cl, (((P.getD i pr0).C).getD k ce0).x.seq, ((((P.getD i pr0).C).getD k ce0).x.h), Zj ((((P.getD i pr0).C).getD k ce0).S)⟩ : Z1H) rfl fun w106 H107 => ?_
     refine kq _ _ <| Zu <| Z7 <| ztn <| Zl <| zwi 77 ((k : Int) + 1) <| wv 29 (.int .i64 ((k : Int) + 1)) <| Zu ?_
     have H108 := H107.pk [0, 1, 2, 3]
     refine Z6 ?_ _ ⟨(k + 1), (Z2j M2 (⟨(((P.getD i pr0).C).getD k ce0).x.cl, (((P.getD i pr0).C).getD k ce0).x.seq⟩ : NmD) (⟨(((P.getD i pr0).C).getD k ce0).x.cl, (((P.getD i pr0).C).getD k ce0).x.seq, ((((P.getD i pr0).C).getD k ce0).x.h), Zj ((((P.getD i pr0).C).getD k ce0).S)⟩ : Z1H)), rfl, (by omega), (Z1t hM2 (by omega) (ZaB (Zb8 hlg b69 b75 b81) (by have q := b91; simpa using q) b104)), H108, rfl⟩ (by omega)
     exact zs
    refine Z2X _ b104 ?_
    refine Zt <| Z7 <| ztn <| Zl <| zwi 77 ((k : Int) + 1) <| wv 29 (.int .i64 ((k : Int) + 1)) <| Zu ?_
    have H109 := H102.pk [0, 1, 2, 3]
    refine Z6 ?_ _ ⟨(k + 1), M2, rfl, (by omega), (Z1t hM2 (by omega) (Zcu (Zb8 hlg b69 b75 b81) (by have q := b91; simpa using q) b104)), H109, rfl⟩ (by omega)
    exact zs
   refine zda (Z7v) H52 ?_
   intro b110 w111 H112
   have S113 := H112.pk [0, 1, 2, 3, 4]
   refine kq _ _ S113 <| Z4q 7 fun Kq kq => ?_
   refine zdq 40 (Z9p w111 (((P.getD i pr0).C).getD k ce0).x (((P.getD i pr0).C).getD k ce0).sa (((P.getD i pr0).C).getD k ce0).sc ((((P.getD i pr0).C).getD k ce0).S) (ListAt.now H112 0 rfl (ZcP hPo (i := i) (k := k) (by omega) (by omega))) (hsm.at (i := i) (k := k) (by omega) (by omega)).2.1) H112 ?_
   intro w115 H116
   have S118 := H116.pk [0, 1, 2, 3, 4]
   refine kq _ _ S118 <| Z3u 8 rfl (by kernel_rfl) (by kernel_rfl) (by kernel_rfl) (fun _ _ _ h => h) S118 (Zb rfl) (d := 41) (v := (.agg ⟨(Z4e ((((P.getD i pr0).C).getD k ce0).x) (Zj ((((P.getD i pr0).C).getD k ce0).S)))⟩)) rfl (fun _ H' => (by kernel_rfl)) ?_
   refine Z4q 10 fun Kq kq => ?_
   refine Z1z (Z4e ((((P.getD i pr0).C).getD k ce0).x) (Zj ((((P.getD i pr0).C).getD k ce0).S))) H116 5 ?_
   intro w120 H121
   have S123 := H121.pk [0, 1, 2, 3, 4]
   refine kq _ _ S123 <| zhf <| ztn <| Z5 <| zsl <| wv 42 (pt b110 34) <| zw1 43 (.int .u64 (Zj ((((P.getD i pr0).C).getD k ce0).S))) (H121.cell 5 rfl (by kernel_rfl)) <| wv 44 (.int .u64 (last)) <| wv 45 (.bool (decide ((Zj ((((P.getD i pr0).C).getD k ce0).S)) ≤ last))) <| wv 46 (.bool (decide ((Zj ((((P.getD i pr0).C).getD k ce0).S)) ≤ last))) ?_
   refine (ZJ (decide ((Zj ((((P.getD i pr0).C).getD k ce0).S)) ≤ last))).elim (fun b124 => ?_) (fun b124 => ?_)
   ·have g125 := of_decide_eq_true b124
    refine Z06 46 (.bool true) (congrArg Value.bool b124) ?_
    iterate 5 refine wn 4 46 false ?_
    refine wv 52 (.bool true) <| wv 53 (.bool true) ?_
    iterate 4 refine wn 11 53 false ?_
    refine wv 58 (.bool true) <| znt <| Z1X rfl ?_
    refine Z4k <| Z1N <| Z3g <| ztn <| Zl <| zwi 77 ((k : Int) + 1) <| wv 29 (.int .i64 ((k : Int) + 1)) <| Zu ?_
    have H127 := H121.pk [0, 1, 2, 3]
    refine Z6 ?_ _ ⟨(k + 1), M2, rfl, (by omega), (Z1t hM2 (by omega) (Z2C (Zfb b124))), H127, rfl⟩ (by omega)
    exact zs
   have g128 := of_decide_eq_false b124
   refine Z06 46 (.bool false) (congrArg Value.bool b124) ?_
   refine wy 4 46 false 47 (pt b110 34) <| wy 4 46 false 48 (.int .u64 (Zj ((((P.getD i pr0).C).getD k ce0).S))) ?_ (hr := zl1 (H121.cell 5 rfl (by kernel_rfl)))
   refine wy 4 46 false 49 (pt b2 1) <| wy 4 46 false 50 (.int .u64 (tm)) ?_ (hr := zl1 (H121.cell 1 rfl rfl))
   refine wy 4 46 false 51 (.bool (decide ((Zj ((((P.getD i pr0).C).getD k ce0).S)) > tm))) <| wv 52 (.bool (decide ((Zj ((((P.getD i pr0).C).getD k ce0).S)) > tm))) <| wv 53 (.bool (decide ((Zj ((((P.getD i pr0).C).getD k ce0).S)) > tm))) ?_
   refine (ZJ (decide ((Zj ((((P.getD i pr0).C).getD k ce0).S)) > tm))).elim (fun b130 => ?_) (fun b130 => ?_)
   ·have g131 := of_decide_eq_true b130
    refine Z06 53 (.bool true) (congrArg Value.bool b130) ?_
    iterate 4 refine wn 11 53 false ?_
    refine wv 58 (.bool true) <| znt <| Z1X rfl ?_
    refine Z4k <| Z1N <| Z3g <| ztn <| Zl <| zwi 77 ((k : Int) + 1) <| wv 29 (.int .i64 ((k : Int) + 1)) <| Zu ?_
    have H133 := H121.pk [0, 1, 2, 3]
    refine Z6 ?_ _ ⟨(k + 1), M2, rfl, (by omega), (Z1t hM2 (by omega) (Z2C (skip2 b130))), H133, rfl⟩ (by omega)
    exact zs
   have g134 := of_decide_eq_false b130
   refine Z06 53 (.bool false) (congrArg Value.bool b130) ?_
   refine wy 11 53 false 54 (mv) <| wy 11 53 false 55 (pt b110 0) <| wy 11 53 false 56 (.agg ⟨(Z3S ((((P.getD i pr0).C).getD k ce0).x.cl) ((((P.getD i pr0).C).getD k ce0).x.seq))⟩) ?_ (hr := zlN (vs := (Z3S ((((P.getD i pr0).C).getD k ce0).x.cl) ((((P.getD i pr0).C).getD k ce0).x.seq))) (H121.at 5 rfl))
   refine wy 11 53 false 57 (.bool ((Zp LM (⟨(((P.getD i pr0).C).getD k ce0).x.cl, (((P.getD i pr0).C).getD k ce0).x.seq⟩ : NmD)).getD false)) ?_ (hr := ZaD (kt := 59) (et := 4) nmK (by kernel_rfl) (fun w => by kernel_rfl) rfl (⟨(((P.getD i pr0).C).getD k ce0).x.cl, (((P.getD i pr0).C).getD k ce0).x.seq⟩ : NmD) rfl (hLM.now H121 0 rfl) (ZaW Value.bool _ _))
   refine wv 58 (.bool ((Zp LM (⟨(((P.getD i pr0).C).getD k ce0).x.cl, (((P.getD i pr0).C).getD k ce0).x.seq⟩ : NmD)).getD false)) <| znt ?_
   refine (ZJ ((Zp LM (⟨(((P.getD i pr0).C).getD k ce0).x.cl, (((P.getD i pr0).C).getD k ce0).x.seq⟩ : NmD)).getD false)).elim (fun b136 => ?_) (fun b136 => ?_)
   ·refine Z33 _ b136 ?_
    refine Z4k <| Z1N <| Z3g <| ztn <| Zl <| zwi 77 ((k : Int) + 1) <| wv 29 (.int .i64 ((k : Int) + 1)) <| Zu ?_
    have H137 := H121.pk [0, 1, 2, 3]
    refine Z6 ?_ _ ⟨(k + 1), M2, rfl, (by omega), (Z1t hM2 (by omega) (Z2C (skip3 hlg b136))), H137, rfl⟩ (by omega)
    exact zs
   refine Z2X _ b136 ?_
   refine Zt <| ztn <| zsl <| wv 60 (.map (some b6)) <| wv 61 (pt b110 0) <| zwN 62 (Z3S ((((P.getD i pr0).C).getD k ce0).x.cl) ((((P.getD i pr0).C).getD k ce0).x.seq)) (H121.at 5 rfl) <| wv 63 (.tuple #[(.agg ⟨(Z2o ((Zp M2 (⟨(((P.getD i pr0).C).getD k ce0).x.cl, (((P.getD i pr0).C).getD k ce0).x.seq⟩ : NmD)).getD Z2L))⟩), (.bool ((Zp M2 (⟨(((P.getD i pr0).C).getD k ce0).x.cl, (((P.getD i pr0).C).getD k ce0).x.seq⟩ : NmD)).isSome))]) ?_ (hr := Z5j (kt := 59) (et := 63) nmK (by kernel_rfl) Zaw rfl (⟨(((P.getD i pr0).C).getD k ce0).x.cl, (((P.getD i pr0).C).getD k ce0).x.seq⟩ : NmD) rfl (H121.at 2 rfl) (ZaW Z3N _ _) rfl)
   refine wv 59 (.tuple #[(.agg ⟨(Z2o ((Zp M2 (⟨(((P.getD i pr0).C).getD k ce0).x.cl, (((P.getD i pr0).C).getD k ce0).x.seq⟩ : NmD)).getD Z2L))⟩), (.bool ((Zp M2 (⟨(((P.getD i pr0).C).getD k ce0).x.cl, (((P.getD i pr0).C).getD k ce0).x.seq⟩ : NmD)).isSome))]) <| wv 64 (.agg ⟨(Z2o ((Zp M2 (⟨(((P.getD i pr0).C).getD k ce0).x.cl, (((P.getD i pr0).C).getD k ce0).x.seq⟩ : NmD)).getD Z2L))⟩) <| wv 65 (.bool ((Zp M2 (⟨(((P.getD i pr0).C).getD k ce0).x.cl, (((P.getD i pr0).C).getD k ce0).x.seq⟩ : NmD)).isSome)) <| zwd fun Kq kq => zda (Z7v) H121 fun b139 w140 H141 => ?_
   refine kq _ _ <| zwd fun Kq kq => Z1z (Z2o ((Zp M2 (⟨(((P.getD i pr0).C).getD k ce0).x.cl, (((P.getD i pr0).C).getD k ce0).x.seq⟩ : NmD)).getD Z2L)) H141 6 fun w143 H144 => ?_
   refine kq _ _ <| wv 14 (.bool ((Zp M2 (⟨(((P.getD i pr0).C).getD k ce0).x.cl, (((P.getD i pr0).C).getD k ce0).x.seq⟩ : NmD)).isSome)) <| Z0y <| wv 66 (.bool ((Zp M2 (⟨(((P.getD i pr0).C).getD k ce0).x.cl, (((P.getD i pr0).C).getD k ce0).x.seq⟩ : NmD)).isSome)) <| wv 67 (.bool (!((Zp M2 (⟨(((P.getD i pr0).C).getD k ce0).x.cl, (((P.getD i pr0).C).getD k ce0).x.seq⟩ : NmD)).isSome))) <| wv 68 (.bool (!((Zp M2 (⟨(((P.getD i pr0).C).getD k ce0).x.cl, (((P.getD i pr0).C).getD k ce0).x.seq⟩ : NmD)).isSome))) ?_
   refine (ZJ (!((Zp M2 (⟨(((P.getD i pr0).C).getD k ce0).x.cl, (((P.getD i pr0).C).getD k ce0).x.seq⟩ : NmD)).isSome))).elim (fun b146 => ?_) (fun b146 => ?_)
   ·have g147 := ZS b146
    refine Z06 68 (.bool true) (congrArg Value.bool b146) ?_
    iterate 3 refine wn 2 68 false ?_
    refine wv 72 (.bool true) <| znt <| Z1X rfl ?_
    refine Zl <| wv 73 (.map (some b6)) <| wv 74 (pt b110 0) <| zwN 75 (Z3S ((((P.getD i pr0).C).getD k ce0).x.cl) ((((P.getD i pr0).C).getD k ce0).x.seq)) (H144.at 5 rfl) <| zwN 76 (Z4e ((((P.getD i pr0).C).getD k ce0).x) (Zj ((((P.getD i pr0).C).getD k ce0).S))) (H144.at 5 rfl) <| zwd fun Kq kq => Z0F (kt := 59) (et := 63) rfl H144 2 rfl nmK (by kernel_rfl) rfl (⟨(((P.getD i pr0).C).getD k ce0).x.cl, (((P.getD i pr0).C).getD k ce0).x.seq⟩ : NmD) rfl (⟨(((P.getD i pr0).C).getD k ce0).x.cl, (((P.getD i pr0).C).getD k ce0).x.seq, ((((P.getD i pr0).C).getD k ce0).x.h), Zj ((((P.getD i pr0).C).getD k ce0).S)⟩ : Z1H) rfl fun w150 H151 => ?_
    refine kq _ _ <| Zu <| Z7 <| ztn <| Zl <| zwi 77 ((k : Int) + 1) <| wv 29 (.int .i64 ((k : Int) + 1)) <| Zu ?_
    have H152 := H151.pk [0, 1, 2, 3]
    refine Z6 ?_ _ ⟨(k + 1), (Z2j M2 (⟨(((P.getD i pr0).C).getD k ce0).x.cl, (((P.getD i pr0).C).getD k ce0).x.seq⟩ : NmD) (⟨(((P.getD i pr0).C).getD k ce0).x.cl, (((P.getD i pr0).C).getD k ce0).x.seq, ((((P.getD i pr0).C).getD k ce0).x.h), Zj ((((P.getD i pr0).C).getD k ce0).S)⟩ : Z1H)), rfl, (by omega), (Z1t hM2 (by omega) (Z6M (Zb8 hlg b124 b130 b136) (Zd3 (by have q := b146; simpa using q)))), H152, rfl⟩ (by omega)
    exact zs
   have g153 := Zr b146
   refine Z06 68 (.bool false) (congrArg Value.bool b146) ?_
   refine wy 2 68 false 69 (.agg ⟨(Z4e ((((P.getD i pr0).C).getD k ce0).x) (Zj ((((P.getD i pr0).C).getD k ce0).S)))⟩) ?_ (hr := Z42 (vs := (Z4e ((((P.getD i pr0).C).getD k ce0).x) (Zj ((((P.getD i pr0).C).getD k ce0).S)))) rfl (by kernel_rfl) (by kernel_rfl) (Nat.le_of_ble_eq_true (by kernel_rfl)) (H144.at 5 rfl) (by kernel_rfl))
   refine wy 2 68 false 70 (.agg ⟨(Z2o ((Zp M2 (⟨(((P.getD i pr0).C).getD k ce0).x.cl, (((P.getD i pr0).C).getD k ce0).x.seq⟩ : NmD)).getD Z2L))⟩) ?_ (hr := Z42 (vs := (Z2o ((Zp M2 (⟨(((P.getD i pr0).C).getD k ce0).x.cl, (((P.getD i pr0).C).getD k ce0).x.seq⟩ : NmD)).getD Z2L))) rfl (by kernel_rfl) (by kernel_rfl) (Nat.le_of_ble_eq_true (by kernel_rfl)) (H144.at 6 rfl) (by kernel_rfl))
   refine Z5I (Z11 2 68 false rfl (by kernel_rfl) rfl (by kernel_rfl)) (fun Kq kq => ?_)
   refine zdq 71 (Z8F w143 (⟨(((P.getD i pr0).C).getD k ce0).x.cl, (((P.getD i pr0).C).getD k ce0).x.seq, ((((P.getD i pr0).C).getD k ce0).x.h), Zj ((((P.getD i pr0).C).getD k ce0).S)⟩ : Z1H) ((Zp M2 (⟨(((P.getD i pr0).C).getD k ce0).x.cl, (((P.getD i pr0).C).getD k ce0).x.seq⟩ : NmD)).getD Z2L)) H144 ?_
   intro w156 H157
   refine kq _ _ <| wv 72 (.bool (Z3t (⟨(((P.getD i pr0).C).getD k ce0).x.cl, (((P.getD i pr0).C).getD k ce0).x.seq, ((((P.getD i pr0).C).getD k ce0).x.h), Zj ((((P.getD i pr0).C).getD k ce0).S)⟩ : Z1H) ((Zp M2 (⟨(((P.getD i pr0).C).getD k ce0).x.cl, (((P.getD i pr0).C).getD k ce0).x.seq⟩ : NmD)).getD Z2L))) <| znt ?_
   refine (ZJ (Z3t (⟨(((P.getD i pr0).C).getD k ce0).x.cl, (((P.getD i pr0).C).getD k ce0).x.seq, ((((P.getD i pr0).C).getD k ce0).x.h), Zj ((((P.getD i pr0).C).getD k ce0).S)⟩ : Z1H) ((Zp M2 (⟨(((P.getD i pr0).C).getD k ce0).x.cl, (((P.getD i pr0).C).getD k ce0).x.seq⟩ : NmD)).getD Z2L))).elim (fun b159 => ?_) (fun b159 => ?_)
   ·refine Z33 _ b159 ?_
    refine Zl <| wv 73 (.map (some b6)) <| wv 74 (pt b110 0) <| zwN 75 (Z3S ((((P.getD i pr0).C).getD k ce0).x.cl) ((((P.getD i pr0).C).getD k ce0).x.seq)) (H157.at 5 rfl) <| zwN 76 (Z4e ((((P.getD i pr0).C).getD k ce0).x) (Zj ((((P.getD i pr0).C).getD k ce0).S))) (H157.at 5 rfl) <| zwd fun Kq kq => Z0F (kt := 59) (et := 63) rfl H157 2 rfl nmK (by kernel_rfl) rfl (⟨(((P.getD i pr0).C).getD k ce0).x.cl, (((P.getD i pr0).C).getD k ce0).x.seq⟩ : NmD) rfl (⟨(((P.getD i pr0).C).getD k ce0).x.cl, (((P.getD i pr0).C).getD k ce0).x.seq, ((((P.getD i pr0).C).getD k ce0).x.h), Zj ((((P.getD i pr0).C).getD k ce0).S)⟩ : Z1H) rfl fun w161 H162 => ?_
    refine kq _ _ <| Zu <| Z7 <| ztn <| Zl <| zwi 77 ((k : Int) + 1) <| wv 29 (.int .i64 ((k : Int) + 1)) <| Zu ?_
    have H163 := H162.pk [0, 1, 2, 3]
    refine Z6 ?_ _ ⟨(k + 1), (Z2j M2 (⟨(((P.getD i pr0).C).getD k ce0).x.cl, (((P.getD i pr0).C).getD k ce0).x.seq⟩ : NmD) (⟨(((P.getD i pr0).C).getD k ce0).x.cl, (((P.getD i pr0).C).getD k ce0).x.seq, ((((P.getD i pr0).C).getD k ce0).x.h), Zj ((((P.getD i pr0).C).getD k ce0).S)⟩ : Z1H)), rfl, (by omega), (Z1t hM2 (by omega) (ZaB (Zb8 hlg b124 b130 b136) (by have q := b146; simpa using q) b159)), H163, rfl⟩ (by omega)
    exact zs
   refine Z2X _ b159 ?_
   refine Zt <| Z7 <| ztn <| Zl <| zwi 77 ((k : Int) + 1) <| wv 29 (.int .i64 ((k : Int) + 1)) <| Zu ?_
   have H164 := H157.pk [0, 1, 2, 3]
   refine Z6 ?_ _ ⟨(k + 1), M2, rfl, (by omega), (Z1t hM2 (by omega) (Zcu (Zb8 hlg b124 b130 b136) (by have q := b146; simpa using q) b159)), H164, rfl⟩ (by omega)
   exact zs
  have g165 := of_decide_eq_false b35
  refine Z2X _ b35 ?_
  refine zxb <| Z7 <| ztn <| Zl <| zwi 78 ((i : Int) + 1) <| wv 22 (.int .i64 ((i : Int) + 1)) <| Zu ?_
  have H167 := H32.pk [0, 1, 2]
  refine Z6 ?_ _ ⟨(i + 1), M2, rfl, (by omega), (by rw [Ze1 (by omega), hM2, List.take_of_length_le (l := (P.getD i pr0).C) (by omega)]), H167, rfl⟩ (by omega)
  exact zs
 have g168 := of_decide_eq_false b14
 refine Z2X _ b14 ?_
 refine zxb <| ztn <| Z5 ?_
 have hiP : i = P.length := by omega
 have hMf : M = Z7i last tm lg (P.flatMap (·.C)) := by rw [hM, hiP, List.take_length]
 have hok : EOk M := by rw [hMf]; exact Z82 hsm.all
 have hlM := hok.len
 refine Zl <| wv 15 (.slice none 0 0) <| znt <| Z5 <| zsl <| wv 79 (.map (some b6)) <| zwd fun Kq kq => Zck (kt := 59) (et := 63) rfl H11 2 rfl (by kernel_rfl) rfl fun r171 w172 H173 => ?_
 refine kq _ _ <| znt <| Za ?_
 have H174 := H173.addNil 63 35
 refine Zw [15, 17, 81, 82, 83, 84, 85, 86, 87, 88] (fun F_ W_ m_ => ∃ (seen rest : Zan) (oa : Option Addr) (oc : Nat) (O : List Z1H), F_ 15 = (.slice oa O.length oc) ∧ (M.Perm (seen ++ rest)) ∧ (O = seen.map (·.2)) ∧ Sat w [Z3 w (fun _ => False), Z0 b2 47 (Z9q ep tm pa P.length pc vo vt), ZcT r171 b6 nmV Z3N M seen, (Zf3 oa O oc)] W_ ∧ m_ = rest.length) _ ⟨[], M, none, 0, [], (by first | rfl | go_num), (List.Perm.refl _), rfl, H174, rfl⟩ ?_
 rintro g175 w176 _ ⟨seen, rest, oa, oc, O, v178, hperm, hO, H177, rfl⟩
 refine Zd 15 _ v178 ?_
 have hsl : seen.length ≤ 12 := by have h1 := hperm.length_eq; rw [List.length_append] at h1; omega
 have hsm2 : O.length ≤ 12 := by rw [hO, List.length_map]; exact hsl
 refine zsl <| zwd fun Kq kq => ?_
 refine ZeR rfl H177 2 rfl rfl ?_ ?_
 ·intro p181
  refine kq _ _ <| wv 82 (.bool false) <| znt <| Z5 <| Z2O rfl ?_
  refine zxb <| ztn <| zsl <| wv 89 (.slice oa O.length oc) <| zwd fun Kq kq => zdc 90 (Z9w w176 oa oc O (H177.fn [3]) (by omega)) ?_
  rintro _ w183 ⟨D184, rfl, p185, s186, T187⟩
  have H188 := H177.tl [(Zf3 oa D184 oc)] [3] [0, 1, 2] T187 [1, 2, 3, 0]
  refine ⟨_, rfl, ?_⟩
  refine kq _ _ <| znt <| Z5 <| Zd 15 (.slice oa D184.length oc) (show ((.slice oa O.length oc) : Value) = _ by rw [p185.length_eq]) ?_
  refine Zl <| wv 91 (.slice oa D184.length oc) <| wv 6 (.slice oa D184.length oc) <| znt <| Zq <| ze1 (.slice oa D184.length oc) ?_
  exact ⟨oa, oc, D184, rfl, by rw [← hlg, ← hMf]; exact (hO ▸ p185).trans (p181.map _).symm, s186, H188.at 3 rfl, H188.upd 0 rfl [] (fun _ h => h.elim), H188.fresh 0 rfl (fun _ h => h) 3 rfl rfl⟩
 intro y189 t190 w191 p192 H193
 refine kq _ _ <| wv 82 (.bool true) <| znt <| Z5 <| Z1X rfl ?_
 refine Zt <| ztn <| Za <| zsl <| wv 83 (.tuple #[(.agg ⟨(Z3S y189.1.cl y189.1.sq)⟩), (.agg ⟨(Z2o y189.2)⟩)]) ?_ (hr := ZfA (H193.at 2 rfl) rfl)
 refine wv 84 (.agg ⟨(Z2o y189.2)⟩) <| zwd fun Kq kq => zda (Z7v) H193 fun b195 w196 H197 => ?_
 refine kq _ _ <| zwd fun Kq kq => Z1z (Z2o y189.2) H197 4 fun w199 H200 => ?_
 refine kq _ _ <| znt <| Zl <| wv 85 (.slice oa O.length oc) <| zwN 86 (Z2o y189.2) (H200.at 4 rfl) <| zwd fun Kq kq => Z2w 63 35 56 (.agg ⟨(Z7v)⟩) [(0, (.agg ⟨(Z2o y189.2)⟩))] (Z2o y189.2) H200 fun b203 w204 H205 => ?_
 have H206 := H205.ct 5 rfl (Zc 63 35 (.slice (some ⟨b203, 0, none⟩) 1 1) 1 ([y189.2].flatMap Z1q)) (by rw [(show ((Z2o y189.2) : List Value) = [y189.2].flatMap Z1q by kernel_rfl)])
 refine kq _ _ <| zwd fun Kq kq => Z00 (T := 56) (e := 63) (size := 35) (bytes := 56) rfl H206 (by kernel_rfl) 3 5 rfl rfl rfl rfl (ZX Z1q Z5N [y189.2]) (by omega) (by omega) fun v208 w209 H210 => ?_
 have H213 := H210.ct 3 rfl (Zc 63 35 v208 ((O ++ [y189.2]).length) ((O ++ [y189.2]).flatMap Z1q)) ja
 obtain ⟨a211, c212, rfl⟩ := Z2 (H213.at 3 rfl)
 refine kq _ _ <| wv 15 (.slice a211 ((O ++ [y189.2]).length) c212) <| Zu <| Z7 ?_
 have H214 := H213.pk [0, 1, 2, 3]
 refine Z6 ?_ _ ⟨(seen ++ [y189]), t190, a211, c212, (O ++ [y189.2]), rfl, p192, (by rw [hO, List.map_append]; rfl), H214, rfl⟩ (by have h1 := hperm.length_eq; have h2 := p192.length_eq; simp only [List.length_append, List.length_cons, List.length_nil] at h1 h2; omega)
 exact zs
end Go.Proofs.YtenihpghfdcpkaaGreat
