/- WHAT IS PROVED: contracts and plain laws of EnA, CloneS, Copy12, CloneBt, CloneD, MkD12, UniM, LaidP, Fst12. Conditions: stated with each. -/
import Derived.Shelf.SlicesE.Clone
import Derived.Test.YtenihpghfdcpkaaGreatT03
import Derived.Test.YtenihpghfdcpkaaGreatT04
import Derived.Test.YtenihpghfdcpkaaGreatT05
import Derived.Test.YtenihpghfdcpkaaGreatT06
import Derived.Test.YtenihpghfdcpkaaGreatT08
import Derived.Test.YtenihpghfdcpkaaGreatT10
import Derived.Test.YtenihpghfdcpkaaGreatT15
import Derived.Test.YtenihpghfdcpkaaGreatT16
import Derived.Test.YtenihpghfdcpkaaGreatT18
set_option maxHeartbeats 4000000
set_option maxRecDepth 100000
namespace Go.Proofs.YtenihpghfdcpkaaGreat
open Go.RowKit
abbrev kEnA_1 (p0 : Int) (p1 : Int) : List Value := ([(.int .i64 p0), (.int .i64 p1)] : List Value)
theorem rLess_any (w : World) (a b c d : Int) :
  Calls Tryz.prog 27 #[(.agg ⟨([(.int .i64 (a)), (.int .i64 (b))] : List Value)⟩), (.agg ⟨([(.int .i64 (c)), (.int .i64 (d))] : List Value)⟩)] w fun e w' => e = .returned (.bool (decide (a < c) || (decide (a = c) && decide (b < d)))) ∧ Upd [] w w' := by
 have H := Sat.start0 w
 refine calls_fr Tryz.func27 rfl 24 rfl (Nat.le_of_ble_eq_true rfl) ?_
 refine zsl <| zwd fun Kq kq => zdb (kEnA_1 a b) H fun b2 w3 H4 => ?_
 refine kq _ _ <| zwd fun Kq kq => zdb (kEnA_1 c d) H4 fun b6 w7 H8 => ?_
 refine kq _ _ <| wv 4 (.bool false) <| znsl <| wv 5 (pt b2 0) <| zw1 6 (.int .i64 (a)) (H8.cell 1 rfl rfl) <| wv 7 (pt b6 0) <| zw1 8 (.int .i64 (c)) (H8.cell 2 rfl rfl) <| wv 9 (.bool (decide (a < c))) <| wv 10 (.bool (decide (a < c))) ?_
 refine (bsplit (decide (a < c))).elim (fun b9 => ?_) (fun b9 => ?_)
 ·have g10 := of_decide_eq_true b9
  refine wl_know 10 (.bool true) (congrArg Value.bool b9) ?_
  iterate 6 refine wn 5 10 false ?_
  iterate 5 refine wu 11 16 true ?_
  refine wn 5 10 false ?_
  refine wv 23 (.bool true) <| wv 4 (.bool true) <| znt <| w_ret <| ze1 (.bool true) ?_
  exact ⟨by simp [b9], H8.upd 0 rfl [] (fun _ h => h.elim)⟩
 have g10 := of_decide_eq_false b9
 refine wl_know 10 (.bool false) (congrArg Value.bool b9) ?_
 refine wy 5 10 false 11 (pt b2 0) <| wy 5 10 false 12 (.int .i64 (a)) ?_ (hr := zl1 (H8.cell 1 rfl rfl))
 refine wy 5 10 false 13 (pt b6 0) <| wy 5 10 false 14 (.int .i64 (c)) ?_ (hr := zl1 (H8.cell 2 rfl rfl))
 refine wy 5 10 false 15 (.bool (decide (a = c))) <| wy 5 10 false 16 (.bool (decide (a = c))) ?_
 refine (bsplit (decide (a = c))).elim (fun b14 => ?_) (fun b14 => ?_)
 ·have g15 := of_decide_eq_true b14
  refine wl_know 16 (.bool true) (congrArg Value.bool b14) ?_
  refine wy 11 16 true 17 (pt b2 1) <| wy 11 16 true 18 (.int .i64 (b)) ?_ (hr := zl1 (H8.cell 1 rfl rfl))
  refine wy 11 16 true 19 (pt b6 1) <| wy 11 16 true 20 (.int .i64 (d)) ?_ (hr := zl1 (H8.cell 2 rfl rfl))
  refine wy 11 16 true 21 (.bool (decide (b < d))) <| wy 5 10 false 22 (.bool (decide (b < d))) <| wv 23 (.bool (decide (b < d))) <| wv 4 (.bool (decide (b < d))) <| znt <| w_ret <| ze1 (.bool (decide (b < d))) ?_
  exact ⟨by simp [b9, b14], H8.upd 0 rfl [] (fun _ h => h.elim)⟩
 have g17 := of_decide_eq_false b14
 refine wl_know 16 (.bool false) (congrArg Value.bool b14) ?_
 iterate 5 refine wn 11 16 true ?_
 refine wy 5 10 false 22 (.bool false) <| wv 23 (.bool false) <| wv 4 (.bool false) <| znt <| w_ret <| ze1 (.bool false) ?_
 exact ⟨by simp [b9, b14], H8.upd 0 rfl [] (fun _ h => h.elim)⟩
def cloneSL_ren : Go.Shelf.Ren := ⟨fun | 41 => 121 | n => n, fun | 22 => 74 | 23 => 149 | 4 => 4 | n => n, fun | n => n⟩
theorem cloneSL : Go.Proofs.SlLaysE0.n41 Tryz.prog cloneSL_ren := {
 mixed := by kernel_rfl,
 f41 := ⟨Tryz.f121.name, by decide, Tryz.func121.trans (congrArg some (by kernel_rfl))⟩,
 t4 := Tryz.underlying4,
 a4 := Tryz.isAgg4,
 z4 := Tryz.sizeOf4,
 v4 := Tryz.zeroValue4,
 t22 := Tryz.underlying74,
 a22 := Tryz.isAgg74,
 z22 := Tryz.sizeOf74,
 v22 := Tryz.zeroValue74 }
theorem cloneS_any (w : World) (v : Value) (s : List StampD) (hs : (rowC 149 38 v s.length (s.flatMap encSt)).ok w) (hl : s.length ≤ 1000) : Calls Tryz.prog 121 #[v] w fun e w' => ∃ u, e = .returned u ∧ (rowC 149 38 u s.length (s.flatMap encSt)).ok w' ∧ Upd [] w w' ∧ ∀ b, (rowC 149 38 u s.length (s.flatMap encSt)).fp b → w.heap.size ≤ b := by
 have hfl : (s.flatMap encSt).length = s.length * 38 := flat_len encSt 38 encSt_len s
 obtain ⟨i, z, _, h1, h2, h3, h4, h5, h6⟩ := rowTy_at (P := Tryz.prog) (T := 74) (e := 149) (size := 38) (bytes := 80) (by kernel_rfl)
 have hs' := hs
 rcases hs.2 with ⟨rfl, h0⟩ | ⟨g, c, cur, rfl, _⟩
 ·obtain rfl := List.eq_nil_of_length_eq_zero h0
  exact (AnyE.slices_Clone_nil (P := Tryz.prog) cloneSL 0 0 w).mono fun e w' ⟨he, hw⟩ => ⟨_, he, World.ownsRow_nil _ 0 _ _, hw ▸ Upd.refl _ _, fun b hb => by simp [rowC, Value.ownBlock] at hb⟩
 ·refine (AnyE.slices_Clone (P := Tryz.prog) cloneSL i z 38 80 h1 h2 h3 h4 h5 h6 Tryz.sizeOf149 g 0 s.length c (s.flatMap encSt) w hfl (by unfold maxLen; omega) (by omega) (fun j u hu => by rw [Nat.zero_add]; exact row_cell hs' rfl hu) (fun u hu => List.all_eq_true.1 (flat_one encSt encSt_one s) u hu)).mono fun e w' ⟨v', he, hr, _, hb⟩ => ⟨v', he, ?_, Below.upd hb, ?_⟩
  ·refine ⟨hr.1, ?_⟩
   rcases hr.2 with h | ⟨g', cap, cur', e1, _, r⟩
   ·exact .inl h
   ·exact .inr ⟨g', cap, cur', e1, Nat.zero_le _, r⟩
  ·intro b hb2
   rcases hr.2 with ⟨rfl, _⟩ | ⟨g', cap, cur', rfl, hge, _⟩
   ·simp [rowC, Value.ownBlock] at hb2
   ·simp only [rowC, Value.ownBlock, Option.some.injEq] at hb2; omega
abbrev kCopy12_0 (p0 : CommitD) (p1 : Option Addr) (p2 : Nat) (p3 : Nat) : List Value := ([(.int .i64 p0.cl), (.int .i64 p0.seq)] : List Value) ++ hc p0.h ++ ([(.int .i64 p0.len), (.int .i64 p0.sb), (.int .i64 p0.sm), (.slice p1 p2 p3)] : List Value)
abbrev kCopy12_1 : List Value := ([(.int .i64 (0)), (.int .i64 (0))] : List Value) ++ hc hash0 ++ ([(.int .i64 (0)), (.int .i64 (0)), (.int .i64 (0)), (.slice none 0 0)] : List Value)
abbrev kCopy12_2 (p0 : Option Addr) (p1 : List StampD) (p2 : Nat) : Ck := rowC 149 38 (.slice p0 p1.length p2) p1.length (p1.flatMap encSt)
abbrev kCopy12_3 (p0 : PrR) : List Value := ([(.int .i64 p0.r), (.int .i64 p0.e), (.int .u64 p0.f), (.slice p0.ca p0.C.length p0.cc), (.int .i64 p0.sb), (.int .i64 p0.sm)] : List Value)
abbrev kCopy12_4 : List Value := ([(.int .i64 (0)), (.int .i64 (0)), (.int .u64 (0)), (.slice none 0 0), (.int .i64 (0)), (.int .i64 (0))] : List Value)
abbrev kCopy12_5 (p0 : Option Addr) (p1 : List CeR) (p2 : Nat) : Ck := rowC 76 38 (.slice p0 p1.length p2) p1.length (p1.flatMap encCe)
abbrev kCopy12_6 (p0 : CommitD) (p1 : CeR) (p2 : Nat) : List Value := ([(.int .i64 p0.cl), (.int .i64 p0.seq)] : List Value) ++ hc p0.h ++ ([(.int .i64 p0.len), (.int .i64 p0.sb), (.int .i64 p0.sm), (.slice p1.sa p2 p1.sc)] : List Value)
abbrev kCopy12_7 (p0 : PrR) (p1 : Option Addr) (p2 : Nat) (p3 : Nat) : List Value := ([(.int .i64 p0.r), (.int .i64 p0.e), (.int .u64 p0.f), (.slice p1 p2 p3), (.int .i64 p0.sb), (.int .i64 p0.sm)] : List Value)
theorem certCopy_any (w : World) (x : CommitD) (sa : Option Addr) (sc : Nat) (S : List StampD) (hrow : (rowC 149 38 (.slice sa S.length sc) S.length (S.flatMap encSt)).ok w) (hlS : S.length ≤ 1000) :
  Calls Tryz.prog 93 #[(.agg ⟨(([(.int .i64 (x.cl)), (.int .i64 (x.seq))] : List Value) ++ hc x.h ++ ([(.int .i64 (x.len)), (.int .i64 (x.sb)), (.int .i64 (x.sm)), ((.slice sa S.length sc))] : List Value))⟩)] w fun e w' => ∃ u, e = .returned (.agg ⟨encCo x ++ [u]⟩) ∧ (rowC 149 38 u S.length (S.flatMap encSt)).ok w' ∧ Upd [] w w' ∧ ∀ q_, (rowC 149 38 u S.length (S.flatMap encSt)).fp q_ → w.heap.size ≤ q_ := by
 have H := Sat.start0 w
 refine calls_fr Tryz.func93 rfl 8 rfl (Nat.le_of_ble_eq_true rfl) ?_
 refine zsl <| zwd fun Kq kq => zdb (kCopy12_0 x sa S.length sc) H fun b2 w3 H4 => ?_
 refine kq _ _ <| zwd fun Kq kq => zda (kCopy12_1) H4 fun b6 w7 H8 => ?_
 refine kq _ _ <| znsl <| wv 3 (pt b2 37) <| zw1 4 ((.slice sa S.length sc)) (H8.cell 1 rfl (by kernel_rfl)) <| zwd fun Kq kq => zdc 5 (cloneS_any w7 ((.slice sa S.length sc)) S (H8.roCk 0 rfl hrow (fun _ _ h => h)) hlS) ?_
 rintro _ w10 ⟨u11, rfl, k12, p13, q14⟩
 have H15 := H8.addU p13 k12 q14
 obtain ⟨a16, c17, rfl⟩ := ownsRow_shape (H15.at 3 rfl)
 refine ⟨_, rfl, ?_⟩
 refine kq _ _ <| wv 6 (pt b2 37) <| zwd fun Kq kq => zds ([(.slice a16 S.length c17)] : List Value) (kCopy12_0 x a16 S.length c17) H15 1 fun w19 H20 => ?_
 refine kq _ _ <| znsl <| zwN 7 (kCopy12_0 x a16 S.length c17) (H20.at 1 rfl) <| zwd fun Kq kq => zds1 (kCopy12_0 x a16 S.length c17) H20 2 fun w23 H24 => ?_
 refine kq _ _ <| znt <| w_ret <| end1 rfl (res_cellN (vs := (kCopy12_0 x a16 S.length c17)) rfl (by kernel_rfl) (by kernel_rfl) (Nat.le_of_ble_eq_true (by kernel_rfl)) (H24.at 2 rfl) (by kernel_rfl)) ?_
 exact ⟨_, rfl, H24.at 3 rfl, H24.upd 0 rfl [] (fun _ h => h.elim), H24.fresh 0 rfl (fun _ h => h) 3 rfl rfl⟩
def CoC (C D : List CeR) : Prop := D.map (fun c => (c.x, c.S)) = C.map (fun c => (c.x, c.S))
theorem coC_len {C D : List CeR} (h : CoC C D) : D.length = C.length := by
 have q := congrArg List.length h
 simpa using q
theorem coC_step {C D : List CeR} {i : Nat} {sa : Option Addr} {sc : Nat} (h : CoC (C.take i) D) (hi : i < C.length) : CoC (C.take (i + 1)) (D ++ [⟨(C.getD i ce0).x, sa, sc, (C.getD i ce0).S⟩]) := by
 unfold CoC at h ⊢
 rw [take_succ_C hi, List.map_append, List.map_append, h]; rfl
theorem lockCopy_any (w : World) (p : PrR) (hC : ListAt encCe 38 w (.slice p.ca p.C.length p.cc) p.C) (hlC : p.C.length ≤ 64) (hst : ∀ i, i < p.C.length → (stC (p.C.getD i ce0)).ok w) (hlS : ∀ i, i < p.C.length → (p.C.getD i ce0).S.length ≤ 1000) :
  Calls Tryz.prog 47 #[(.agg ⟨([(.int .i64 (p.r)), (.int .i64 (p.e)), (.int .u64 (p.f)), (.slice p.ca p.C.length p.cc), (.int .i64 (p.sb)), (.int .i64 (p.sm))] : List Value)⟩)] w fun e w' => ∃ (da : Option Addr) (dc : Nat) (D : List CeR) (B : List Ck), e = .returned (.agg ⟨encPr ⟨p.r, p.e, p.f, da, dc, p.sb, p.sm, D⟩⟩) ∧ CoC p.C D ∧ (∀ c ∈ D, stC c ∈ B) ∧ (sepC [rowC 76 38 (.slice da D.length dc) D.length (D.flatMap encCe), bagC B]).ok w' ∧ Upd [] w w' ∧ ∀ q_, (sepC [rowC 76 38 (.slice da D.length dc) D.length (D.flatMap encCe), bagC B]).fp q_ → w.heap.size ≤ q_ := by
 have H := Sat.start0 w
 refine calls_fr Tryz.func47 rfl 22 rfl (Nat.le_of_ble_eq_true rfl) ?_
 refine zsl <| zwd fun Kq kq => zdb (kCopy12_3 p) H fun b2 w3 H4 => ?_
 refine kq _ _ <| zwd fun Kq kq => zda (kCopy12_4) H4 fun b6 w7 H8 => ?_
 refine kq _ _ <| znsl <| wv 3 (.slice none 0 0) <| znt <| w_seq <| zsl <| wv 6 (pt b2 3) <| zw1 7 (.slice p.ca p.C.length p.cc) (H8.cell 1 rfl rfl) <| wv 8 (.int .i64 ((p.C.length : Int))) <| wv 9 (.int .i64 (0)) ?_
 refine znt <| w_block ?_
 have H9 := H8.addNil 76 38
 have H10 := H9.bag0
 refine wp_round ([3, 5] ++ List.range' 9 10) (fun F_ W_ m_ => ∃ (i : Nat) (da : Option Addr) (dc : Nat) (D : List CeR) (B : List Ck), F_ 9 = (.int .i64 ((i : Int))) ∧ F_ 3 = (.slice da D.length dc) ∧ (i ≤ p.C.length) ∧ (CoC (p.C.take i) D) ∧ (∀ c ∈ D, stC c ∈ B) ∧ Sat w [restC w (fun _ => False), cellC b2 71 (kCopy12_3 p), cellC b6 71 (kCopy12_4), (kCopy12_5 da D dc), bagC B] W_ ∧ m_ = p.C.length - i) _ ⟨0, none, 0, [], [], (show ((.int .i64 (0)) : Value) = _ by first | rfl | go_num), (by first | rfl | go_num), (Nat.zero_le _), rfl, (fun c hm => by simp at hm), H10, rfl⟩ ?_
 rintro g11 w12 _ ⟨i, da, dc, D, B, v14, v15, hi, hco, hin, H13, rfl⟩
 refine wp_know 9 _ v14 ?_
 refine wp_know 3 _ v15 ?_
 have hDl := coC_len hco
 rw [List.length_take] at hDl
 refine zsl <| wv 10 (.bool (decide ((i : Int) < (p.C.length : Int)))) <| znt <| w_seq ?_
 refine (bsplit (decide ((i : Int) < (p.C.length : Int)))).elim (fun b17 => ?_) (fun b17 => ?_)
 ·have g18 := of_decide_eq_true b17
  refine zwkt _ b17 ?_
  refine w_skip <| ztn <| w_seq <| w_block <| zsl ?_
  obtain ⟨g20, o21, c22, e23, R24⟩ := SliceOf.atD hC ce0 (show i < p.C.length by omega)
  refine wv 11 (.pointer (some ⟨g20, o21 + ((i : Int)).toNat * 38, none⟩)) ?_ (hr := e_indexAddrW (E := 76) (by kernel_rfl) (by kernel_rfl) (Nat.le_of_ble_eq_true rfl) rfl e23 rfl (by omega) (by omega))
  refine wv 12 (.agg ⟨(kCopy12_6 ((p.C.getD i ce0).x) (p.C.getD i ce0) ((p.C.getD i ce0).S.length))⟩) ?_ (hr := e_loadRun (vs := (kCopy12_6 ((p.C.getD i ce0).x) (p.C.getD i ce0) ((p.C.getD i ce0).S.length))) rfl (by kernel_rfl) (by kernel_rfl) (Nat.le_of_ble_eq_true (by kernel_rfl)) (H13.runR 0 rfl (cells_run R24 0 (by kernel_rfl) (show o21 + ((i : Int)).toNat * 38 = o21 + i * 38 + 0 by omega)) (fun h => h)))
  refine zwd fun Kq kq => ?_
  refine zda (kCopy12_1) H13 ?_
  intro b26 w27 H28
  refine kq _ _ ?_
  clear kq Kq
  refine zwd fun Kq kq => ?_
  refine zds1 (kCopy12_6 ((p.C.getD i ce0).x) (p.C.getD i ce0) ((p.C.getD i ce0).S.length)) H28 5 ?_
  intro w30 H31
  refine kq _ _ ?_
  clear kq Kq
  apply znt
  apply w_lit
  refine wv 13 (.slice da D.length dc) ?_
  refine zwN 14 (kCopy12_6 ((p.C.getD i ce0).x) (p.C.getD i ce0) ((p.C.getD i ce0).S.length)) (H31.at 5 rfl) ?_
  refine zwd fun Kq kq => ?_
  refine zdc 15 (certCopy_any w30 (p.C.getD i ce0).x (p.C.getD i ce0).sa (p.C.getD i ce0).sc (p.C.getD i ce0).S (H31.roCk 0 rfl (hst i (by omega)) (fun _ _ h => h)) (hlS i (by omega))) ?_
  rintro _ w34 ⟨u35, rfl, k36, p37, q38⟩
  have H39 := H31.addU p37 k36 q38
  obtain ⟨a40, c41, rfl⟩ := ownsRow_shape (H39.at 6 rfl)
  refine ⟨_, rfl, ?_⟩
  refine kq _ _ <| zwd fun Kq kq => zdbs 76 38 96 (.agg ⟨(kCopy12_1)⟩) [(0, (.agg ⟨(kCopy12_0 ((p.C.getD i ce0).x) a40 (((p.C.getD i ce0).S).length) c41)⟩))] (kCopy12_0 ((p.C.getD i ce0).x) a40 (((p.C.getD i ce0).S).length) c41) H39 ?_
  intro b43 w44 (H45 : Sat w [restC w (fun _ => False), cellC b2 71 (kCopy12_3 p), cellC b6 71 (kCopy12_4), (kCopy12_5 da D dc), bagC B, cellC b26 76 (kCopy12_6 ((p.C.getD i ce0).x) (p.C.getD i ce0) ((p.C.getD i ce0).S.length)), (kCopy12_2 a40 ((p.C.getD i ce0).S) c41), rowC 76 38 (.slice (some ⟨b43, 0, none⟩) 1 1) 1 (kCopy12_0 ((p.C.getD i ce0).x) a40 (((p.C.getD i ce0).S).length) c41)] w44)
  have H46 : Sat w [restC w (fun _ => False), cellC b2 71 (kCopy12_3 p), cellC b6 71 (kCopy12_4), (kCopy12_5 da D dc), bagC B, cellC b26 76 (kCopy12_6 ((p.C.getD i ce0).x) (p.C.getD i ce0) ((p.C.getD i ce0).S.length)), (kCopy12_2 a40 ((p.C.getD i ce0).S) c41), rowC 76 38 (.slice (some ⟨b43, 0, none⟩) 1 1) 1 ([(⟨(p.C.getD i ce0).x, a40, c41, (p.C.getD i ce0).S⟩ : CeR)].flatMap encCe)] w44 := H45.cast (by rw [(show ((kCopy12_0 ((p.C.getD i ce0).x) a40 (((p.C.getD i ce0).S).length) c41) : List Value) = [(⟨(p.C.getD i ce0).x, a40, c41, (p.C.getD i ce0).S⟩ : CeR)].flatMap encCe by kernel_rfl)])
  refine kq _ _ <| zwd fun Kq kq => d_append (T := 67) (e := 76) (size := 38) (bytes := 96) rfl H46 (by kernel_rfl) 3 7 rfl rfl rfl rfl (flat_one encCe encCe_one [(⟨(p.C.getD i ce0).x, a40, c41, (p.C.getD i ce0).S⟩ : CeR)]) (by omega) (by omega) fun v48 w49 H50 => ?_
  have H53 : Sat w [restC w (fun _ => False), cellC b2 71 (kCopy12_3 p), cellC b6 71 (kCopy12_4), rowC 76 38 v48 ((D ++ [(⟨(p.C.getD i ce0).x, a40, c41, (p.C.getD i ce0).S⟩ : CeR)]).length) ((D ++ [(⟨(p.C.getD i ce0).x, a40, c41, (p.C.getD i ce0).S⟩ : CeR)]).flatMap encCe), bagC B, cellC b26 76 (kCopy12_6 ((p.C.getD i ce0).x) (p.C.getD i ce0) ((p.C.getD i ce0).S.length)), (kCopy12_2 a40 ((p.C.getD i ce0).S) c41), rowC 76 38 (.slice (some ⟨b43, 0, none⟩) 1 1) 1 ([(⟨(p.C.getD i ce0).x, a40, c41, (p.C.getD i ce0).S⟩ : CeR)].flatMap encCe)] w49 := H50.cast (by simp only [List.length_append, List.flatMap_append] <;> rfl)
  obtain ⟨a51, c52, rfl⟩ := ownsRow_shape (H53.at 3 rfl)
  refine kq _ _ <| wv 3 (.slice a51 ((D ++ [(⟨(p.C.getD i ce0).x, a40, c41, (p.C.getD i ce0).S⟩ : CeR)]).length) c52) <| w_nil <| blk_normal <| ztn ?_
  have H54 := (H53.pk [4, 6, 0, 1, 2, 3, 5, 7]).bag
  have H55 := H54.pk [1, 2, 3, 4, 0, 5, 6]
  refine w_lit <| zwi 18 ((i : Int) + 1) <| wv 9 (.int .i64 ((i : Int) + 1)) <| w_nil ?_
  have H56 := H55.pk [0, 1, 2, 3, 4]
  refine round_back ?_ _ ⟨(i + 1), a51, c52, (D ++ [(⟨(p.C.getD i ce0).x, a40, c41, (p.C.getD i ce0).S⟩ : CeR)]), (stC (⟨(p.C.getD i ce0).x, a40, c41, (p.C.getD i ce0).S⟩ : CeR) :: B), rfl, (show ((.slice a51 ((D ++ [(⟨(p.C.getD i ce0).x, a40, c41, (p.C.getD i ce0).S⟩ : CeR)]).length) c52) : Value) = _ by first | rfl | go_num), (by omega), (coC_step hco (by omega)), (in_more hin), H56, rfl⟩ (by omega)
  exact zs
 have g57 := of_decide_eq_false b17
 refine zwkf _ b17 ?_
 refine zxb <| ztn <| zsl <| wv 19 (.slice da D.length dc) <| wv 20 (pt b2 3) <| zwd fun Kq kq => zds ([(.slice da D.length dc)] : List Value) (kCopy12_7 p da D.length dc) H13 1 fun w60 H61 => ?_
 refine kq _ _ <| znsl <| zwN 21 (kCopy12_7 p da D.length dc) (H61.at 1 rfl) <| zwd fun Kq kq => zds1 (kCopy12_7 p da D.length dc) H61 2 fun w64 H65 => ?_
 refine kq _ _ <| znt <| w_ret <| end1 rfl (res_cellN (vs := (kCopy12_7 p da D.length dc)) rfl (by kernel_rfl) (by kernel_rfl) (Nat.le_of_ble_eq_true (by kernel_rfl)) (H65.at 2 rfl) (by kernel_rfl)) ?_
 exact ⟨da, dc, D, B, rfl, (by rw [List.take_of_length_le (by omega)] at hco; exact hco), hin, H65.fn [3, 4], H65.upd 0 rfl [] (fun _ h => h.elim), H65.freshS 0 rfl (fun _ h => h) [3, 4] rfl rfl⟩
def cloneBL_ren : Go.Shelf.Ren := ⟨fun | 41 => 52 | n => n, fun | 22 => 84 | 23 => 5 | 4 => 4 | n => n, fun | n => n⟩
theorem cloneBL : Go.Proofs.SlLaysE0.n41 Tryz.prog cloneBL_ren := {
 mixed := by kernel_rfl,
 f41 := ⟨Tryz.f52.name, by decide, Tryz.func52.trans (congrArg some (by kernel_rfl))⟩,
 t4 := Tryz.underlying4,
 a4 := Tryz.isAgg4,
 z4 := Tryz.sizeOf4,
 v4 := Tryz.zeroValue4,
 t22 := Tryz.underlying84,
 a22 := Tryz.isAgg84,
 z22 := Tryz.sizeOf84,
 v22 := Tryz.zeroValue84 }
theorem cloneBt_any (w : World) (v : Value) (s : List UInt8) (hs : (rowC 5 1 v s.length (s.flatMap encB)).ok w) (hl : s.length ≤ 1000) : Calls Tryz.prog 52 #[v] w fun e w' => ∃ u, e = .returned u ∧ (rowC 5 1 u s.length (s.flatMap encB)).ok w' ∧ Upd [] w w' ∧ ∀ b, (rowC 5 1 u s.length (s.flatMap encB)).fp b → w.heap.size ≤ b := by
 have hfl : (s.flatMap encB).length = s.length * 1 := flat_len encB 1 encB_len s
 obtain ⟨i, z, _, h1, h2, h3, h4, h5, h6⟩ := rowTy_at (P := Tryz.prog) (T := 84) (e := 5) (size := 1) (bytes := 1) (by kernel_rfl)
 have hs' := hs
 rcases hs.2 with ⟨rfl, h0⟩ | ⟨g, c, cur, rfl, _⟩
 ·obtain rfl := List.eq_nil_of_length_eq_zero h0
  exact (AnyE.slices_Clone_nil (P := Tryz.prog) cloneBL 0 0 w).mono fun e w' ⟨he, hw⟩ => ⟨_, he, World.ownsRow_nil _ 0 _ _, hw ▸ Upd.refl _ _, fun b hb => by simp [rowC, Value.ownBlock] at hb⟩
 ·refine (AnyE.slices_Clone (P := Tryz.prog) cloneBL i z 1 1 h1 h2 h3 h4 h5 h6 Tryz.sizeOf5 g 0 s.length c (s.flatMap encB) w hfl (by unfold maxLen; omega) (by omega) (fun j u hu => by rw [Nat.zero_add]; exact row_cell hs' rfl hu) (fun u hu => List.all_eq_true.1 (flat_one encB encB_one s) u hu)).mono fun e w' ⟨v', he, hr, _, hb⟩ => ⟨v', he, ?_, Below.upd hb, ?_⟩
  ·refine ⟨hr.1, ?_⟩
   rcases hr.2 with h | ⟨g', cap, cur', e1, _, r⟩
   ·exact .inl h
   ·exact .inr ⟨g', cap, cur', e1, Nat.zero_le _, r⟩
  ·intro b hb2
   rcases hr.2 with ⟨rfl, _⟩ | ⟨g', cap, cur', rfl, hge, _⟩
   ·simp [rowC, Value.ownBlock] at hb2
   ·simp only [rowC, Value.ownBlock, Option.some.injEq] at hb2; omega
def cloneDL_ren : Go.Shelf.Ren := ⟨fun | 41 => 56 | n => n, fun | 22 => 87 | 23 => 122 | 4 => 4 | n => n, fun | n => n⟩
theorem cloneDL : Go.Proofs.SlLaysE0.n41 Tryz.prog cloneDL_ren := {
 mixed := by kernel_rfl,
 f41 := ⟨Tryz.f56.name, by decide, Tryz.func56.trans (congrArg some (by kernel_rfl))⟩,
 t4 := Tryz.underlying4,
 a4 := Tryz.isAgg4,
 z4 := Tryz.sizeOf4,
 v4 := Tryz.zeroValue4,
 t22 := Tryz.underlying87,
 a22 := Tryz.isAgg87,
 z22 := Tryz.sizeOf87,
 v22 := Tryz.zeroValue87 }
theorem cloneD_any (w : World) (v : Value) (s : List DenyD) (hs : (rowC 122 4 v s.length (s.flatMap encDn)).ok w) (hl : s.length ≤ 1000) : Calls Tryz.prog 56 #[v] w fun e w' => ∃ u, e = .returned u ∧ (rowC 122 4 u s.length (s.flatMap encDn)).ok w' ∧ Upd [] w w' ∧ ∀ b, (rowC 122 4 u s.length (s.flatMap encDn)).fp b → w.heap.size ≤ b := by
 have hfl : (s.flatMap encDn).length = s.length * 4 := flat_len encDn 4 encDn_len s
 obtain ⟨i, z, _, h1, h2, h3, h4, h5, h6⟩ := rowTy_at (P := Tryz.prog) (T := 87) (e := 122) (size := 4) (bytes := 32) (by kernel_rfl)
 have hs' := hs
 rcases hs.2 with ⟨rfl, h0⟩ | ⟨g, c, cur, rfl, _⟩
 ·obtain rfl := List.eq_nil_of_length_eq_zero h0
  exact (AnyE.slices_Clone_nil (P := Tryz.prog) cloneDL 0 0 w).mono fun e w' ⟨he, hw⟩ => ⟨_, he, World.ownsRow_nil _ 0 _ _, hw ▸ Upd.refl _ _, fun b hb => by simp [rowC, Value.ownBlock] at hb⟩
 ·refine (AnyE.slices_Clone (P := Tryz.prog) cloneDL i z 4 32 h1 h2 h3 h4 h5 h6 Tryz.sizeOf122 g 0 s.length c (s.flatMap encDn) w hfl (by unfold maxLen; omega) (by omega) (fun j u hu => by rw [Nat.zero_add]; exact row_cell hs' rfl hu) (fun u hu => List.all_eq_true.1 (flat_one encDn encDn_one s) u hu)).mono fun e w' ⟨v', he, hr, _, hb⟩ => ⟨v', he, ?_, Below.upd hb, ?_⟩
  ·refine ⟨hr.1, ?_⟩
   rcases hr.2 with h | ⟨g', cap, cur', e1, _, r⟩
   ·exact .inl h
   ·exact .inr ⟨g', cap, cur', e1, Nat.zero_le _, r⟩
  ·intro b hb2
   rcases hr.2 with ⟨rfl, _⟩ | ⟨g', cap, cur', rfl, hge, _⟩
   ·simp [rowC, Value.ownBlock] at hb2
   ·simp only [rowC, Value.ownBlock, Option.some.injEq] at hb2; omega
section
variable {w0 w : World} {L1 L2 R : List Ck}
theorem Sat.bagApp (H : Sat w0 (bagC L1 :: bagC L2 :: R) w) : Sat w0 (bagC (L1 ++ L2) :: R) w := by
 have h1 := List.pairwise_cons.1 H.dis
 have h2 := List.pairwise_cons.1 h1.2
 refine ⟨H.ext, fun C hC => ?_, List.pairwise_cons.2 ⟨fun C hC b hb hc => ?_, h2.2⟩⟩
 ·rcases List.mem_cons.1 hC with rfl | hC
  ·intro B hB
   rcases List.mem_append.1 hB with hB | hB
   ·exact (show (bagC L1).ok w from H.all _ (by simp)) B hB
   ·exact (show (bagC L2).ok w from H.all _ (by simp)) B hB
  ·exact H.all _ (by simp [hC])
 ·obtain ⟨B, hB, hf⟩ := hb
  rcases List.mem_append.1 hB with hB | hB
  ·exact h1.1 C (by simp [hC]) b ⟨B, hB, hf⟩ hc
  ·exact h2.1 C hC b ⟨B, hB, hf⟩ hc
end
theorem row_prefix {α : Type} {enc : α → List Value} {sz e c m : Nat} {a : Option Addr} {D : List α} {w : World} (hs : ∀ x, (enc x).length = sz) (h : (rowC e sz (.slice a D.length c) D.length (D.flatMap enc)).ok w) : (rowC e sz (.slice a (D.take m).length c) (D.take m).length ((D.take m).flatMap enc)).ok w := by
 have hle : (D.take m).length ≤ D.length := by rw [List.length_take]; omega
 refine ⟨flat_len enc sz hs _, ?_⟩
 rcases h.2 with ⟨hv, h0⟩ | ⟨g, cap, cur, hv, hb, hg, hn, hm, hc, ht⟩
 ·simp only [Value.slice.injEq] at hv
  obtain ⟨rfl, _, rfl⟩ := hv
  have : (D.take m).length = 0 := by omega
  exact .inl ⟨by rw [this], this⟩
 ·simp only [Value.slice.injEq] at hv
  obtain ⟨rfl, _, rfl⟩ := hv
  refine .inr ⟨g, c, cur, rfl, hb, hg, by omega, hm, hc, ?_⟩
  have hk : (D.take m).length * sz ≤ D.length * sz := Nat.mul_le_mul_right _ hle
  have e1 : cur.toList.take ((D.take m).length * sz) = (D.flatMap enc).take ((D.take m).length * sz) := by
   rw [← ht, List.take_take, Nat.min_eq_left hk]
  rw [e1]
  have e2 : D.flatMap enc = (D.take m).flatMap enc ++ (D.drop m).flatMap enc := by rw [← List.flatMap_append, List.take_append_drop]
  rw [e2, ← flat_len enc sz hs (D.take m), List.take_left]
def keyP (p : PrR) : Int × Int × Int × Int × Int × List (CommitD × List StampD) := (p.r, p.e, p.f, p.sb, p.sm, p.C.map fun c => (c.x, c.S))
def keyO (o : OpR) : Int × List UInt8 × Hash := (o.i, o.P, o.h)
def keyT (t : TbR) : Int × List DenyD := (t.i, t.D)
def CoPs (A B : List PrR) : Prop := B.map keyP = A.map keyP
def CoOs (A B : List OpR) : Prop := B.map keyO = A.map keyO
def CoTs (A B : List TbR) : Prop := B.map keyT = A.map keyT
section
variable {β γ : Type} {key : β → γ} {A B : List β} {x y : β} {i : Nat}
theorem map_len (h : B.map key = A.map key) : B.length = A.length := by simpa using congrArg List.length h
theorem map_step (h : B.map key = (A.take i).map key) (hx : A[i]? = some x) (hk : key y = key x) : (B ++ [y]).map key = (A.take (i + 1)).map key := by
 rw [List.take_add_one, hx, Option.toList_some, List.map_append, List.map_append, h, List.map_singleton, List.map_singleton, hk]
end
theorem keyP_co {p : PrR} {da : Option Addr} {dc : Nat} {D : List CeR} (h : CoC p.C D) : keyP ⟨p.r, p.e, p.f, da, dc, p.sb, p.sm, D⟩ = keyP p := by
 unfold CoC at h; unfold keyP; simp only [h]
structure PrK (w : World) (p : PrR) : Prop where
 at_ : ListAt encCe 38 w (.slice p.ca p.C.length p.cc) p.C
 len : p.C.length ≤ 64
 st : ∀ i, i < p.C.length → (stC (p.C.getD i ce0)).ok w
 sl : ∀ i, i < p.C.length → (p.C.getD i ce0).S.length ≤ 1000
structure OpK (w : World) (o : OpR) : Prop where
 ok : (opC o).ok w
 len : o.P.length ≤ 1000
structure TbK (w : World) (t : TbR) : Prop where
 ok : (tbC t).ok w
 len : t.D.length ≤ 1000
theorem OpK.list {w : World} {o : OpR} (h : OpK w o) : ListAt encB 1 w (.slice o.pa o.P.length o.pc) o.P := ListAt.row encB_len (by decide) h.ok
theorem getD_memO {L : List OpR} {i : Nat} (h : i < L.length) : L.getD i op0 ∈ L := by
 rw [List.getD_eq_getElem?_getD, List.getElem?_eq_getElem h]; exact List.getElem_mem h
section
variable {last tm : Int} {lg : NmD → Bool} {M : EMap} {Z : List CeR} {c : CeR} {n : NmD} {e : EntD}
end
end Go.Proofs.YtenihpghfdcpkaaGreat
namespace Go.Proofs.YtenihpghfdcpkaaGreat
open Go.RowKit Go.Shelf
def sortP_ren : Go.Shelf.Ren := ⟨fun | 6 => 90 | 15 => 102 | 14 => 119 | 28 => 136 | 29 => 137 | 20 => 149 | 21 => 150 | 22 => 151 | 23 => 152 | 24 => 153 | 25 => 154 | 26 => 155 | 27 => 156 | 46 => 193 | 47 => 182 | 48 => 183 | 49 => 194 | 50 => 195 | 57 => 214 | n => n, fun | 22 => 41 | 24 => 71 | 25 => 183 | 3 => 3 | 39 => 108 | 0 => 0 | 53 => 198 | 55 => 25 | 4 => 4 | 46 => 222 | 45 => 221 | 50 => 226 | 5 => 5 | 9 => 9 | 66 => 257 | 70 => 261 | 76 => 281 | 77 => 282 | n => n, fun | n => n⟩
theorem sortP : Go.Proofs.SlLaysF0.n6 Tryz.prog sortP_ren := {
 mixed := by kernel_rfl,
 f6 := ⟨Tryz.f90.name, by decide, Tryz.func90.trans (congrArg some (by kernel_rfl))⟩,
 f14 := ⟨Tryz.f119.name, by decide, Tryz.func119.trans (congrArg some (by kernel_rfl))⟩,
 f15 := Tryz.func102.trans (congrArg some (by kernel_rfl)),
 f20 := ⟨Tryz.f149.name, by decide, Tryz.func149.trans (congrArg some (by kernel_rfl))⟩,
 f21 := ⟨Tryz.f150.name, by decide, Tryz.func150.trans (congrArg some (by kernel_rfl))⟩,
 f22 := ⟨Tryz.f151.name, by decide, Tryz.func151.trans (congrArg some (by kernel_rfl))⟩,
 f23 := ⟨Tryz.f152.name, by decide, Tryz.func152.trans (congrArg some (by kernel_rfl))⟩,
 f24 := ⟨Tryz.f153.name, by decide, Tryz.func153.trans (congrArg some (by kernel_rfl))⟩,
 f25 := ⟨Tryz.f154.name, by decide, Tryz.func154.trans (congrArg some (by kernel_rfl))⟩,
 f26 := ⟨Tryz.f155.name, by decide, Tryz.func155.trans (congrArg some (by kernel_rfl))⟩,
 f27 := ⟨Tryz.f156.name, by decide, Tryz.func156.trans (congrArg some (by kernel_rfl))⟩,
 f28 := Tryz.func136.trans (congrArg some (by kernel_rfl)),
 f29 := Tryz.func137.trans (congrArg some (by kernel_rfl)),
 f46 := ⟨Tryz.f193.name, by decide, Tryz.func193.trans (congrArg some (by kernel_rfl))⟩,
 f47 := Tryz.func182.trans (congrArg some (by kernel_rfl)),
 f48 := Tryz.func183.trans (congrArg some (by kernel_rfl)),
 f49 := ⟨Tryz.f194.name, by decide, Tryz.func194.trans (congrArg some (by kernel_rfl))⟩,
 f50 := ⟨Tryz.f195.name, by decide, Tryz.func195.trans (congrArg some (by kernel_rfl))⟩,
 f57 := ⟨Tryz.f214.name, by decide, Tryz.func214.trans (congrArg some (by kernel_rfl))⟩,
 t0 := Tryz.underlying0,
 a0 := Tryz.isAgg0,
 z0 := Tryz.sizeOf0,
 v0 := Tryz.zeroValue0,
 t3 := Tryz.underlying3,
 a3 := Tryz.isAgg3,
 z3 := Tryz.sizeOf3,
 v3 := Tryz.zeroValue3,
 t4 := Tryz.underlying4,
 a4 := Tryz.isAgg4,
 z4 := Tryz.sizeOf4,
 v4 := Tryz.zeroValue4,
 t5 := Tryz.underlying5,
 a5 := Tryz.isAgg5,
 z5 := Tryz.sizeOf5,
 v5 := Tryz.zeroValue5,
 t9 := Tryz.underlying9,
 a9 := Tryz.isAgg9,
 z9 := Tryz.sizeOf9,
 v9 := Tryz.zeroValue9,
 t22 := Tryz.underlying41,
 a22 := Tryz.isAgg41,
 z22 := Tryz.sizeOf41,
 v22 := Tryz.zeroValue41,
 t25 := Tryz.underlying183,
 a25 := Tryz.isAgg183,
 z25 := Tryz.sizeOf183,
 v25 := Tryz.zeroValue183,
 t39 := Tryz.underlying108,
 a39 := Tryz.isAgg108,
 z39 := Tryz.sizeOf108,
 v39 := Tryz.zeroValue108,
 t45 := Tryz.underlying221,
 a45 := Tryz.isAgg221,
 z45 := Tryz.sizeOf221,
 v45 := Tryz.zeroValue221,
 t46 := Tryz.underlying222,
 a46 := Tryz.isAgg222,
 z46 := Tryz.sizeOf222,
 v46 := Tryz.zeroValue222,
 t50 := Tryz.underlying226,
 a50 := Tryz.isAgg226,
 z50 := Tryz.sizeOf226,
 v50 := Tryz.zeroValue226,
 t53 := Tryz.underlying198,
 a53 := Tryz.isAgg198,
 z53 := Tryz.sizeOf198,
 v53 := Tryz.zeroValue198,
 t55 := Tryz.underlying25,
 a55 := Tryz.isAgg25,
 z55 := Tryz.sizeOf25,
 v55 := Tryz.zeroValue25,
 t66 := Tryz.underlying257,
 a66 := Tryz.isAgg257,
 z66 := Tryz.sizeOf257,
 v66 := Tryz.zeroValue257,
 t70 := Tryz.underlying261,
 a70 := Tryz.isAgg261,
 z70 := Tryz.sizeOf261,
 v70 := Tryz.zeroValue261,
 t76 := Tryz.underlying281,
 a76 := Tryz.isAgg281,
 z76 := Tryz.sizeOf281,
 v76 := Tryz.zeroValue281,
 t77 := Tryz.underlying282,
 a77 := Tryz.isAgg282,
 z77 := Tryz.sizeOf282,
 v77 := Tryz.zeroValue282 }
end Go.Proofs.YtenihpghfdcpkaaGreat
namespace Go.Proofs.YtenihpghfdcpkaaGreat
open Go.RowKit
abbrev kFst12_0 (p0 : PrR) : List Value := ([(.int .i64 p0.r), (.int .i64 p0.e), (.int .u64 p0.f), (.slice p0.ca p0.C.length p0.cc), (.int .i64 p0.sb), (.int .i64 p0.sm)] : List Value)
theorem mkNumG_any (w : World) (p : PrR) :
  Calls Tryz.prog 45 #[(.agg ⟨([(.int .i64 (p.r)), (.int .i64 (p.e)), (.int .u64 (p.f)), ((.slice p.ca p.C.length p.cc)), (.int .i64 (p.sb)), (.int .i64 (p.sm))] : List Value)⟩)] w fun e w' => e = .returned (.int .i64 p.r) ∧ Upd [] w w' ∧ Gr w w' := by
 have H := Sat.start0 w
 refine calls_fr Tryz.func45 rfl 5 rfl (Nat.le_of_ble_eq_true rfl) ?_
 refine zsl <| zwd fun Kq kq => d_boxG (vs := (kFst12_0 p)) rfl H rfl rfl fun b2 w3 H4 g5 => ?_
 refine kq _ _ <| wv 2 (.int .i64 (0)) <| znsl <| wv 3 (pt b2 0) <| zw1 4 (.int .i64 (p.r)) (H4.cell 1 rfl rfl) <| wv 2 (.int .i64 (p.r)) <| znt <| w_ret <| ze1 (.int .i64 (p.r)) ?_
 exact ⟨rfl, H4.upd 0 rfl [] (fun _ h => h.elim), g5⟩
theorem fstCmp_any (w : World) (x y : PrR) (fb : Nat) (hfb : (cellC fb 127 [.func (.func 45) #[] #[]]).ok w) :
  Calls Tryz.prog 91 #[(.agg ⟨([(.int .i64 (x.r)), (.int .i64 (x.e)), (.int .u64 (x.f)), ((.slice x.ca x.C.length x.cc)), (.int .i64 (x.sb)), (.int .i64 (x.sm))] : List Value)⟩), (.agg ⟨([(.int .i64 (y.r)), (.int .i64 (y.e)), (.int .u64 (y.f)), ((.slice y.ca y.C.length y.cc)), (.int .i64 (y.sb)), (.int .i64 (y.sm))] : List Value)⟩), (.pointer (some ⟨fb, 0, none⟩))] w fun e w' => e = .returned (.int .i64 (sgn3 x.r y.r)) ∧ Upd [] w w' ∧ Gr w w' := by
 have H := Sat.start0 w
 refine calls_fr Tryz.func91 rfl 13 rfl (Nat.le_of_ble_eq_true rfl) ?_
 refine zsl <| zwd fun Kq kq => d_boxG (vs := (kFst12_0 x)) rfl H rfl rfl fun b2 w3 H4 g5 => ?_
 refine kq _ _ <| zwd fun Kq kq => d_boxG (vs := (kFst12_0 y)) rfl H4 rfl rfl fun b7 w8 H9 g10 => ?_
 have gr11 := g5.trans g10
 refine kq _ _ <| wv 5 (.int .i64 (0)) <| znt <| w_seq <| h_startG H9 [restC w (fun _ => False), cellC b2 71 (kFst12_0 x), cellC b7 71 (kFst12_0 y)] 8 rfl (by kernel_rfl) (fun Hx => (Hx.pk [0, 1, 2])) fun w12 H13 S14 g15 => ?_
 have gr16 := gr11.trans g15
 refine hv0 0 S14 6 (.func (.func 45) #[] #[]) ?_ (he := fun _ H' => (zl1 (H'.roCell 0 rfl hfb (fun h => h) rfl)))
 refine hv0 1 S14 7 (.agg ⟨(kFst12_0 x)⟩) ?_ (he := fun _ H' => (zlN (vs := (kFst12_0 x)) (H'.at 1 rfl)))
 refine hv0 3 S14 9 (.func (.func 45) #[] #[]) ?_ (he := fun _ H' => (zl1 (H'.roCell 0 rfl hfb (fun h => h) rfl)))
 refine hv0 4 S14 10 (.agg ⟨(kFst12_0 y)⟩) ?_ (he := fun _ H' => (zlN (vs := (kFst12_0 y)) (H'.at 2 rfl)))
 refine zhd0 2 fun Kq kq => ?_
 refine zdc 8 (mkNumG_any w12 x) ?_
 rintro _ w18 ⟨rfl, u20, g21⟩
 have H19 := H13.keepU u20
 refine ⟨_, rfl, ?_⟩
 have gr22 := gr16.trans g21
 have S23 := H19.pk [0, 1, 2]
 refine kq _ _ S23 <| zhd0 5 fun Kq kq => ?_
 refine zdc 11 (mkNumG_any w18 y) ?_
 rintro _ w25 ⟨rfl, u27, g28⟩
 have H26 := H19.keepU u27
 refine ⟨_, rfl, ?_⟩
 have gr29 := gr22.trans g28
 have S30 := H26.pk [0, 1, 2]
 refine kq _ _ S30 <| zhd0 6 fun Kq kq => ?_
 refine zdc 12 (cmpi64_any x.r y.r w25) ?_
 rintro _ w32 ⟨rfl, hw32⟩
 obtain rfl := hw32.symm
 refine ⟨_, rfl, ?_⟩
 have S33 := H26.pk [0, 1, 2]
 refine kq _ _ S33 <| hv0 7 S33 5 (.int .i64 (sgn3 x.r y.r)) <| zhf <| ztn <| w_ret <| ze1 (.int .i64 (sgn3 x.r y.r)) ?_
 exact ⟨rfl, H26.upd 0 rfl [] (fun _ h => h.elim), gr29⟩
end Go.Proofs.YtenihpghfdcpkaaGreat
