/- WHAT IS PROVED: contracts and plain laws of TimeE, TabM, Wt, DenyT. Conditions: stated with each. -/
import Derived.Test.YtenihpghfdcpkaaGreatV05
import Derived.Test.YtenihpghfdcpkaaGreatV06
import Derived.Test.YtenihpghfdcpkaaGreatV07
import Derived.Test.YtenihpghfdcpkaaGreatV09
import Derived.Test.YtenihpghfdcpkaaGreatV10
import Derived.Test.YtenihpghfdcpkaaGreatV12
set_option maxHeartbeats 4000000
set_option maxRecDepth 100000
namespace Go.Proofs.YtenihpghfdcpkaaGreat
open Go.RowKit
abbrev kTimeE_0 (p0 : CommitD) (p1 : Option Addr) (p2 : Nat) (p3 : Nat) : List Value := ([(.int .i64 p0.cl), (.int .i64 p0.seq)] : List Value) ++ hc p0.h ++ ([(.int .i64 p0.len), (.int .i64 p0.sb), (.int .i64 p0.sm), (.slice p1 p2 p3)] : List Value)
abbrev kTimeE_1 (p0 : Option Addr) (p1 : List Int) (p2 : Nat) : Ck := rowC 25 1 (.slice p0 p1.length p2) p1.length (p1.flatMap encU)
abbrev kTimeE_2 (p0 : StampD) : List Value := ([(.int .i64 p0.r), (.int .i64 p0.cl), (.int .i64 p0.seq)] : List Value) ++ hc p0.h ++ ([(.int .u64 p0.t), (.int .i64 p0.sb), (.int .i64 p0.sm)] : List Value)
abbrev kTimeE_3 : List Value := ([(.int .i64 (0)), (.int .i64 (0)), (.int .i64 (0))] : List Value) ++ hc hash0 ++ ([(.int .u64 (0)), (.int .i64 (0)), (.int .i64 (0))] : List Value)
theorem wTime_any (w : World) (x : CommitD) (sa : Option Addr) (sc : Nat) (S : List StampD) (hS : ListAt encSt 38 w (.slice sa S.length sc) S) (hlS : S.length ≤ 12) :
  Calls Tryz.prog 57 #[(.agg ⟨(([(.int .i64 (x.cl)), (.int .i64 (x.seq))] : List Value) ++ hc x.h ++ ([(.int .i64 (x.len)), (.int .i64 (x.sb)), (.int .i64 (x.sm)), (.slice sa S.length sc)] : List Value))⟩)] w fun e w' => e = .returned (.int .u64 (timeD S)) ∧ Upd [] w w' := by
 have H := Sat.start0 w
 refine calls_fr Tryz.func57 rfl 27 rfl (Nat.le_of_ble_eq_true rfl) ?_
 refine zsl <| zwd fun Kq kq => zdb (kTimeE_0 x sa S.length sc) H fun b2 w3 H4 => ?_
 refine kq _ _ <| wv 2 (.int .u64 (0)) <| znsl <| wv 3 (.slice none 0 0) <| znt <| w_seq <| zsl <| wv 8 (pt b2 37) <| zw1 9 (.slice sa S.length sc) (H4.cell 1 rfl (by kernel_rfl)) <| wv 10 (.int .i64 ((S.length : Int))) ?_
 refine wv 11 (.int .i64 (0)) <| znt <| w_block ?_
 have H5 := H4.addNil 25 1
 refine wp_round ([3, 5] ++ List.range' 11 10) (fun F_ W_ m_ => ∃ (i : Nat) (a : Option Addr) (c : Nat) (D : List Int), F_ 11 = (.int .i64 ((i : Int))) ∧ F_ 3 = (.slice a D.length c) ∧ (i ≤ S.length) ∧ (D = timesD (S.take i)) ∧ Sat w [restC w (fun _ => False), cellC b2 76 (kTimeE_0 x sa S.length sc), (kTimeE_1 a D c)] W_ ∧ m_ = S.length - i) _ ⟨0, none, 0, [], (show ((.int .i64 (0)) : Value) = _ by first | rfl | go_num), (by first | rfl | go_num), (Nat.zero_le _), rfl, H5, rfl⟩ ?_
 rintro g6 w7 _ ⟨i, a, c, D, v9, v10, hi, hD, H8, rfl⟩
 refine wp_know 11 _ v9 ?_
 refine wp_know 3 _ v10 ?_
 have hDl : D.length = i := by rw [hD, times_len, List.length_take]; omega
 refine zsl <| wv 12 (.bool (decide ((i : Int) < (S.length : Int)))) <| znt <| w_seq ?_
 refine (bsplit (decide ((i : Int) < (S.length : Int)))).elim (fun b12 => ?_) (fun b12 => ?_)
 ·have g13 := of_decide_eq_true b12
  refine zwkt _ b12 ?_
  refine w_skip <| ztn <| w_seq <| w_block <| zsl ?_
  obtain ⟨g15, o16, c17, e18, R19⟩ := SliceOf.atD hS stamp0 (show i < S.length by omega)
  refine wv 13 (.pointer (some ⟨g15, o16 + ((i : Int)).toNat * 38, none⟩)) ?_ (hr := e_indexAddrW (E := 149) (by kernel_rfl) (by kernel_rfl) (Nat.le_of_ble_eq_true rfl) rfl e18 rfl (by omega) (by omega))
  refine wv 14 (.agg ⟨(kTimeE_2 (S.getD i stamp0))⟩) ?_ (hr := e_loadRun (vs := (kTimeE_2 (S.getD i stamp0))) rfl (by kernel_rfl) (by kernel_rfl) (Nat.le_of_ble_eq_true (by kernel_rfl)) (H8.runR 0 rfl (cells_run R19 0 (by kernel_rfl) (show o16 + ((i : Int)).toNat * 38 = o16 + i * 38 + 0 by omega)) (fun h => h)))
  refine zwd fun Kq kq => zda (kTimeE_3) H8 ?_
  intro b21 w22 (H23 : Sat w [restC w (fun _ => False), cellC b2 76 (kTimeE_0 x sa S.length sc), (kTimeE_1 a D c), cellC b21 149 (kTimeE_3)] w22)
  refine kq _ _ <| zwd fun Kq kq => zds1 (kTimeE_2 (S.getD i stamp0)) H23 3 fun w25 H26 => ?_
  refine kq _ _ <| znt <| w_lit <| wv 15 (.slice a D.length c) <| wv 16 (pt b21 35) <| zw1 17 (.int .u64 ((S.getD i stamp0).t)) (H26.cell 3 rfl (by kernel_rfl)) <| zwd fun Kq kq => zdbs 25 1 8 (.int .u64 (0)) [(0, (.int .u64 ((S.getD i stamp0).t)))] ([(.int .u64 ((S.getD i stamp0).t))] : List Value) H26 ?_
  intro b29 w30 (H31 : Sat w [restC w (fun _ => False), cellC b2 76 (kTimeE_0 x sa S.length sc), (kTimeE_1 a D c), cellC b21 149 (kTimeE_2 (S.getD i stamp0)), rowC 25 1 (.slice (some ⟨b29, 0, none⟩) 1 1) 1 ([(.int .u64 ((S.getD i stamp0).t))] : List Value)] w30)
  have H32 : Sat w [restC w (fun _ => False), cellC b2 76 (kTimeE_0 x sa S.length sc), (kTimeE_1 a D c), cellC b21 149 (kTimeE_2 (S.getD i stamp0)), rowC 25 1 (.slice (some ⟨b29, 0, none⟩) 1 1) 1 ([(S.getD i stamp0).t].flatMap encU)] w30 := H31.cast (by rw [show (([(.int .u64 ((S.getD i stamp0).t))] : List Value) : List Value) = [(S.getD i stamp0).t].flatMap encU from rfl])
  refine kq _ _ <| zwd fun Kq kq => d_append (T := 109) (e := 25) (size := 1) (bytes := 8) rfl H32 (by kernel_rfl) 2 4 rfl rfl rfl rfl (flat_one encU encU_one [(S.getD i stamp0).t]) (by omega) (by omega) fun v34 w35 H36 => ?_
  have H39 : Sat w [restC w (fun _ => False), cellC b2 76 (kTimeE_0 x sa S.length sc), rowC 25 1 v34 ((D ++ [(S.getD i stamp0).t]).length) ((D ++ [(S.getD i stamp0).t]).flatMap encU), cellC b21 149 (kTimeE_2 (S.getD i stamp0)), rowC 25 1 (.slice (some ⟨b29, 0, none⟩) 1 1) 1 ([(S.getD i stamp0).t].flatMap encU)] w35 := H36.cast (by simp only [List.length_append, List.flatMap_append] <;> rfl)
  obtain ⟨a37, c38, rfl⟩ := ownsRow_shape (H39.at 2 rfl)
  refine kq _ _ <| wv 3 (.slice a37 ((D ++ [(S.getD i stamp0).t]).length) c38) <| w_nil <| blk_normal <| ztn <| w_lit <| zwi 20 ((i : Int) + 1) <| wv 11 (.int .i64 ((i : Int) + 1)) <| w_nil ?_
  have hDl : D.length = i := by rw [hD, times_len, List.length_take]; omega
  have H40 := H39.pk [0, 1, 2]
  refine round_back ?_ _ ⟨(i + 1), a37, c38, (D ++ [(S.getD i stamp0).t]), rfl, (show ((.slice a37 ((D ++ [(S.getD i stamp0).t]).length) c38) : Value) = _ by first | rfl | go_num), (by omega), (by rw [hD, times_step S (by omega)]), H40, rfl⟩ (by omega)
  exact zs
 have g41 := of_decide_eq_false b12
 refine zwkf _ b12 ?_
 refine zxb <| ztn <| zsl <| wv 22 (.slice a D.length c) <| zwd fun Kq kq => zdq 23 (medC_any w7 (.slice a D.length c) D (ListAt.row (enc := encU) (sz := 1) encU_len (by decide) (H8.at 2 rfl)) (by omega)) H8 fun w44 H45 => ?_
 refine kq _ _ <| wv 21 (.tuple #[(.int .u64 (medV D)), (.bool (decide (D.length % 2 = 1)))]) <| wv 24 (.int .u64 (medV D)) <| wv 25 (.bool (decide (D.length % 2 = 1))) <| wv 6 (.int .u64 (medV D)) <| wv 7 (.bool (decide (D.length % 2 = 1))) <| znsl <| wv 26 (.int .u64 (medV D)) <| wv 2 (.int .u64 (medV D)) <| znt ?_
 refine w_ret <| ze1 (.int .u64 (medV D)) ?_
 have hT : D = timesD S := by rw [hD, List.take_of_length_le (by omega)]
 exact ⟨by unfold timeD; rw [← hT], H45.upd 0 rfl [] (fun _ h => h.elim)⟩
theorem rTime_any (w : World) (x : CommitD) (sa : Option Addr) (sc : Nat) (S : List StampD) (hS : ListAt encSt 38 w (.slice sa S.length sc) S) (hlS : S.length ≤ 12) :
  Calls Tryz.prog 17 #[(.agg ⟨(([(.int .i64 (x.cl)), (.int .i64 (x.seq))] : List Value) ++ hc x.h ++ ([(.int .i64 (x.len)), (.int .i64 (x.sb)), (.int .i64 (x.sm)), (.slice sa S.length sc)] : List Value))⟩)] w fun e w' => e = .returned (.int .u64 (timeD S)) ∧ Upd [] w w' := by
 have H := Sat.start0 w
 refine calls_fr Tryz.func17 rfl 29 rfl (Nat.le_of_ble_eq_true rfl) ?_
 refine zsl <| zwd fun Kq kq => zdb (kTimeE_0 x sa S.length sc) H fun b2 w3 H4 => ?_
 refine kq _ _ <| wv 2 (.int .u64 (0)) <| znsl <| wv 3 (.slice none 0 0) <| znt <| w_seq <| zsl <| wv 7 (pt b2 37) <| zw1 8 (.slice sa S.length sc) (H4.cell 1 rfl (by kernel_rfl)) <| wv 9 (.int .i64 ((S.length : Int))) ?_
 refine wv 10 (.int .i64 (0)) <| znt <| w_block ?_
 have H5 := H4.addNil 25 1
 refine wp_round ([3, 4] ++ List.range' 10 13) (fun F_ W_ m_ => ∃ (i : Nat) (a : Option Addr) (c : Nat) (D : List Int), F_ 10 = (.int .i64 ((i : Int))) ∧ F_ 3 = (.slice a D.length c) ∧ (i ≤ S.length) ∧ (D = timesD (S.take i)) ∧ Sat w [restC w (fun _ => False), cellC b2 76 (kTimeE_0 x sa S.length sc), (kTimeE_1 a D c)] W_ ∧ m_ = S.length - i) _ ⟨0, none, 0, [], (show ((.int .i64 (0)) : Value) = _ by first | rfl | go_num), (by first | rfl | go_num), (Nat.zero_le _), rfl, H5, rfl⟩ ?_
 rintro g6 w7 _ ⟨i, a, c, D, v9, v10, hi, hD, H8, rfl⟩
 refine wp_know 10 _ v9 ?_
 refine wp_know 3 _ v10 ?_
 have hDl : D.length = i := by rw [hD, times_len, List.length_take]; omega
 refine zsl <| wv 11 (.bool (decide ((i : Int) < (S.length : Int)))) <| znt <| w_seq ?_
 refine (bsplit (decide ((i : Int) < (S.length : Int)))).elim (fun b12 => ?_) (fun b12 => ?_)
 ·have g13 := of_decide_eq_true b12
  refine zwkt _ b12 ?_
  refine w_skip <| ztn <| w_seq <| w_block <| zsl <| wv 12 (.int .i64 ((i : Int))) <| wv 4 (.int .i64 ((i : Int))) <| znt <| w_lit <| wv 13 (.slice a D.length c) ?_
  refine wv 14 (pt b2 37) <| zw1 15 (.slice sa S.length sc) (H8.cell 1 rfl (by kernel_rfl)) <| wv 16 (.int .i64 ((i : Int))) ?_
  obtain ⟨g15, o16, c17, e18, R19⟩ := SliceOf.atD hS stamp0 (show i < S.length by omega)
  refine wv 17 (.pointer (some ⟨g15, o16 + ((i : Int)).toNat * 38, none⟩)) ?_ (hr := e_indexAddrW (E := 149) (by kernel_rfl) (by kernel_rfl) (Nat.le_of_ble_eq_true rfl) rfl e18 rfl (by omega) (by omega))
  refine wv 18 (.pointer (some ⟨g15, o16 + ((i : Int)).toNat * 38 + 35, none⟩)) <| zw1 19 (.int .u64 ((S.getD i stamp0).t)) (H8.cellR 0 rfl (cells_at R19 35 (by kernel_rfl) (show o16 + ((i : Int)).toNat * 38 + 35 = o16 + i * 38 + 35 by omega)) (fun h => h)) <| zwd fun Kq kq => zdbs 25 1 8 (.int .u64 (0)) [(0, (.int .u64 ((S.getD i stamp0).t)))] ([(.int .u64 ((S.getD i stamp0).t))] : List Value) H8 ?_
  intro b21 w22 (H23 : Sat w [restC w (fun _ => False), cellC b2 76 (kTimeE_0 x sa S.length sc), (kTimeE_1 a D c), rowC 25 1 (.slice (some ⟨b21, 0, none⟩) 1 1) 1 ([(.int .u64 ((S.getD i stamp0).t))] : List Value)] w22)
  have H24 : Sat w [restC w (fun _ => False), cellC b2 76 (kTimeE_0 x sa S.length sc), (kTimeE_1 a D c), rowC 25 1 (.slice (some ⟨b21, 0, none⟩) 1 1) 1 ([(S.getD i stamp0).t].flatMap encU)] w22 := H23.cast (by rw [show (([(.int .u64 ((S.getD i stamp0).t))] : List Value) : List Value) = [(S.getD i stamp0).t].flatMap encU from rfl])
  refine kq _ _ <| zwd fun Kq kq => d_append (T := 109) (e := 25) (size := 1) (bytes := 8) rfl H24 (by kernel_rfl) 2 3 rfl rfl rfl rfl (flat_one encU encU_one [(S.getD i stamp0).t]) (by omega) (by omega) fun v26 w27 H28 => ?_
  have H31 : Sat w [restC w (fun _ => False), cellC b2 76 (kTimeE_0 x sa S.length sc), rowC 25 1 v26 ((D ++ [(S.getD i stamp0).t]).length) ((D ++ [(S.getD i stamp0).t]).flatMap encU), rowC 25 1 (.slice (some ⟨b21, 0, none⟩) 1 1) 1 ([(S.getD i stamp0).t].flatMap encU)] w27 := H28.cast (by simp only [List.length_append, List.flatMap_append] <;> rfl)
  obtain ⟨a29, c30, rfl⟩ := ownsRow_shape (H31.at 2 rfl)
  refine kq _ _ <| wv 3 (.slice a29 ((D ++ [(S.getD i stamp0).t]).length) c30) <| w_nil <| blk_normal <| ztn <| w_lit <| zwi 22 ((i : Int) + 1) <| wv 10 (.int .i64 ((i : Int) + 1)) <| w_nil ?_
  have hDl : D.length = i := by rw [hD, times_len, List.length_take]; omega
  have H32 : Sat w [restC w (fun _ => False), cellC b2 76 (kTimeE_0 x sa S.length sc), (kTimeE_1 a29 (D ++ [(S.getD i stamp0).t]) c30)] w27 := H31.pick [0, 1, 2] (by decide)
  refine round_back ?_ _ ⟨(i + 1), a29, c30, (D ++ [(S.getD i stamp0).t]), rfl, (show ((.slice a29 ((D ++ [(S.getD i stamp0).t]).length) c30) : Value) = _ by first | rfl | go_num), (by omega), (by rw [hD, times_step S (by omega)]), H32, rfl⟩ (by omega)
  exact zs
 have g33 := of_decide_eq_false b12
 refine zwkf _ b12 ?_
 refine zxb <| ztn <| zsl <| wv 24 (.slice a D.length c) <| zwd fun Kq kq => zdq 25 (medR_any w7 (.slice a D.length c) D (ListAt.row (enc := encU) (sz := 1) encU_len (by decide) (H8.at 2 rfl)) (by omega)) H8 fun w36 H37 => ?_
 refine kq _ _ <| wv 23 (.tuple #[(.int .u64 (medV D)), (.bool (decide (D.length % 2 = 1)))]) <| wv 26 (.int .u64 (medV D)) <| wv 27 (.bool (decide (D.length % 2 = 1))) <| wv 5 (.int .u64 (medV D)) <| wv 6 (.bool (decide (D.length % 2 = 1))) <| znsl <| wv 28 (.int .u64 (medV D)) <| wv 2 (.int .u64 (medV D)) <| znt ?_
 refine w_ret <| ze1 (.int .u64 (medV D)) ?_
 have hT : D = timesD S := by rw [hD, List.take_of_length_le (by omega)]
 exact ⟨by unfold timeD; rw [← hT], H37.upd 0 rfl [] (fun _ h => h.elim)⟩
def findT (L : List CeR) (a b : Int) : Option CeR := L.find? fun c => decide (c.x.cl = a ∧ c.x.seq = b)
section
variable {L : List CeR} {a b : Int} {i : Nat} {x : CeR} {B : List Ck} {w : World}
theorem find_hit (hno : ∀ j, j < i → ∀ y, L[j]? = some y → ¬ (y.x.cl = a ∧ y.x.seq = b)) (hx : L[i]? = some x) (h : decide (x.x.cl = a ∧ x.x.seq = b) = true) : findT L a b = some x := by
 unfold findT
 rw [List.find?_eq_some_iff_getElem]
 obtain ⟨hi, e⟩ := List.getElem?_eq_some_iff.1 hx
 refine ⟨h, i, hi, e, fun j hj => ?_⟩
 have := hno j hj _ (List.getElem?_eq_getElem (by omega))
 rw [show (decide (L[j].x.cl = a ∧ L[j].x.seq = b)) = false from decide_eq_false this]; rfl
theorem find_none (hno : ∀ j, j < i → ∀ y, L[j]? = some y → ¬ (y.x.cl = a ∧ y.x.seq = b)) (hi : L.length ≤ i) : findT L a b = none := by
 unfold findT
 rw [List.find?_eq_none]
 intro y hy
 obtain ⟨j, hj, e⟩ := List.mem_iff_getElem.1 hy
 have := hno j (by omega) y (by rw [List.getElem?_eq_getElem hj, e])
 simpa using this
theorem find_step (hno : ∀ j, j < i → ∀ y, L[j]? = some y → ¬ (y.x.cl = a ∧ y.x.seq = b)) (hx : L[i]? = some x) (h : decide (x.x.cl = a ∧ x.x.seq = b) = false) : ∀ j, j < i + 1 → ∀ y, L[j]? = some y → ¬ (y.x.cl = a ∧ y.x.seq = b) := fun j hj y hy => by
 rcases Nat.lt_or_ge j i with q | q
 ·exact hno j q y hy
 ·have e : j = i := by omega
  subst e
  rw [hx] at hy
  obtain rfl := Option.some.inj hy
  exact of_decide_eq_false h
structure CeT (B : List Ck) (c : CeR) : Prop where
 x : CoB c.x
 S : ∀ i, i < c.S.length → StB (c.S.getD i stamp0)
 len : c.S.length ≤ 12
 bag : stC c ∈ B
theorem CeT.cb (h : CeT B x) (hb : (bagC B).ok w) : CeB w x := ⟨h.x, bag_st hb h.bag, h.S, Nat.le_trans h.len (by decide)⟩
noncomputable def spanT (L : List CeR) (last tm : Int) : List CeR := L.filter fun c => decide (timeD c.S > last) && decide (timeD c.S ≤ tm)
variable {last tm : Int}
theorem span_yes {D : List CeR} (hD : D = spanT (L.take i) last tm) (hx : L[i]? = some x) (h1 : decide (timeD x.S > last) = true) (h2 : decide (timeD x.S ≤ tm) = true) : D ++ [x] = spanT (L.take (i + 1)) last tm := by
 unfold spanT at hD ⊢
 rw [List.take_add_one, hx, Option.toList_some, List.filter_append, ← hD, List.filter_cons, h1, h2]; rfl
theorem span_no1 {D : List CeR} (hD : D = spanT (L.take i) last tm) (hx : L[i]? = some x) (h1 : decide (timeD x.S > last) = false) : D = spanT (L.take (i + 1)) last tm := by
 unfold spanT at hD ⊢
 rw [List.take_add_one, hx, Option.toList_some, List.filter_append, ← hD, List.filter_cons, h1]; simp
theorem span_no2 {D : List CeR} (hD : D = spanT (L.take i) last tm) (hx : L[i]? = some x) (h2 : decide (timeD x.S ≤ tm) = false) : D = spanT (L.take (i + 1)) last tm := by
 unfold spanT at hD ⊢
 rw [List.take_add_one, hx, Option.toList_some, List.filter_append, ← hD, List.filter_cons, h2]; simp
theorem span_sub {c : CeR} (h : c ∈ spanT L last tm) : c ∈ L := (List.mem_filter.1 h).1
theorem span_len : (spanT L last tm).length ≤ L.length := List.length_filter_le ..
theorem find_getD (h : (findT L a b).isSome = true) : (findT L a b).getD ce0 ∈ L := by
 obtain ⟨v, hv⟩ := Option.isSome_iff_exists.1 h
 rw [hv]
 exact List.mem_of_find?_eq_some (show L.find? (fun c => decide (c.x.cl = a ∧ c.x.seq = b)) = some v from hv)
noncomputable def takeK (F Cn floor : Int) (Lb : List Signed) (L : List CeR) (x : CeR) : Int :=
 if rightX F Cn Lb x.x x.S = true then
  if (findT L x.x.cl x.x.seq).isSome = true then
   if ((findT L x.x.cl x.x.seq).getD ce0).x.h = x.x.h ∧ timeD ((findT L x.x.cl x.x.seq).getD ce0).S = timeD x.S then 0 else 5
  else if timeD x.S ≤ floor then 4 else if 64 ≤ L.length then 7 else 0
 else 3
noncomputable def ackT (rp : Int) (x : CeR) : StampD := ⟨rp, x.x.cl, x.x.seq, x.x.h, timeD x.S, 0, 0⟩
noncomputable def ackY (rp : Int) (x : CeR) : Signed := ⟨rp, ackB (ackT rp x)⟩
noncomputable def ackS (rp : Int) (Lb : List Signed) (x : CeR) : StampD := ⟨rp, x.x.cl, x.x.seq, x.x.h, timeD x.S, rp, markOf (signL Lb (ackY rp x)) (ackY rp x)⟩
def ltNm (x y : CeR) : Bool := decide (x.x.cl < y.x.cl) || (decide (x.x.cl = y.x.cl) && decide (x.x.seq < y.x.seq))
structure PutAt (L : List CeR) (x : CeR) (k : Nat) : Prop where
 le : k ≤ L.length
 up : ∀ j, k ≤ j → ∀ y, L[j]? = some y → ltNm x y = true
 stop : k = 0 ∨ ∃ y, L[k - 1]? = some y ∧ ltNm x y = false
variable {F Cn floor rp : Int} {Lb : List Signed} {y : CeR} {k : Nat}
theorem tk3 (h : rightX F Cn Lb x.x x.S = false) : takeK F Cn floor Lb L x = 3 := by unfold takeK; rw [if_neg (by rw [h]; decide)]
theorem tk5 (h : rightX F Cn Lb x.x x.S = true) (h1 : (findT L x.x.cl x.x.seq).isSome = true) (h2 : ¬ (((findT L x.x.cl x.x.seq).getD ce0).x.h = x.x.h ∧ timeD ((findT L x.x.cl x.x.seq).getD ce0).S = timeD x.S)) : takeK F Cn floor Lb L x = 5 := by unfold takeK; rw [if_pos h, if_pos h1, if_neg h2]
theorem tk0 (h : rightX F Cn Lb x.x x.S = true) (h1 : (findT L x.x.cl x.x.seq).isSome = true) (h2 : ((findT L x.x.cl x.x.seq).getD ce0).x.h = x.x.h) (h3 : timeD ((findT L x.x.cl x.x.seq).getD ce0).S = timeD x.S) : takeK F Cn floor Lb L x = 0 := by unfold takeK; rw [if_pos h, if_pos h1, if_pos ⟨h2, h3⟩]
theorem tk4 (h : rightX F Cn Lb x.x x.S = true) (h1 : (findT L x.x.cl x.x.seq).isSome = false) (h2 : timeD x.S ≤ floor) : takeK F Cn floor Lb L x = 4 := by unfold takeK; rw [if_pos h, if_neg (by rw [h1]; decide), if_pos h2]
theorem tk7 (h : rightX F Cn Lb x.x x.S = true) (h1 : (findT L x.x.cl x.x.seq).isSome = false) (h2 : ¬ timeD x.S ≤ floor) (h3 : 64 ≤ L.length) : takeK F Cn floor Lb L x = 7 := by unfold takeK; rw [if_pos h, if_neg (by rw [h1]; decide), if_neg h2, if_pos h3]
theorem tkn (h : rightX F Cn Lb x.x x.S = true) (h1 : (findT L x.x.cl x.x.seq).isSome = false) (h2 : ¬ timeD x.S ≤ floor) (h3 : ¬ 64 ≤ L.length) : takeK F Cn floor Lb L x = 0 := by unfold takeK; rw [if_pos h, if_neg (by rw [h1]; decide), if_neg h2, if_neg h3]
theorem up_start : ∀ j, L.length ≤ j → ∀ y, L[j]? = some y → ltNm x y = true := fun j hj y hy => by
 have := (List.getElem?_eq_some_iff.1 hy).1; omega
theorem up_step (h : ∀ j, k ≤ j → ∀ y, L[j]? = some y → ltNm x y = true) (hy : L[k - 1]? = some y) (hl : ltNm x y = true) : ∀ j, k - 1 ≤ j → ∀ y, L[j]? = some y → ltNm x y = true := fun j hj z hz => by
 by_cases e : j = k - 1
 ·subst e
  rw [hy] at hz
  obtain rfl := Option.some.inj hz
  exact hl
 ·exact h j (by omega) z hz
theorem time_lim {c : CeR} (h : CeT B c) : 0 ≤ timeD c.S ∧ timeD c.S < 18446744073709551616 := by
 unfold timeD
 rcases Nat.mod_two_eq_zero_or_one (timesD c.S).length with e | e
 ·rw [medV_even e]; decide
 ·have hm := (medV_p e).mem
  unfold timesD at hm
  obtain ⟨s, hs, he⟩ := List.mem_map.1 hm
  obtain ⟨i, hi, hsi⟩ := List.mem_iff_getElem.1 hs
  have q := (h.S i hi).1
  rw [List.getD_eq_getElem?_getD, List.getElem?_eq_getElem hi, Option.getD_some, hsi] at q
  unfold timesD
  rw [← he]; exact ⟨q.2.2.2.1, q.2.2.2.2⟩
end
abbrev kWt_0 (p0 : Option Addr) (p1 : Nat) (p2 : Nat) : List Value := ([(.slice p0 p1 p2)] : List Value)
abbrev kWt_1 (p0 : Option Addr) (p1 : List UInt8) (p2 : Nat) : Ck := rowC 5 1 (.slice p0 p1.length p2) p1.length (p1.flatMap encB)
theorem ListAt.nowD {α : Type} {enc : α → List Value} {sz : Nat} {w0 w W : World} {G : List Ck} {D : Nat → Prop} (H : Sat w0 G w) (j : Nat) (hj : G[j]? = Option.some (restC W D)) {a : Option Addr} {n c : Nat} {xs : List α} (hv : ListAt enc sz W (.slice a n c) xs) (hf : 0 < xs.length → ∀ ad, a = some ad → ¬ D ad.block) : ListAt enc sz w (.slice a n c) xs := by
 rcases hv with h | ⟨h0, b', o, c', e, hc, h⟩
 ·exact .inl h
 have ha : a = some ⟨b', o, none⟩ := by simp only [Value.slice.injEq] at e; exact e.1
 refine .inr ⟨h0, b', o, c', e, hc, fun i hi q u hq => ?_⟩
 have h1 := h i hi q u hq
 rw [Addr.add_lit] at h1 ⊢
 exact H.cellR j hj h1 (show ¬ D b' from hf h0 _ ha)
theorem wHash_any (w : World) (r : Nat) (a0 : Option Addr) (c0 : Nat) (B : List UInt8) (hB : (sepC (wrL r a0 c0 B)).ok w) (hl : B.length ≤ 1000000) (x : Hash) :
  Calls Tryz.prog 160 #[(.pointer (some ⟨r, 0, none⟩)), (.agg ⟨(hc x)⟩)] w fun e w' => ∃ a' c', e = .returned (.pointer (some ⟨r, 0, none⟩)) ∧ Sat w [cellC r 266 [.slice a' (B ++ x.l).length c'], rowC 5 1 (.slice a' (B ++ x.l).length c') (B ++ x.l).length ((B ++ x.l).flatMap encB), restC w (sepC (wrL r a0 c0 B)).fp] w' := by
 have H := Sat.start (wrL r a0 c0 B) hB
 have hx := x.len
 refine calls_fr Tryz.func160 rfl 15 rfl (Nat.le_of_ble_eq_true rfl) ?_
 refine zsl <| zwd fun Kq kq => zdb (hc x) H fun b2 w3 H4 => ?_
 refine kq _ _ <| wv 4 (.pointer none) <| znt <| w_seq <| k_start H4 [cellC r 266 (kWt_0 a0 B.length c0), restC w (sepC (wrL r a0 c0 B)).fp, cellC b2 61 (hc x)] [9] 10 rfl (by kernel_rfl) (fun Hx => (Hx.pk [0, 2, 3])) fun w5 H6 S7 => ?_
 refine zkp 0 S7 5 (pt r 0) <| zkp 1 S7 6 (pt r 0) <| zkp 2 S7 7 (pt r 0) <| zkp 3 S7 8 (pt r 0) <| zkv 4 S7 9 (.slice a0 B.length c0) ?_ (he := fun _ H' => (zl1 (H'.cell 0 rfl rfl)))
 refine zkp 5 S7 10 (.slice (some ⟨b2, 0, none⟩) 32 32) <| zkd0 6 fun Kq kq => ?_
 refine d_appendL (T := 84) (e := 5) (size := 1) (bytes := 1) rfl H6 (by kernel_rfl) encB_len encB_one 1 rfl (ListAt.ofHash (x := x) (cell_runT (H6.at 3 rfl) (by kernel_rfl)) (by decide)) rfl rfl (by omega) (by omega) ?_
 intro v9 w10 (H12 : Sat w [cellC r 266 (kWt_0 a0 B.length c0), rowC 5 1 v9 (B.length + x.l.length) (B.flatMap encB ++ x.l.flatMap encB), restC w (sepC (wrL r a0 c0 B)).fp, cellC b2 61 (hc x)] w10)
 have H11 : Sat w [cellC r 266 (kWt_0 a0 B.length c0), rowC 5 1 v9 ((B ++ x.l).length) ((B ++ x.l).flatMap encB), restC w (sepC (wrL r a0 c0 B)).fp, cellC b2 61 (hc x)] w10 := H12.cast (by simp only [List.length_append, List.flatMap_append])
 obtain ⟨a13, c14, rfl⟩ := ownsRow_shape (H11.at 1 rfl)
 have S15 := H11.pk [0, 2, 3]
 refine kq _ _ S15 <| zkp 7 S15 12 (pt r 0) <| zkp 8 S15 13 (pt r 0) <| k_brk 9 (Sat w [restC w (sepC (wrL r a0 c0 B)).fp, cellC b2 61 (hc x)]) rfl (by kernel_rfl) (wants0 rfl) rfl (fun Kq kq => ?_)
 refine zds1 (kWt_0 a13 ((B ++ x.l).length) c14) H11 0 ?_
 intro w17 (H18 : Sat w [cellC r 266 (kWt_0 a13 ((B ++ x.l).length) c14), (kWt_1 a13 (B ++ x.l) c14), restC w (sepC (wrL r a0 c0 B)).fp, cellC b2 61 (hc x)] w17)
 have S20 := H18.pk [2, 3]
 refine kq _ _ S20 <| zhf <| ztn <| zsl <| wv 14 (pt r 0) <| wv 4 (pt r 0) <| znt <| w_ret <| ze1 (pt r 0) ?_
 have hX : (B ++ x.l) = (B ++ x.l) := by rfl
 exact ⟨a13, c14, rfl, (H18.pk [0, 1, 2]).cast (by show [_, _, _] = _; rw [hX])⟩
theorem wRowL_any (w : World) (r : Nat) (a0 : Option Addr) (c0 : Nat) (B : List UInt8) (hB : (sepC (wrL r a0 c0 B)).ok w) (hl : B.length ≤ 1000000) (ta : Option Addr) (tc : Nat) (tx : List UInt8) (ht : ListAt encB 1 w (.slice ta tx.length tc) tx) (hoff : 0 < tx.length → ∀ ad, ta = some ad → ¬ (sepC (wrL r a0 c0 B)).fp ad.block) (hl2 : tx.length ≤ 1000000) :
  Calls Tryz.prog 158 #[(.pointer (some ⟨r, 0, none⟩)), (.slice ta tx.length tc)] w fun e w' => ∃ a' c', e = .returned (.pointer (some ⟨r, 0, none⟩)) ∧ Sat w [cellC r 266 [.slice a' (B ++ rowB tx).length c'], rowC 5 1 (.slice a' (B ++ rowB tx).length c') (B ++ rowB tx).length ((B ++ rowB tx).flatMap encB), restC w (sepC (wrL r a0 c0 B)).fp] w' := by
 have H := Sat.start (wrL r a0 c0 B) hB
 have hvl := intB_len (tx.length : Int)
 refine calls_fr Tryz.func158 rfl 19 rfl (Nat.le_of_ble_eq_true rfl) ?_
 refine zsl <| wv 4 (.pointer none) <| znsl <| wv 5 (pt r 0) <| wv 6 (.slice ta tx.length tc) <| wv 7 (.int .i64 ((tx.length : Int))) <| zwd fun Kq kq => ?_
 have l7 := intB_len (tx.length : Int)
 refine zdc 8 (wInt_any w r a0 c0 B (H.fn [0, 1]) (by omega) (tx.length : Int) (by omega)) ?_
 rintro _ w2 ⟨a4, c5, rfl, T3⟩
 have H8 := H.tl [cellC r 266 (kWt_0 a4 ((B ++ intB (tx.length : Int)).length) c5), (kWt_1 a4 (B ++ intB (tx.length : Int)) c5)] [0, 1] [2] T3 [0, 1, 2]
 refine ⟨_, rfl, ?_⟩
 refine kq _ _ <| znsl <| wv 9 (pt r 0) <| wv 10 (pt r 0) <| wv 11 (pt r 0) <| wv 12 (pt r 0) <| zw1 13 (.slice a4 ((B ++ intB (tx.length : Int)).length) c5) (H8.cell 0 rfl rfl) <| wv 14 (.slice ta tx.length tc) <| zwd fun Kq kq => d_appendL (T := 84) (e := 5) (size := 1) (bytes := 1) rfl H8 (by kernel_rfl) encB_len encB_one 1 rfl (ListAt.nowD H8 2 rfl ht hoff) rfl rfl (by simp only [List.length_append]; omega) (by simp only [List.length_append]; omega) ?_
 intro v10 w11 (H13 : Sat w [cellC r 266 (kWt_0 a4 ((B ++ intB (tx.length : Int)).length) c5), rowC 5 1 v10 ((B ++ intB (tx.length : Int)).length + tx.length) ((B ++ intB (tx.length : Int)).flatMap encB ++ tx.flatMap encB), restC w (sepC (wrL r a0 c0 B)).fp] w11)
 have H12 : Sat w [cellC r 266 (kWt_0 a4 ((B ++ intB (tx.length : Int)).length) c5), rowC 5 1 v10 (((B ++ intB (tx.length : Int)) ++ tx).length) (((B ++ intB (tx.length : Int)) ++ tx).flatMap encB), restC w (sepC (wrL r a0 c0 B)).fp] w11 := H13.cast (by simp only [List.length_append, List.flatMap_append])
 obtain ⟨a14, c15, rfl⟩ := ownsRow_shape (H12.at 1 rfl)
 refine kq _ _ <| wv 16 (pt r 0) <| wv 17 (pt r 0) <| zwd fun Kq kq => d_store (vs := (kWt_0 a14 (((B ++ intB (tx.length : Int)) ++ tx).length) c15)) rfl H12 0 rfl rfl rfl rfl (by kernel_rfl) (Nat.le_of_ble_eq_true (by kernel_rfl)) (Nat.le_of_ble_eq_true (by kernel_rfl)) (by kernel_rfl) ?_
 intro w17 (H18 : Sat w [cellC r 266 (kWt_0 a14 (((B ++ intB (tx.length : Int)) ++ tx).length) c15), (kWt_1 a14 ((B ++ intB (tx.length : Int)) ++ tx) c15), restC w (sepC (wrL r a0 c0 B)).fp] w17)
 refine kq _ _ <| znsl <| wv 18 (pt r 0) <| wv 4 (pt r 0) <| znt <| w_ret <| ze1 (pt r 0) ?_
 have hX : ((B ++ intB (tx.length : Int)) ++ tx) = (B ++ rowB tx) := by unfold rowB intB; rw [show (max 0 (tx.length : Int)).toNat = tx.length by omega, List.append_assoc]
 exact ⟨a14, c15, rfl, (H18.pick [0, 1, 2] (by decide)).cast (by show [_, _, _] = _; rw [hX])⟩
theorem wNew_any (w : World) :
  Calls Tryz.prog 157 #[] w fun e w' => ∃ r a c, e = .returned (.pointer (some ⟨r, 0, none⟩)) ∧ (sepC (wrL r a c [])).ok w' ∧ Upd [] w w' ∧ ∀ q_, (sepC (wrL r a c [])).fp q_ → w.heap.size ≤ q_ := by
 have H := Sat.start0 w
 refine calls_fr Tryz.func157 rfl 3 rfl (Nat.le_of_ble_eq_true rfl) ?_
 refine zsl <| wv 0 (.pointer none) <| znsl <| wv 1 (.agg ⟨([(.slice none 0 0)] : List Value)⟩) <| zwd fun Kq kq => zdb ([(.slice none 0 0)] : List Value) H fun b2 w3 H4 => ?_
 refine kq _ _ <| wv 0 (pt b2 0) <| znt <| w_ret <| ze1 (pt b2 0) ?_
 have H5 := H4.addNil 5 1
 exact ⟨b2, none, 0, rfl, H5.fn [1, 2], H5.upd 0 rfl [] (fun _ h => h.elim), H5.freshS 0 rfl (fun _ h => h) [1, 2] rfl rfl⟩
theorem wText_any (w : World) (s : List UInt8) (hs : 0 < s.length ∧ s.length ≤ 1000000) :
  Calls Tryz.prog 140 #[(strV s)] w fun e w' => ∃ r a c, e = .returned (.pointer (some ⟨r, 0, none⟩)) ∧ (sepC (wrL r a c (rowB s))).ok w' ∧ Upd [] w w' ∧ ∀ q_, (sepC (wrL r a c (rowB s))).fp q_ → w.heap.size ≤ q_ := by
 have H := Sat.start0 w
 refine calls_fr Tryz.func140 rfl 7 rfl (Nat.le_of_ble_eq_true rfl) ?_
 refine zsl <| wv 2 (.pointer none) <| znsl <| zwd fun Kq kq => zdc 3 (wNew_any w) ?_
 rintro _ w2 ⟨r3, a4, c5, rfl, k6, p7, q8⟩
 have H9 := H.addU p7 k6 q8
 have H10 := H9.open 1 rfl
 refine ⟨_, rfl, ?_⟩
 refine kq _ _ <| wv 4 (strV s) <| zwd fun Kq kq => d_convStr (e := 5) (s := s) rfl H10 (by kernel_rfl) (by kernel_rfl) (by kernel_rfl) rfl (by omega) (by omega) ?_
 intro b14 c15 w12 (H13 : Sat w [restC w (fun _ => False), cellC r3 266 (kWt_0 a4 (([] : List UInt8).length) c5), (kWt_1 a4 (([] : List UInt8)) c5), txtC (.slice (some ⟨b14, 0, none⟩) s.length c15) s] w12)
 refine kq _ _ <| zwd fun Kq kq => ?_
 have l22 := rowB_len s
 refine zdc 6 (wRowL_any w12 r3 a4 c5 ([] : List UInt8) (H13.fn [1, 2]) (by simp) (some ⟨b14, 0, none⟩) c15 s (ListAt.ofTxt (H13.at 3 rfl)) (off_txt (fun b hb => H13.offP [1, 2] 3 rfl rfl (by decide) hb)) (by first | omega | simp)) ?_
 rintro _ w17 ⟨a19, c20, rfl, T18⟩
 have H23 := H13.tl [cellC r3 266 (kWt_0 a19 ((([] : List UInt8) ++ rowB s).length) c20), (kWt_1 a19 (([] : List UInt8) ++ rowB s) c20)] [1, 2] [0, 3] T18 [2, 0, 1, 3]
 refine ⟨_, rfl, ?_⟩
 refine kq _ _ <| wv 2 (pt r3 0) <| znt <| w_ret <| ze1 (pt r3 0) ?_
 have hX : (([] : List UInt8) ++ rowB s) = rowB s := by exact List.nil_append _
 exact ⟨r3, a19, c20, rfl, (by rw [← hX]; exact H23.fn [1, 2]), H23.upd 0 rfl [] (fun _ h => h.elim), (by rw [← hX]; exact H23.freshS 0 rfl (fun _ h => h) [1, 2] rfl rfl)⟩
structure DenyD where
 r : Int
 i : Int
 sb : Int
 sm : Int
deriving DecidableEq
def encDn (d : DenyD) : List Value := [.int .i64 d.r, .int .i64 d.i, .int .i64 d.sb, .int .i64 d.sm]
theorem encDn_len (d : DenyD) : (encDn d).length = 4 := rfl
theorem encDn_one (d : DenyD) : (encDn d).all (·.oneCell') = true := by simp [encDn, Value.oneCell']
def deny0 : DenyD := ⟨0, 0, 0, 0⟩
def denyB (r i : Int) : List UInt8 := [rowB [100, 101, 110, 121], intB r, intB i].flatten
theorem denyB_len (r i : Int) : (denyB r i).length ≤ 40 := by
 unfold denyB
 have h1 := rowB_len [100, 101, 110, 121]
 have h2 := intB_len r
 have h3 := intB_len i
 simp only [List.length_cons, List.length_nil] at h1
 simp only [List.flatten_cons, List.flatten_nil, List.length_append, List.length_nil]
 omega
end Go.Proofs.YtenihpghfdcpkaaGreat
