/- WHAT IS PROVED: the walk of RevealTimes. Conditions: stated with each. -/
import Derived.Test.YtoiplcicbjimlaaShort
import Derived.Test.YtoiplcicbjimlaaTb16M
import Derived.Test.YtoiplcicbjimlaaMat16
namespace Go.Proofs.Ytoiplcicbjimlaa
open Go.RowKit

set_option maxRecDepth 100000 in
set_option maxHeartbeats 4000000 in
theorem times16_walk (w : World) (since now : Int) (hs : 0 ≤ since ∧ since ≤ 18446744073709551615) (hn : 0 ≤ now ∧ now ≤ 18446744073709551615) (opn : Bool) :
  Calls Try.prog 5 #[(.int .u64 (since)), (.int .u64 (now)), (.bool (opn))] w fun e w' => e = .returned (.bool true) ∧ Upd [] w w' := by
 have H := Sat.start0 w
 refine calls_fr Try.func5 rfl 138 rfl (Nat.le_of_ble_eq_true rfl) ?_
 refine w_seq ?_
 refine w_lit ?_
 refine wv 6 (.bool false) ?_
 refine w_nil ?_
 refine then_normal ?_
 refine w_seq ?_
 refine w_lit ?_
 refine wv 13 (.int .u64 (since)) ?_
 refine wv 14 (.int .u64 (since % 1000)) ?_ (hr := e_rem (by kernel_rfl) (by omega) (by omega))
 refine wv 15 (.int .u64 (now)) ?_
 refine wv 16 (.int .u64 (now % 1100)) ?_ (hr := e_rem (by kernel_rfl) (by omega) (by omega))
 refine wv 0 (.int .u64 (since % 1000)) ?_
 refine wv 1 (.int .u64 (now % 1100)) ?_
 refine w_nil ?_
 refine then_normal ?_
 refine w_seq ?_
 have hnil : ([] : List Signed).length = 0 := rfl
 obtain ⟨S, hS⟩ : ∃ S, S = since % 1000 := ⟨_, rfl⟩
 obtain ⟨N, hN⟩ : ∃ N, N = now % 1100 := ⟨_, rfl⟩
 have hS0 : 0 ≤ S ∧ S < 1000 := by omega
 have hN0 : 0 ≤ N ∧ N < 1100 := by omega
 refine wp_know 0 (.int .u64 (S)) (show ((.int .u64 (since % 1000)) : Value) = _ by rw [hS]) ?_
 refine wp_know 1 (.int .u64 (N)) (show ((.int .u64 (now % 1100)) : Value) = _ by rw [hN]) ?_
 refine w_lit ?_
 refine wl_do (wants0 rfl) (fun K1 hK1 => ?_)
 refine d_call (d := 18) rfl (by kernel_rfl) (new10_any w) ?_
 rintro _ w2 ⟨b3, m4, r5, rfl, k6, p7, q8⟩
 have H9 : Sat w [restC w (fun _ => False), sepC [cellC b3 103 [.map (some m4)], mapC m4 signedV (Value.int .i64) (marks []), cellC r5 96 [.slice none 0 0]]] w2 := H.addU p7 k6 q8
 have H10 : Sat w [restC w (fun _ => False), cellC b3 103 ([(.map (some m4))] : List Value), mapC m4 signedV (Value.int .i64) (marks ([] : List Signed)), cellC r5 96 ([(.slice none 0 0)] : List Value)] w2 := H9.open 1 rfl
 refine ⟨_, rfl, ?_⟩
 refine hK1 _ _ ?_
 clear hK1 K1
 refine wv 17 (.tuple #[(.agg ⟨([(pt b3 0), (pt r5 0)] : List Value)⟩), (.bool true)]) ?_
 refine wv 19 (.agg ⟨([(pt b3 0), (pt r5 0)] : List Value)⟩) ?_
 refine wv 20 (.bool true) ?_
 refine wl_do (wants0 rfl) (fun K11 hK11 => ?_)
 refine d_alloc (zs := ([(.pointer none), (.pointer none)] : List Value)) (z := (.agg ⟨([(.pointer none), (.pointer none)] : List Value)⟩)) rfl H10 (by kernel_rfl) (by kernel_rfl) ?_
 intro b12 w13 (H14 : Sat w [restC w (fun _ => False), cellC b3 103 ([(.map (some m4))] : List Value), mapC m4 signedV (Value.int .i64) (marks ([] : List Signed)), cellC r5 96 ([(.slice none 0 0)] : List Value), cellC b12 52 ([(.pointer none), (.pointer none)] : List Value)] w13)
 refine hK11 _ _ ?_
 clear hK11 K11
 refine wl_do (wants0 rfl) (fun K15 hK15 => ?_)
 refine d_storeX (vs := ([(pt b3 0), (pt r5 0)] : List Value)) (cs' := ([(pt b3 0), (pt r5 0)] : List Value)) rfl H14 4 rfl rfl rfl rfl (by kernel_rfl) (Nat.le_of_ble_eq_true (by kernel_rfl)) (Nat.le_of_ble_eq_true (by kernel_rfl)) (by kernel_rfl) (by kernel_rfl) ?_
 intro w16 (H17 : Sat w [restC w (fun _ => False), cellC b3 103 ([(.map (some m4))] : List Value), mapC m4 signedV (Value.int .i64) (marks ([] : List Signed)), cellC r5 96 ([(.slice none 0 0)] : List Value), cellC b12 52 ([(.pointer (some ⟨b3, 0, none⟩)), (.pointer (some ⟨r5, 0, none⟩))] : List Value)] w16)
 refine hK15 _ _ ?_
 clear hK15 K15
 refine wv 8 (.bool true) ?_
 refine w_nil ?_
 refine then_normal ?_
 refine w_seq ?_
 refine w_lit ?_
 refine wv 22 (.agg ⟨([(.int .i64 (1)), (.int .i64 (3))] : List Value)⟩) ?_
 refine wl_do (wants0 rfl) (fun K19 hK19 => ?_)
 refine d_call (d := 23) rfl (by kernel_rfl) (rvNew_any w16 (1 : Int) (3 : Int) (1 : Int) (by decide) (by decide)) ?_
 rintro _ w20 ⟨r21, m22, rfl, k23, p24, q25⟩
 have H26 : Sat w [restC w (fun _ => False), cellC b3 103 ([(.map (some m4))] : List Value), mapC m4 signedV (Value.int .i64) (marks ([] : List Signed)), cellC r5 96 ([(.slice none 0 0)] : List Value), cellC b12 52 ([(pt b3 0), (pt r5 0)] : List Value), sepC (rvL r21 m22 (1 : Int) (3 : Int) (1 : Int) [])] w20 := H17.addU p24 k23 q25
 have H27 : Sat w [restC w (fun _ => False), cellC b3 103 ([(.map (some m4))] : List Value), mapC m4 signedV (Value.int .i64) (marks ([] : List Signed)), cellC r5 96 ([(.slice none 0 0)] : List Value), cellC b12 52 ([(pt b3 0), (pt r5 0)] : List Value), cellC r21 86 ([(.int .i64 (1)), (.int .i64 (3)), (.int .i64 (1)), (.map (some m22))] : List Value), mapC m22 (Value.int .i64) encX ([] : List (Int × PlX)), denC ([] : List (Int × PlX))] w20 := H26.open 5 rfl
 refine ⟨_, rfl, ?_⟩
 refine hK19 _ _ ?_
 clear hK19 K19
 refine wv 21 (.tuple #[(pt r21 0), (.int .i64 (0))]) ?_
 refine wv 24 (pt r21 0) ?_
 refine wv 25 (.int .i64 (0)) ?_
 refine wv 9 (pt r21 0) ?_
 refine wv 10 (.int .i64 (0)) ?_
 refine w_nil ?_
 refine then_normal ?_
 iterate 2 refine w_seq ?_
 refine w_lit ?_
 refine wv 26 (.bool true) ?_
 refine wv 27 (.bool false) ?_
 refine wv 28 (.bool false) ?_
 refine wy 2 28 false 29 (.int .i64 (0)) ?_
 refine wy 2 28 false 30 (.bool false) ?_
 refine wv 31 (.bool false) ?_
 refine wv 32 (.bool false) ?_
 refine wy 6 32 false 33 (pt r21 0) ?_
 refine wy 6 32 false 34 (.bool false) ?_
 refine wv 35 (.bool false) ?_
 refine wv 36 (.bool false) ?_
 refine wy 10 36 false 37 (pt r21 0) ?_
 refine wl_do (wantsY 10 36 false rfl (by kernel_rfl) rfl (by kernel_rfl)) (fun K28 hK28 => ?_)
 refine d_call (d := 38) rfl (by kernel_rfl) (entry_any w20 (2 : Int)) ?_
 rintro _ w29 ⟨rfl, u31⟩
 have H30 := H27.keepU u31
 refine ⟨_, rfl, ?_⟩
 refine hK28 _ _ ?_
 clear hK28 K28
 refine wy 10 36 false 39 (.int .u64 (S)) ?_
 refine wl_do (wantsY 10 36 false rfl (by kernel_rfl) rfl (by kernel_rfl)) (fun K32 hK32 => ?_)
 refine d_call (d := 40) rfl (by kernel_rfl) (rvPlaceG_any w29 r21 m22 1 3 1 ([] : List (Int × PlX)) (H30.fin [5, 6, 7] (by decide) rfl) (2 : Int) (1 : Int) (1 + withinV (2 : Int) 9) (entH (2 : Int)) (3 : Int) S (by omega)) ?_
 rintro _ w33 ⟨M34, rfl, R35, T36⟩
 have H37 : Sat w [restC w (fun _ => False), cellC b3 103 ([(.map (some m4))] : List Value), mapC m4 signedV (Value.int .i64) (marks ([] : List Signed)), cellC r5 96 ([(.slice none 0 0)] : List Value), cellC b12 52 ([(pt b3 0), (pt r5 0)] : List Value), cellC r21 86 ([(.int .i64 (1)), (.int .i64 (3)), (.int .i64 (1)), (.map (some m22))] : List Value), mapC m22 (Value.int .i64) encX M34, denC M34] w33 := (Sat.turnL (L' := [cellC r21 86 ([(.int .i64 (1)), (.int .i64 (3)), (.int .i64 (1)), (.map (some m22))] : List Value), mapC m22 (Value.int .i64) encX M34, denC M34]) (R := [restC w (fun _ => False), cellC b3 103 ([(.map (some m4))] : List Value), mapC m4 signedV (Value.int .i64) (marks ([] : List Signed)), cellC r5 96 ([(.slice none 0 0)] : List Value), cellC b12 52 ([(pt b3 0), (pt r5 0)] : List Value)]) H30 [5, 6, 7] [0, 1, 2, 3, 4] (by decide) (by kernel_rfl) rfl T36).pick [3, 4, 5, 6, 7, 0, 1, 2] (by decide)
 refine ⟨_, rfl, ?_⟩
 obtain ⟨X38, hc39, ha40, hd41, hD42, hX43, hM44⟩ := R35.new rfl
 have hP45 := (PlI.nil 3 1).place R35 (by omega) rfl rfl rfl (by omega)
 have hk46 : M34.map (·.1) = [(2 : Int)] := by rw [hM44]; rfl
 have hs0 : X38.p.since = S := by have q := hc39; unfold coreX at q; simp only [Prod.mk.injEq] at q; exact q.2.2.2
 refine hK32 _ _ ?_
 clear hK32 K32
 refine wy 10 36 false 41 (.bool (!(!(lookM ([] : List (Int × PlX)) (2 : Int)).isSome))) ?_
 refine wv 42 (.bool (!(!(lookM ([] : List (Int × PlX)) (2 : Int)).isSome))) ?_
 refine wv 43 (.bool (!(!(lookM ([] : List (Int × PlX)) (2 : Int)).isSome))) ?_
 have b48 : (!(!(lookM ([] : List (Int × PlX)) (2 : Int)).isSome)) = false := by rfl
 refine wl_know 43 (.bool false) (congrArg Value.bool b48) ?_
 have g49 := bnot_false b48
 refine wy 17 43 false 44 (pt r21 0) ?_
 refine wl_do (wantsY 17 43 false rfl (by kernel_rfl) rfl (by kernel_rfl)) (fun K50 hK50 => ?_)
 refine d_call (d := 45) rfl (by kernel_rfl) (entry_any w33 (2 : Int)) ?_
 rintro _ w51 ⟨rfl, u53⟩
 have H52 := H37.keepU u53
 refine ⟨_, rfl, ?_⟩
 refine hK50 _ _ ?_
 clear hK50 K50
 refine wy 17 43 false 46 (.int .u64 (S)) ?_
 refine wl_do (wantsY 17 43 false rfl (by kernel_rfl) rfl (by kernel_rfl)) (fun K54 hK54 => ?_)
 refine d_call (d := 47) rfl (by kernel_rfl) (rvPlaceG_any w51 r21 m22 1 3 1 M34 (H52.fin [5, 6, 7] (by decide) rfl) (2 : Int) (1 : Int) (1 + withinV (2 : Int) 9) (entH (2 : Int)) (3 : Int) S (by omega)) ?_
 rintro _ w55 ⟨M56, rfl, R57, T58⟩
 have H59 : Sat w [restC w (fun _ => False), cellC b3 103 ([(.map (some m4))] : List Value), mapC m4 signedV (Value.int .i64) (marks ([] : List Signed)), cellC r5 96 ([(.slice none 0 0)] : List Value), cellC b12 52 ([(pt b3 0), (pt r5 0)] : List Value), cellC r21 86 ([(.int .i64 (1)), (.int .i64 (3)), (.int .i64 (1)), (.map (some m22))] : List Value), mapC m22 (Value.int .i64) encX M56, denC M56] w55 := (Sat.turnL (L' := [cellC r21 86 ([(.int .i64 (1)), (.int .i64 (3)), (.int .i64 (1)), (.map (some m22))] : List Value), mapC m22 (Value.int .i64) encX M56, denC M56]) (R := [restC w (fun _ => False), cellC b3 103 ([(.map (some m4))] : List Value), mapC m4 signedV (Value.int .i64) (marks ([] : List Signed)), cellC r5 96 ([(.slice none 0 0)] : List Value), cellC b12 52 ([(pt b3 0), (pt r5 0)] : List Value)]) H52 [5, 6, 7] [0, 1, 2, 3, 4] (by decide) (by kernel_rfl) rfl T58).pick [3, 4, 5, 6, 7, 0, 1, 2] (by decide)
 refine ⟨_, rfl, ?_⟩
 have q69 := R57.old hX43
 have hX65 : lookM M56 2 = some X38 := by rw [q69]; exact hX43
 have hP67 : PlI 3 1 M56 := by rw [q69]; exact hP45
 have hk68 : M56.map (·.1) = [(2 : Int)] := by rw [q69]; exact hk46
 refine hK54 _ _ ?_
 clear hK54 K54
 refine wv 48 (.bool (!(lookM M34 (2 : Int)).isSome)) ?_
 refine wv 49 (.bool (!(lookM M34 (2 : Int)).isSome)) ?_
 have b70 : (!(lookM M34 (2 : Int)).isSome) = false := by rw [hX43]; rfl
 refine wl_know 49 (.bool false) (congrArg Value.bool b70) ?_
 refine wy 23 49 false 50 (pt r21 0) ?_
 refine wl_do (wantsY 23 49 false rfl (by kernel_rfl) rfl (by kernel_rfl)) (fun K71 hK71 => ?_)
 refine d_call (d := 51) rfl (by kernel_rfl) (entry_any w55 (2 : Int)) ?_
 rintro _ w72 ⟨rfl, u74⟩
 have H73 := H59.keepU u74
 refine ⟨_, rfl, ?_⟩
 refine hK71 _ _ ?_
 clear hK71 K71
 refine wy 23 49 false 52 (.int .u64 (S)) ?_
 refine wl_do (wantsY 23 49 false rfl (by kernel_rfl) rfl (by kernel_rfl)) (fun K75 hK75 => ?_)
 refine d_call (d := 53) rfl (by kernel_rfl) (rvPlaceNeg_any w72 r21 m22 1 3 1 M56 (H73.at 5 rfl) (H73.at 6 rfl) (-1) (look_noneG.2 (by rw [hk68]; decide)) (by decide) (1 : Int) (1 + withinV (2 : Int) 9) (entH (2 : Int)) (3 : Int) S) ?_
 rintro _ w76 ⟨rfl, u80⟩
 have H81 := H73.keepU u80
 refine ⟨_, rfl, ?_⟩
 refine hK75 _ _ ?_
 clear hK75 K75
 refine wv 54 (.bool false) ?_
 refine w_nil ?_
 refine then_normal ?_
 refine wp_iff rfl ?_
 refine w_skip ?_
 refine then_normal ?_
 iterate 2 refine w_seq ?_
 refine w_lit ?_
 refine wv 55 (.bool (opn)) ?_
 refine wv 56 (.bool (opn)) ?_
 refine (bsplit (opn)).elim (fun b82 => ?_) (fun b82 => ?_)
 ·refine wl_know 56 (.bool true) (congrArg Value.bool b82) ?_
  refine wy 1 56 true 57 (pt r21 0) ?_
  refine wl_do (wantsY 1 56 true rfl (by kernel_rfl) rfl (by kernel_rfl)) (fun K83 hK83 => ?_)
  refine d_buildSlice (e := 5) (size := 1) (bytes := 1) (z := (.int .u8 (0))) (pvs := [(0, (.int .u8 (2)))]) (vs := ([(.int .u8 (2))] : List Value)) rfl H81 (by kernel_rfl) (by kernel_rfl) (by kernel_rfl) (by kernel_rfl) (by kernel_rfl) rfl rfl ?_
  intro b84 w85 (H86 : Sat w [restC w (fun _ => False), cellC b3 103 ([(.map (some m4))] : List Value), mapC m4 signedV (Value.int .i64) (marks ([] : List Signed)), cellC r5 96 ([(.slice none 0 0)] : List Value), cellC b12 52 ([(.pointer (some ⟨b3, 0, none⟩)), (.pointer (some ⟨r5, 0, none⟩))] : List Value), cellC r21 86 ([(.int .i64 (1)), (.int .i64 (3)), (.int .i64 (1)), (.map (some m22))] : List Value), mapC m22 (Value.int .i64) encX M56, denC M56, rowC 5 1 (.slice (some ⟨b84, 0, none⟩) 1 1) 1 ([(.int .u8 (2))] : List Value)] w85)
  have H87 : Sat w [restC w (fun _ => False), cellC b3 103 ([(.map (some m4))] : List Value), mapC m4 signedV (Value.int .i64) (marks ([] : List Signed)), cellC r5 96 ([(.slice none 0 0)] : List Value), cellC b12 52 ([(pt b3 0), (pt r5 0)] : List Value), cellC r21 86 ([(.int .i64 (1)), (.int .i64 (3)), (.int .i64 (1)), (.map (some m22))] : List Value), mapC m22 (Value.int .i64) encX M56, denC M56, rowC 5 1 (.slice (some ⟨b84, 0, none⟩) 1 1) 1 ([UInt8.ofNat (2 : Int).toNat].flatMap encB)] w85 := H86.cast (by rw [byte_enc (by omega)])
  refine hK83 _ _ ?_
  clear hK83 K83
  refine wy 1 56 true 59 (.agg ⟨(hc (hash1 (7)))⟩) ?_
  refine wy 1 56 true 60 (.agg ⟨(([(.int .i64 (2)), (.slice (some ⟨b84, 0, none⟩) 1 1)] : List Value) ++ hc (hash1 (7)))⟩) ?_
  refine wl_do (wantsY 1 56 true rfl (by kernel_rfl) rfl (by kernel_rfl)) (fun K88 hK88 => ?_)
  refine d_call (d := 61) rfl (by kernel_rfl) (rvOpenG_any w85 r21 m22 1 3 1 M56 (2 : Int) (some ⟨b84, 0, none⟩) 1 ([UInt8.ofNat (2 : Int).toNat]) (H87.fin [5, 6, 7, 8] (by decide) rfl) (hash1 (7)) (by simp) (hP67.mat (by rfl))) ?_
  rintro _ w89 ⟨c90, M91, rfl, R92, T93⟩
  have H94 : Sat w [restC w (fun _ => False), cellC b3 103 ([(.map (some m4))] : List Value), mapC m4 signedV (Value.int .i64) (marks ([] : List Signed)), cellC r5 96 ([(.slice none 0 0)] : List Value), cellC b12 52 ([(pt b3 0), (pt r5 0)] : List Value), cellC r21 86 ([(.int .i64 (1)), (.int .i64 (3)), (.int .i64 (1)), (.map (some m22))] : List Value), mapC m22 (Value.int .i64) encX M91, denC M91, rowC 5 1 (.slice (some ⟨b84, 0, none⟩) 1 1) 1 ([UInt8.ofNat (2 : Int).toNat].flatMap encB)] w89 := (Sat.turnL (L' := [cellC r21 86 ([(.int .i64 (1)), (.int .i64 (3)), (.int .i64 (1)), (.map (some m22))] : List Value), mapC m22 (Value.int .i64) encX M91, denC M91, rowC 5 1 (.slice (some ⟨b84, 0, none⟩) 1 1) 1 ([UInt8.ofNat (2 : Int).toNat].flatMap encB)]) (R := [restC w (fun _ => False), cellC b3 103 ([(.map (some m4))] : List Value), mapC m4 signedV (Value.int .i64) (marks ([] : List Signed)), cellC r5 96 ([(.slice none 0 0)] : List Value), cellC b12 52 ([(pt b3 0), (pt r5 0)] : List Value)]) H87 [5, 6, 7, 8] [0, 1, 2, 3, 4] (by decide) (by kernel_rfl) rfl T93).pick [4, 5, 6, 7, 8, 0, 1, 2, 3] (by decide)
  refine ⟨_, rfl, ?_⟩
  obtain ⟨hc0, X95, ha97, hd98, hc96, hD99, hX100, hM101⟩ := R92.fresh hX65 ha40 hd41
  have hP102 := (hP67.open R92 (by simp)).1
  have hk103 := hM101.trans hk68
  have hs105 : X95.p.since = S := by have q := hc96; unfold coreX at q; simp only [Prod.mk.injEq] at q; exact q.2.2.2.trans hs0
  refine hK88 _ _ ?_
  clear hK88 K88
  refine wy 1 56 true 62 (.bool (!(decide (c90 = 0)))) ?_
  refine wv 63 (.bool (!(decide (c90 = 0)))) ?_
  refine w_nil ?_
  refine then_normal ?_
  have b106 : (!(decide (c90 = 0))) = false := by (rw [decide_eq_true hc0]; rfl)
  refine wp_know 63 (.bool false) (congrArg Value.bool b106) ?_
  have g107 := bnot_false b106
  have g108 := of_decide_eq_true g107
  refine wp_iff rfl ?_
  refine w_skip ?_
  refine then_normal ?_
  refine w_seq ?_
  refine w_lit ?_
  refine wv 64 (pt r21 0) ?_
  refine wv 65 (pt b12 0) ?_
  refine wv 66 (pt b3 0) ?_ (hr := e_load1 rfl (by kernel_rfl) (H94.cell 4 rfl rfl))
  refine wv 67 (.int .u64 (N)) ?_
  refine wl_do (wants0 rfl) (fun K109 hK109 => ?_)
  refine d_call (d := 68) rfl (by kernel_rfl) (rvDue_any w89 r21 m22 1 3 1 M91 b3 m4 ([] : List Signed) (H94.fin [5, 6, 7, 1, 2] (by decide) rfl) (by have q := congrArg List.length hk103; simp at q; omega) (hP102.i64 (by decide)) hP102.nd hP102.since (by decide) N (by omega) (by omega)) ?_
  rintro _ w110 ⟨M111, N112, a113, c114, O115, rfl, R116, n117, T118⟩
  have H119 : Sat w [restC w (fun _ => False), cellC b3 103 ([(.map (some m4))] : List Value), mapC m4 signedV (Value.int .i64) (marks N112), cellC r5 96 ([(.slice none 0 0)] : List Value), cellC b12 52 ([(pt b3 0), (pt r5 0)] : List Value), cellC r21 86 ([(.int .i64 (1)), (.int .i64 (3)), (.int .i64 (1)), (.map (some m22))] : List Value), mapC m22 (Value.int .i64) encX M111, denC M111, rowC 5 1 (.slice (some ⟨b84, 0, none⟩) 1 1) 1 ([UInt8.ofNat (2 : Int).toNat].flatMap encB), rowC 63 4 (.slice a113 O115.length c114) O115.length (O115.flatMap encDn)] w110 := (Sat.turnL (L' := [cellC r21 86 ([(.int .i64 (1)), (.int .i64 (3)), (.int .i64 (1)), (.map (some m22))] : List Value), mapC m22 (Value.int .i64) encX M111, denC M111, cellC b3 103 ([(.map (some m4))] : List Value), mapC m4 signedV (Value.int .i64) (marks N112), rowC 63 4 (.slice a113 O115.length c114) O115.length (O115.flatMap encDn)]) (R := [restC w (fun _ => False), cellC r5 96 ([(.slice none 0 0)] : List Value), cellC b12 52 ([(pt b3 0), (pt r5 0)] : List Value), rowC 5 1 (.slice (some ⟨b84, 0, none⟩) 1 1) 1 ([UInt8.ofNat (2 : Int).toNat].flatMap encB)]) H94 [5, 6, 7, 1, 2] [0, 3, 4, 8] (by decide) (by kernel_rfl) rfl T118).pick [6, 3, 4, 7, 8, 0, 1, 2, 9, 5] (by decide)
  refine ⟨_, rfl, ?_⟩
  obtain ⟨hO, hk128, X120, hX125, hcx, hax, _, _, hdx, _⟩ := R116.one hk103 hX100
  have hP127 := hP102.due R116
  have hdue : dueX N X95 = false := by unfold dueX; rw [ha97]; rfl
  have ha122 : X120.p.acked = true := hax.trans ha97
  have hd123 : X120.p.denied = false := by rw [hdx, hd98, hdue]; rfl
  have hol : O115.length = 0 := by have q := congrArg List.length hO; rw [hdue] at q; simpa using q
  refine hK109 _ _ ?_
  clear hK109 K109
  refine wv 11 (.slice a113 O115.length c114) ?_
  refine w_nil ?_
  refine then_normal ?_
  refine w_seq ?_
  refine w_lit ?_
  refine wv 69 (.bool (opn)) ?_
  refine wv 70 (.bool (!(opn))) ?_
  refine wv 71 (.bool (!(opn))) ?_
  have b130 : (!(opn)) = false := by rw [b82]; rfl
  refine wl_know 71 (.bool false) (congrArg Value.bool b130) ?_
  have g131 := bnot_false b130
  iterate 4 refine wn 2 71 true ?_
  refine wv 76 (.bool false) ?_
  refine wv 12 (.bool false) ?_
  refine w_nil ?_
  refine then_normal ?_
  iterate 2 refine w_seq ?_
  refine w_lit ?_
  refine wv 77 (.slice a113 O115.length c114) ?_
  refine wv 78 (.int .i64 ((O115.length : Int))) ?_
  refine wv 79 (.bool (decide ((O115.length : Int) = 1))) ?_
  refine wv 80 (.bool false) ?_
  refine wv 81 (.bool (!((decide ((O115.length : Int) = 1)) == false))) ?_
  refine wv 82 (.bool (!((decide ((O115.length : Int) = 1)) == false))) ?_
  have b132 : (!((decide ((O115.length : Int) = 1)) == false)) = false := by (rw [decide_eq_false (by omega)]; rfl)
  refine wl_know 82 (.bool false) (congrArg Value.bool b132) ?_
  have g133 := bnot_false b132
  refine wy 5 82 false 83 (.slice a113 O115.length c114) ?_
  refine wy 5 82 false 84 (.int .i64 ((O115.length : Int))) ?_
  refine wy 5 82 false 85 (.bool (decide ((O115.length : Int) > 1))) ?_
  refine wv 86 (.bool (decide ((O115.length : Int) > 1))) ?_
  refine wv 87 (.bool (decide ((O115.length : Int) > 1))) ?_
  have b134 : (decide ((O115.length : Int) > 1)) = false := by (exact decide_eq_false (by omega))
  refine wl_know 87 (.bool false) (congrArg Value.bool b134) ?_
  have g135 := of_decide_eq_false b134
  refine wy 10 87 false 88 (pt r21 0) ?_
  refine wl_do (wantsY 10 87 false rfl (by kernel_rfl) rfl (by kernel_rfl)) (fun K136 hK136 => ?_)
  refine d_call (d := 89) rfl (by kernel_rfl) (rvDeniedG_any w110 r21 m22 1 3 1 M111 (H119.at 5 rfl) (H119.at 6 rfl) (2 : Int)) ?_
  rintro _ w137 ⟨rfl, u139⟩
  have H138 := H119.keepU u139
  refine ⟨_, rfl, ?_⟩
  refine hK136 _ _ ?_
  clear hK136 K136
  refine wy 10 87 false 90 (.bool false) ?_
  refine wy 10 87 false 91 (.bool (!((denB M111 (2 : Int)) == false))) ?_
  refine wv 92 (.bool (!((denB M111 (2 : Int)) == false))) ?_
  refine wv 93 (.bool (!((denB M111 (2 : Int)) == false))) ?_
  have b140 : (!((denB M111 (2 : Int)) == false)) = false := by (rw [denB_at hX125, hd123]; rfl)
  refine wl_know 93 (.bool false) (congrArg Value.bool b140) ?_
  have g141 := bnot_false b140
  refine wy 16 93 false 94 (pt r21 0) ?_
  refine wl_do (wantsY 16 93 false rfl (by kernel_rfl) rfl (by kernel_rfl)) (fun K142 hK142 => ?_)
  refine d_call (d := 95) rfl (by kernel_rfl) (rvAckedG_any w137 r21 m22 1 3 1 M111 (H138.at 5 rfl) (H138.at 6 rfl) (2 : Int)) ?_
  rintro _ w143 ⟨rfl, u145⟩
  have H144 := H138.keepU u145
  refine ⟨_, rfl, ?_⟩
  refine hK142 _ _ ?_
  clear hK142 K142
  refine wy 16 93 false 96 (.bool (opn)) ?_
  refine wy 16 93 false 97 (.bool (!((ackB M111 (2 : Int)) == (opn)))) ?_
  refine wv 98 (.bool (!((ackB M111 (2 : Int)) == (opn)))) ?_
  refine w_nil ?_
  refine then_normal ?_
  have b146 : (!((ackB M111 (2 : Int)) == (opn))) = false := by (rw [ackB_at hX125, ha122, b82]; rfl)
  refine wp_know 98 (.bool false) (congrArg Value.bool b146) ?_
  have g147 := bnot_false b146
  refine wp_iff rfl ?_
  refine w_skip ?_
  refine then_normal ?_
  iterate 2 refine w_seq ?_
  refine w_lit ?_
  refine wv 99 (.bool false) ?_
  refine wv 100 (.bool false) ?_
  iterate 6 refine wn 1 100 true ?_
  refine wv 107 (.bool false) ?_
  refine w_nil ?_
  refine then_normal ?_
  refine wp_iff rfl ?_
  refine w_skip ?_
  refine then_normal ?_
  refine w_seq ?_
  refine h_start H144 [restC w (fun _ => False), cellC b3 103 ([(.map (some m4))] : List Value), mapC m4 signedV (Value.int .i64) (marks N112), cellC r5 96 ([(.slice none 0 0)] : List Value), cellC b12 52 ([(pt b3 0), (pt r5 0)] : List Value), cellC r21 86 ([(.int .i64 (1)), (.int .i64 (3)), (.int .i64 (1)), (.map (some m22))] : List Value), rowC 5 1 (.slice (some ⟨b84, 0, none⟩) 1 1) 1 ([UInt8.ofNat (2 : Int).toNat].flatMap encB), rowC 63 4 (.slice a113 O115.length c114) O115.length (O115.flatMap encDn)] 32 rfl (by kernel_rfl) (fun Hx => (Hx.pick [0, 1, 2, 3, 4, 5, 8, 9] (by decide))) ?_
  intro w148 H149 S150
  refine hv0 0 S150 108 (pt r21 0) ?_
  refine hv0 6 S150 113 (.bool (opn)) ?_
  refine h_do2 1 3 rfl rfl (by kernel_rfl) (wants0 rfl) (wants0 rfl) (fun K151 hK151 => ?_) (fun K151 hK151 => ?_)
  ·refine d_call (d := 109) rfl (by kernel_rfl) (rvOpenings_any w148 r21 m22 1 3 1 M111 (H149.at 5 rfl) (H149.at 6 rfl) (by have q := congrArg List.length hk128; simp at q; omega) (hP127.i64 (by decide)) (H149.at 7 rfl) hP127.pay) ?_
   rintro _ w152 ⟨a153, c154, O155, rfl, o156, k157, u158, q159⟩
   have H160 : Sat w [restC w (fun _ => False), cellC b3 103 ([(.map (some m4))] : List Value), mapC m4 signedV (Value.int .i64) (marks N112), cellC r5 96 ([(.slice none 0 0)] : List Value), cellC b12 52 ([(pt b3 0), (pt r5 0)] : List Value), cellC r21 86 ([(.int .i64 (1)), (.int .i64 (3)), (.int .i64 (1)), (.map (some m22))] : List Value), mapC m22 (Value.int .i64) encX M111, denC M111, rowC 5 1 (.slice (some ⟨b84, 0, none⟩) 1 1) 1 ([UInt8.ofNat (2 : Int).toNat].flatMap encB), rowC 63 4 (.slice a113 O115.length c114) O115.length (O115.flatMap encDn), rowC 43 34 (.slice a153 O155.length c154) O155.length (O155.flatMap encOp)] w152 := H149.addU u158 k157 q159
   refine ⟨_, rfl, ?_⟩
   have hop : O155.length = 1 := by rw [opens_one o156 hk128 hX125, ha122]; rfl
   have S171 := H160.pick [0, 1, 2, 3, 4, 5, 8, 9] (by decide)
   refine hK151 _ _ S171 ?_
   clear hK151 K151
   refine h_val 2 rfl (by kernel_rfl) (by kernel_rfl) (by kernel_rfl) (fun _ _ _ h => h) S171 (wants0 rfl) (d := 110) (v := (.int .i64 ((O155.length : Int)))) rfl (fun _ H' => (by kernel_rfl)) ?_
   refine h_do 3 rfl (by kernel_rfl) (wants0 rfl) (fun K172 hK172 => ?_)
   refine d_makeMap Value.bool (Value.int .i64) rfl H160 ?_
   intro b173 w174 (H175 : Sat w [restC w (fun _ => False), cellC b3 103 ([(.map (some m4))] : List Value), mapC m4 signedV (Value.int .i64) (marks N112), cellC r5 96 ([(.slice none 0 0)] : List Value), cellC b12 52 ([(.pointer (some ⟨b3, 0, none⟩)), (.pointer (some ⟨r5, 0, none⟩))] : List Value), cellC r21 86 ([(.int .i64 (1)), (.int .i64 (3)), (.int .i64 (1)), (.map (some m22))] : List Value), mapC m22 (Value.int .i64) encX M111, denC M111, rowC 5 1 (.slice (some ⟨b84, 0, none⟩) 1 1) 1 ([UInt8.ofNat (2 : Int).toNat].flatMap encB), rowC 63 4 (.slice a113 O115.length c114) O115.length (O115.flatMap encDn), rowC 43 34 (.slice a153 O155.length c154) O155.length (O155.flatMap encOp), mapC b173 Value.bool (Value.int .i64) []] w174)
   have S176 := H175.pick [0, 1, 2, 3, 4, 5, 8, 9] (by decide)
   refine hK172 _ _ S176 ?_
   clear hK172 K172
   refine h_do 4 rfl (by kernel_rfl) (wants0 rfl) (fun K177 hK177 => ?_)
   refine d_insert (kt := 4) (et := 3) rfl H175 11 rfl (KeyTy.bool (by kernel_rfl)) (by kernel_rfl) rfl true rfl (1 : Int) rfl ?_
   intro w178 (H179 : Sat w [restC w (fun _ => False), cellC b3 103 ([(.map (some m4))] : List Value), mapC m4 signedV (Value.int .i64) (marks N112), cellC r5 96 ([(.slice none 0 0)] : List Value), cellC b12 52 ([(.pointer (some ⟨b3, 0, none⟩)), (.pointer (some ⟨r5, 0, none⟩))] : List Value), cellC r21 86 ([(.int .i64 (1)), (.int .i64 (3)), (.int .i64 (1)), (.map (some m22))] : List Value), mapC m22 (Value.int .i64) encX M111, denC M111, rowC 5 1 (.slice (some ⟨b84, 0, none⟩) 1 1) 1 ([UInt8.ofNat (2 : Int).toNat].flatMap encB), rowC 63 4 (.slice a113 O115.length c114) O115.length (O115.flatMap encDn), rowC 43 34 (.slice a153 O155.length c154) O155.length (O155.flatMap encOp), mapC b173 Value.bool (Value.int .i64) (putM [] true (1 : Int))] w178)
   have S180 := H179.pick [0, 1, 2, 3, 4, 5, 8, 9] (by decide)
   refine hK177 _ _ S180 ?_
   clear hK177 K177
   refine hv0 5 S180 112 (.map (some b173)) ?_
   refine h_do 7 rfl (by kernel_rfl) (wants0 rfl) (fun K181 hK181 => ?_)
   refine d_pure (d := 114) (v := (.int .i64 ((lookM (putM [] true (1 : Int)) (opn)).getD 0))) rfl (e_lookup (kt := 4) (et := 3) (KeyTy.bool (by kernel_rfl)) (by kernel_rfl) (fun w => by kernel_rfl) rfl (opn) rfl (H179.at 11 rfl) (optD (Value.int .i64) _ _)) ?_
   have S182 := H179.pick [0, 1, 2, 3, 4, 5, 8, 9] (by decide)
   refine hK181 _ _ S182 ?_
   clear hK181 K181
   refine hv0 8 S182 115 (.bool (decide ((O155.length : Int) = ((lookM (putM [] true (1 : Int)) (opn)).getD 0)))) ?_
   refine hv0 9 S182 116 (.bool (decide ((O155.length : Int) = ((lookM (putM [] true (1 : Int)) (opn)).getD 0)))) ?_
   have b183 : (decide ((O155.length : Int) = ((lookM (putM [] true (1 : Int)) (opn)).getD 0))) = true := by (rw [b82]; exact decide_eq_true (by rw [hop]; rfl))
   refine h_know 116 (.bool true) (congrArg Value.bool b183) ?_
   have g184 := of_decide_eq_true b183
   refine h_val 10 rfl (by kernel_rfl) (by kernel_rfl) (by kernel_rfl) (fun _ _ _ h => h) S182 (wantsY 9 116 true rfl (by kernel_rfl) rfl (by kernel_rfl)) (d := 117) (v := (pt r21 0)) rfl (fun _ H' => (by kernel_rfl)) ?_
   refine h_do 11 rfl (by kernel_rfl) (wantsY 9 116 true rfl (by kernel_rfl) rfl (by kernel_rfl)) (fun K185 hK185 => ?_)
   refine d_call (d := 118) rfl (by kernel_rfl) (rvForgetG_any w178 r21 m22 1 3 1 M111 (H179.fin [5, 6, 7] (by decide) rfl) (2 : Int)) ?_
   rintro _ w186 ⟨rfl, T187⟩
   have H188 : Sat w [restC w (fun _ => False), cellC b3 103 ([(.map (some m4))] : List Value), mapC m4 signedV (Value.int .i64) (marks N112), cellC r5 96 ([(.slice none 0 0)] : List Value), cellC b12 52 ([(pt b3 0), (pt r5 0)] : List Value), cellC r21 86 ([(.int .i64 (1)), (.int .i64 (3)), (.int .i64 (1)), (.map (some m22))] : List Value), mapC m22 (Value.int .i64) encX (delM M111 (2 : Int)), denC (delM M111 (2 : Int)), rowC 5 1 (.slice (some ⟨b84, 0, none⟩) 1 1) 1 ([UInt8.ofNat (2 : Int).toNat].flatMap encB), rowC 63 4 (.slice a113 O115.length c114) O115.length (O115.flatMap encDn), rowC 43 34 (.slice a153 O155.length c154) O155.length (O155.flatMap encOp), mapC b173 Value.bool (Value.int .i64) (putM [] true (1 : Int))] w186 := (Sat.turnL (L' := [cellC r21 86 ([(.int .i64 (1)), (.int .i64 (3)), (.int .i64 (1)), (.map (some m22))] : List Value), mapC m22 (Value.int .i64) encX (delM M111 (2 : Int)), denC (delM M111 (2 : Int))]) (R := [restC w (fun _ => False), cellC b3 103 ([(.map (some m4))] : List Value), mapC m4 signedV (Value.int .i64) (marks N112), cellC r5 96 ([(.slice none 0 0)] : List Value), cellC b12 52 ([(pt b3 0), (pt r5 0)] : List Value), rowC 5 1 (.slice (some ⟨b84, 0, none⟩) 1 1) 1 ([UInt8.ofNat (2 : Int).toNat].flatMap encB), rowC 63 4 (.slice a113 O115.length c114) O115.length (O115.flatMap encDn), rowC 43 34 (.slice a153 O155.length c154) O155.length (O155.flatMap encOp), mapC b173 Value.bool (Value.int .i64) (putM [] true (1 : Int))]) H179 [5, 6, 7] [0, 1, 2, 3, 4, 8, 9, 10, 11] (by decide) (by kernel_rfl) rfl T187).pick [3, 4, 5, 6, 7, 0, 1, 2, 8, 9, 10, 11] (by decide)
   refine ⟨_, rfl, ?_⟩
   have S199 := H188.pick [0, 1, 2, 3, 4, 5, 8, 9] (by decide)
   refine hK185 _ _ S199 ?_
   clear hK185 K185
   refine hv0 12 S199 119 (.bool ((lookM M111 (2 : Int)).isSome)) ?_
   refine hv0 13 S199 120 (.bool ((lookM M111 (2 : Int)).isSome)) ?_
   have b200 : ((lookM M111 (2 : Int)).isSome) = true := by (rw [hX125]; rfl)
   refine h_know 120 (.bool true) (congrArg Value.bool b200) ?_
   refine h_val 14 rfl (by kernel_rfl) (by kernel_rfl) (by kernel_rfl) (fun _ _ _ h => h) S199 (wantsY 13 120 true rfl (by kernel_rfl) rfl (by kernel_rfl)) (d := 121) (v := (pt r21 0)) rfl (fun _ H' => (by kernel_rfl)) ?_
   refine h_do 15 rfl (by kernel_rfl) (wantsY 13 120 true rfl (by kernel_rfl) rfl (by kernel_rfl)) (fun K201 hK201 => ?_)
   refine d_call (d := 122) rfl (by kernel_rfl) (rvForgetG_any w186 r21 m22 1 3 1 (delM M111 (2 : Int)) (H188.fin [5, 6, 7] (by decide) rfl) (2 : Int)) ?_
   rintro _ w202 ⟨rfl, T203⟩
   have H204 : Sat w [restC w (fun _ => False), cellC b3 103 ([(.map (some m4))] : List Value), mapC m4 signedV (Value.int .i64) (marks N112), cellC r5 96 ([(.slice none 0 0)] : List Value), cellC b12 52 ([(pt b3 0), (pt r5 0)] : List Value), cellC r21 86 ([(.int .i64 (1)), (.int .i64 (3)), (.int .i64 (1)), (.map (some m22))] : List Value), mapC m22 (Value.int .i64) encX (delM (delM M111 (2 : Int)) (2 : Int)), denC (delM (delM M111 (2 : Int)) (2 : Int)), rowC 5 1 (.slice (some ⟨b84, 0, none⟩) 1 1) 1 ([UInt8.ofNat (2 : Int).toNat].flatMap encB), rowC 63 4 (.slice a113 O115.length c114) O115.length (O115.flatMap encDn), rowC 43 34 (.slice a153 O155.length c154) O155.length (O155.flatMap encOp), mapC b173 Value.bool (Value.int .i64) (putM [] true (1 : Int))] w202 := (Sat.turnL (L' := [cellC r21 86 ([(.int .i64 (1)), (.int .i64 (3)), (.int .i64 (1)), (.map (some m22))] : List Value), mapC m22 (Value.int .i64) encX (delM (delM M111 (2 : Int)) (2 : Int)), denC (delM (delM M111 (2 : Int)) (2 : Int))]) (R := [restC w (fun _ => False), cellC b3 103 ([(.map (some m4))] : List Value), mapC m4 signedV (Value.int .i64) (marks N112), cellC r5 96 ([(.slice none 0 0)] : List Value), cellC b12 52 ([(pt b3 0), (pt r5 0)] : List Value), rowC 5 1 (.slice (some ⟨b84, 0, none⟩) 1 1) 1 ([UInt8.ofNat (2 : Int).toNat].flatMap encB), rowC 63 4 (.slice a113 O115.length c114) O115.length (O115.flatMap encDn), rowC 43 34 (.slice a153 O155.length c154) O155.length (O155.flatMap encOp), mapC b173 Value.bool (Value.int .i64) (putM [] true (1 : Int))]) H188 [5, 6, 7] [0, 1, 2, 3, 4, 8, 9, 10, 11] (by decide) (by kernel_rfl) rfl T203).pick [3, 4, 5, 6, 7, 0, 1, 2, 8, 9, 10, 11] (by decide)
   refine ⟨_, rfl, ?_⟩
   have S215 := H204.pick [0, 1, 2, 3, 4, 5, 8, 9] (by decide)
   refine hK201 _ _ S215 ?_
   clear hK201 K201
   refine h_val 16 rfl (by kernel_rfl) (by kernel_rfl) (by kernel_rfl) (fun _ _ _ h => h) S215 (wantsY 13 120 true rfl (by kernel_rfl) rfl (by kernel_rfl)) (d := 123) (v := (.bool (!((lookM (delM M111 (2 : Int)) (2 : Int)).isSome)))) rfl (fun _ H' => (by kernel_rfl)) ?_
   refine hv0 17 S215 124 (.bool (!((lookM (delM M111 (2 : Int)) (2 : Int)).isSome))) ?_
   refine hv0 18 S215 125 (.bool (!((lookM (delM M111 (2 : Int)) (2 : Int)).isSome))) ?_
   have b216 : (!((lookM (delM M111 (2 : Int)) (2 : Int)).isSome)) = true := by (rw [gone_one hk128]; rfl)
   refine h_know 125 (.bool true) (congrArg Value.bool b216) ?_
   have g217 := bnot_true b216
   refine h_val 19 rfl (by kernel_rfl) (by kernel_rfl) (by kernel_rfl) (fun _ _ _ h => h) S215 (wantsY 18 125 true rfl (by kernel_rfl) rfl (by kernel_rfl)) (d := 126) (v := (pt r21 0)) rfl (fun _ H' => (by kernel_rfl)) ?_
   refine h_do 20 rfl (by kernel_rfl) (wantsY 18 125 true rfl (by kernel_rfl) rfl (by kernel_rfl)) (fun K218 hK218 => ?_)
   refine d_call (d := 127) rfl (by kernel_rfl) (rvAckedG_any w202 r21 m22 1 3 1 (delM (delM M111 (2 : Int)) (2 : Int)) (H204.at 5 rfl) (H204.at 6 rfl) (2 : Int)) ?_
   rintro _ w219 ⟨rfl, u221⟩
   have H220 := H204.keepU u221
   refine ⟨_, rfl, ?_⟩
   have S222 := H220.pick [0, 1, 2, 3, 4, 5, 8, 9] (by decide)
   refine hK218 _ _ S222 ?_
   clear hK218 K218
   refine h_val 21 rfl (by kernel_rfl) (by kernel_rfl) (by kernel_rfl) (fun _ _ _ h => h) S222 (wantsY 18 125 true rfl (by kernel_rfl) rfl (by kernel_rfl)) (d := 128) (v := (.bool (!(ackB (delM (delM M111 (2 : Int)) (2 : Int)) (2 : Int))))) rfl (fun _ H' => (by kernel_rfl)) ?_
   refine hv0 22 S222 129 (.bool (!(ackB (delM (delM M111 (2 : Int)) (2 : Int)) (2 : Int)))) ?_
   refine hv0 23 S222 130 (.bool (!(ackB (delM (delM M111 (2 : Int)) (2 : Int)) (2 : Int)))) ?_
   have b223 : (!(ackB (delM (delM M111 (2 : Int)) (2 : Int)) (2 : Int))) = true := by (unfold ackB; rw [gone_two hk128]; rfl)
   refine h_know 130 (.bool true) (congrArg Value.bool b223) ?_
   have g224 := bnot_true b223
   refine h_val 24 rfl (by kernel_rfl) (by kernel_rfl) (by kernel_rfl) (fun _ _ _ h => h) S222 (wantsY 23 130 true rfl (by kernel_rfl) rfl (by kernel_rfl)) (d := 131) (v := (pt r21 0)) rfl (fun _ H' => (by kernel_rfl)) ?_
   refine h_do 25 rfl (by kernel_rfl) (wantsY 23 130 true rfl (by kernel_rfl) rfl (by kernel_rfl)) (fun K225 hK225 => ?_)
   refine d_call (d := 132) rfl (by kernel_rfl) (rvDeniedG_any w219 r21 m22 1 3 1 (delM (delM M111 (2 : Int)) (2 : Int)) (H220.at 5 rfl) (H220.at 6 rfl) (2 : Int)) ?_
   rintro _ w226 ⟨rfl, u228⟩
   have H227 := H220.keepU u228
   refine ⟨_, rfl, ?_⟩
   have S229 := H227.pick [0, 1, 2, 3, 4, 5, 8, 9] (by decide)
   refine hK225 _ _ S229 ?_
   clear hK225 K225
   refine h_val 26 rfl (by kernel_rfl) (by kernel_rfl) (by kernel_rfl) (fun _ _ _ h => h) S229 (wantsY 23 130 true rfl (by kernel_rfl) rfl (by kernel_rfl)) (d := 133) (v := (.bool (!(denB (delM (delM M111 (2 : Int)) (2 : Int)) (2 : Int))))) rfl (fun _ H' => (by kernel_rfl)) ?_
   refine hv0 27 S229 134 (.bool (!(denB (delM (delM M111 (2 : Int)) (2 : Int)) (2 : Int)))) ?_
   refine hv0 28 S229 135 (.bool (!(denB (delM (delM M111 (2 : Int)) (2 : Int)) (2 : Int)))) ?_
   have b230 : (!(denB (delM (delM M111 (2 : Int)) (2 : Int)) (2 : Int))) = true := by (unfold denB; rw [gone_two hk128]; rfl)
   refine h_know 135 (.bool true) (congrArg Value.bool b230) ?_
   have g231 := bnot_true b230
   refine h_do 29 rfl (by kernel_rfl) (wantsY 28 135 true rfl (by kernel_rfl) rfl (by kernel_rfl)) (fun K232 hK232 => ?_)
   refine d_call (d := 136) rfl (by kernel_rfl) (wakes_any w226) ?_
   rintro _ w233 ⟨rfl, u235⟩
   have H234 := H227.keepU u235
   refine ⟨_, rfl, ?_⟩
   have S236 := H234.pick [0, 1, 2, 3, 4, 5, 8, 9] (by decide)
   refine hK232 _ _ S236 ?_
   clear hK232 K232
   refine hv0 30 S236 137 (.bool true) ?_
   refine hv0 31 S236 6 (.bool true) ?_
   refine h_fin (by kernel_rfl) ?_
   refine then_normal ?_
   refine w_ret ?_
   refine end1 rfl (res_tmp (v := (.bool true)) rfl) ?_
   exact ⟨rfl, H234.upd 0 rfl [] (fun _ h => h.elim)⟩
  ·refine d_makeMap Value.bool (Value.int .i64) rfl H149 ?_
   intro b237 w238 (H239 : Sat w [restC w (fun _ => False), cellC b3 103 ([(.map (some m4))] : List Value), mapC m4 signedV (Value.int .i64) (marks N112), cellC r5 96 ([(.slice none 0 0)] : List Value), cellC b12 52 ([(.pointer (some ⟨b3, 0, none⟩)), (.pointer (some ⟨r5, 0, none⟩))] : List Value), cellC r21 86 ([(.int .i64 (1)), (.int .i64 (3)), (.int .i64 (1)), (.map (some m22))] : List Value), mapC m22 (Value.int .i64) encX M111, denC M111, rowC 5 1 (.slice (some ⟨b84, 0, none⟩) 1 1) 1 ([UInt8.ofNat (2 : Int).toNat].flatMap encB), rowC 63 4 (.slice a113 O115.length c114) O115.length (O115.flatMap encDn), mapC b237 Value.bool (Value.int .i64) []] w238)
   have S240 := H239.pick [0, 1, 2, 3, 4, 5, 8, 9] (by decide)
   refine hK151 _ _ S240 ?_
   clear hK151 K151
   refine h_do2 1 4 rfl rfl (by kernel_rfl) (wants0 rfl) (wants0 rfl) (fun K241 hK241 => ?_) (fun K241 hK241 => ?_)
   ·refine d_call (d := 109) rfl (by kernel_rfl) (rvOpenings_any w238 r21 m22 1 3 1 M111 (H239.at 5 rfl) (H239.at 6 rfl) (by have q := congrArg List.length hk128; simp at q; omega) (hP127.i64 (by decide)) (H239.at 7 rfl) hP127.pay) ?_
    rintro _ w242 ⟨a243, c244, O245, rfl, o246, k247, u248, q249⟩
    have H250 : Sat w [restC w (fun _ => False), cellC b3 103 ([(.map (some m4))] : List Value), mapC m4 signedV (Value.int .i64) (marks N112), cellC r5 96 ([(.slice none 0 0)] : List Value), cellC b12 52 ([(pt b3 0), (pt r5 0)] : List Value), cellC r21 86 ([(.int .i64 (1)), (.int .i64 (3)), (.int .i64 (1)), (.map (some m22))] : List Value), mapC m22 (Value.int .i64) encX M111, denC M111, rowC 5 1 (.slice (some ⟨b84, 0, none⟩) 1 1) 1 ([UInt8.ofNat (2 : Int).toNat].flatMap encB), rowC 63 4 (.slice a113 O115.length c114) O115.length (O115.flatMap encDn), mapC b237 Value.bool (Value.int .i64) [], rowC 43 34 (.slice a243 O245.length c244) O245.length (O245.flatMap encOp)] w242 := H239.addU u248 k247 q249
    refine ⟨_, rfl, ?_⟩
    have hop : O245.length = 1 := by rw [opens_one o246 hk128 hX125, ha122]; rfl
    have S261 := H250.pick [0, 1, 2, 3, 4, 5, 8, 9] (by decide)
    refine hK241 _ _ S261 ?_
    clear hK241 K241
    refine h_val 2 rfl (by kernel_rfl) (by kernel_rfl) (by kernel_rfl) (fun _ _ _ h => h) S261 (wants0 rfl) (d := 110) (v := (.int .i64 ((O245.length : Int)))) rfl (fun _ H' => (by kernel_rfl)) ?_
    refine h_do 4 rfl (by kernel_rfl) (wants0 rfl) (fun K262 hK262 => ?_)
    refine d_insert (kt := 4) (et := 3) rfl H250 10 rfl (KeyTy.bool (by kernel_rfl)) (by kernel_rfl) rfl true rfl (1 : Int) rfl ?_
    intro w263 (H264 : Sat w [restC w (fun _ => False), cellC b3 103 ([(.map (some m4))] : List Value), mapC m4 signedV (Value.int .i64) (marks N112), cellC r5 96 ([(.slice none 0 0)] : List Value), cellC b12 52 ([(.pointer (some ⟨b3, 0, none⟩)), (.pointer (some ⟨r5, 0, none⟩))] : List Value), cellC r21 86 ([(.int .i64 (1)), (.int .i64 (3)), (.int .i64 (1)), (.map (some m22))] : List Value), mapC m22 (Value.int .i64) encX M111, denC M111, rowC 5 1 (.slice (some ⟨b84, 0, none⟩) 1 1) 1 ([UInt8.ofNat (2 : Int).toNat].flatMap encB), rowC 63 4 (.slice a113 O115.length c114) O115.length (O115.flatMap encDn), mapC b237 Value.bool (Value.int .i64) (putM [] true (1 : Int)), rowC 43 34 (.slice a243 O245.length c244) O245.length (O245.flatMap encOp)] w263)
    have S265 := H264.pick [0, 1, 2, 3, 4, 5, 8, 9] (by decide)
    refine hK262 _ _ S265 ?_
    clear hK262 K262
    refine hv0 5 S265 112 (.map (some b237)) ?_
    refine h_do 7 rfl (by kernel_rfl) (wants0 rfl) (fun K266 hK266 => ?_)
    refine d_pure (d := 114) (v := (.int .i64 ((lookM (putM [] true (1 : Int)) (opn)).getD 0))) rfl (e_lookup (kt := 4) (et := 3) (KeyTy.bool (by kernel_rfl)) (by kernel_rfl) (fun w => by kernel_rfl) rfl (opn) rfl (H264.at 10 rfl) (optD (Value.int .i64) _ _)) ?_
    have S267 := H264.pick [0, 1, 2, 3, 4, 5, 8, 9] (by decide)
    refine hK266 _ _ S267 ?_
    clear hK266 K266
    refine hv0 8 S267 115 (.bool (decide ((O245.length : Int) = ((lookM (putM [] true (1 : Int)) (opn)).getD 0)))) ?_
    refine hv0 9 S267 116 (.bool (decide ((O245.length : Int) = ((lookM (putM [] true (1 : Int)) (opn)).getD 0)))) ?_
    have b268 : (decide ((O245.length : Int) = ((lookM (putM [] true (1 : Int)) (opn)).getD 0))) = true := by (rw [b82]; exact decide_eq_true (by rw [hop]; rfl))
    refine h_know 116 (.bool true) (congrArg Value.bool b268) ?_
    have g269 := of_decide_eq_true b268
    refine h_val 10 rfl (by kernel_rfl) (by kernel_rfl) (by kernel_rfl) (fun _ _ _ h => h) S267 (wantsY 9 116 true rfl (by kernel_rfl) rfl (by kernel_rfl)) (d := 117) (v := (pt r21 0)) rfl (fun _ H' => (by kernel_rfl)) ?_
    refine h_do 11 rfl (by kernel_rfl) (wantsY 9 116 true rfl (by kernel_rfl) rfl (by kernel_rfl)) (fun K270 hK270 => ?_)
    refine d_call (d := 118) rfl (by kernel_rfl) (rvForgetG_any w263 r21 m22 1 3 1 M111 (H264.fin [5, 6, 7] (by decide) rfl) (2 : Int)) ?_
    rintro _ w271 ⟨rfl, T272⟩
    have H273 : Sat w [restC w (fun _ => False), cellC b3 103 ([(.map (some m4))] : List Value), mapC m4 signedV (Value.int .i64) (marks N112), cellC r5 96 ([(.slice none 0 0)] : List Value), cellC b12 52 ([(pt b3 0), (pt r5 0)] : List Value), cellC r21 86 ([(.int .i64 (1)), (.int .i64 (3)), (.int .i64 (1)), (.map (some m22))] : List Value), mapC m22 (Value.int .i64) encX (delM M111 (2 : Int)), denC (delM M111 (2 : Int)), rowC 5 1 (.slice (some ⟨b84, 0, none⟩) 1 1) 1 ([UInt8.ofNat (2 : Int).toNat].flatMap encB), rowC 63 4 (.slice a113 O115.length c114) O115.length (O115.flatMap encDn), mapC b237 Value.bool (Value.int .i64) (putM [] true (1 : Int)), rowC 43 34 (.slice a243 O245.length c244) O245.length (O245.flatMap encOp)] w271 := (Sat.turnL (L' := [cellC r21 86 ([(.int .i64 (1)), (.int .i64 (3)), (.int .i64 (1)), (.map (some m22))] : List Value), mapC m22 (Value.int .i64) encX (delM M111 (2 : Int)), denC (delM M111 (2 : Int))]) (R := [restC w (fun _ => False), cellC b3 103 ([(.map (some m4))] : List Value), mapC m4 signedV (Value.int .i64) (marks N112), cellC r5 96 ([(.slice none 0 0)] : List Value), cellC b12 52 ([(pt b3 0), (pt r5 0)] : List Value), rowC 5 1 (.slice (some ⟨b84, 0, none⟩) 1 1) 1 ([UInt8.ofNat (2 : Int).toNat].flatMap encB), rowC 63 4 (.slice a113 O115.length c114) O115.length (O115.flatMap encDn), mapC b237 Value.bool (Value.int .i64) (putM [] true (1 : Int)), rowC 43 34 (.slice a243 O245.length c244) O245.length (O245.flatMap encOp)]) H264 [5, 6, 7] [0, 1, 2, 3, 4, 8, 9, 10, 11] (by decide) (by kernel_rfl) rfl T272).pick [3, 4, 5, 6, 7, 0, 1, 2, 8, 9, 10, 11] (by decide)
    refine ⟨_, rfl, ?_⟩
    have S284 := H273.pick [0, 1, 2, 3, 4, 5, 8, 9] (by decide)
    refine hK270 _ _ S284 ?_
    clear hK270 K270
    refine hv0 12 S284 119 (.bool ((lookM M111 (2 : Int)).isSome)) ?_
    refine hv0 13 S284 120 (.bool ((lookM M111 (2 : Int)).isSome)) ?_
    have b285 : ((lookM M111 (2 : Int)).isSome) = true := by (rw [hX125]; rfl)
    refine h_know 120 (.bool true) (congrArg Value.bool b285) ?_
    refine h_val 14 rfl (by kernel_rfl) (by kernel_rfl) (by kernel_rfl) (fun _ _ _ h => h) S284 (wantsY 13 120 true rfl (by kernel_rfl) rfl (by kernel_rfl)) (d := 121) (v := (pt r21 0)) rfl (fun _ H' => (by kernel_rfl)) ?_
    refine h_do 15 rfl (by kernel_rfl) (wantsY 13 120 true rfl (by kernel_rfl) rfl (by kernel_rfl)) (fun K286 hK286 => ?_)
    refine d_call (d := 122) rfl (by kernel_rfl) (rvForgetG_any w271 r21 m22 1 3 1 (delM M111 (2 : Int)) (H273.fin [5, 6, 7] (by decide) rfl) (2 : Int)) ?_
    rintro _ w287 ⟨rfl, T288⟩
    have H289 : Sat w [restC w (fun _ => False), cellC b3 103 ([(.map (some m4))] : List Value), mapC m4 signedV (Value.int .i64) (marks N112), cellC r5 96 ([(.slice none 0 0)] : List Value), cellC b12 52 ([(pt b3 0), (pt r5 0)] : List Value), cellC r21 86 ([(.int .i64 (1)), (.int .i64 (3)), (.int .i64 (1)), (.map (some m22))] : List Value), mapC m22 (Value.int .i64) encX (delM (delM M111 (2 : Int)) (2 : Int)), denC (delM (delM M111 (2 : Int)) (2 : Int)), rowC 5 1 (.slice (some ⟨b84, 0, none⟩) 1 1) 1 ([UInt8.ofNat (2 : Int).toNat].flatMap encB), rowC 63 4 (.slice a113 O115.length c114) O115.length (O115.flatMap encDn), mapC b237 Value.bool (Value.int .i64) (putM [] true (1 : Int)), rowC 43 34 (.slice a243 O245.length c244) O245.length (O245.flatMap encOp)] w287 := (Sat.turnL (L' := [cellC r21 86 ([(.int .i64 (1)), (.int .i64 (3)), (.int .i64 (1)), (.map (some m22))] : List Value), mapC m22 (Value.int .i64) encX (delM (delM M111 (2 : Int)) (2 : Int)), denC (delM (delM M111 (2 : Int)) (2 : Int))]) (R := [restC w (fun _ => False), cellC b3 103 ([(.map (some m4))] : List Value), mapC m4 signedV (Value.int .i64) (marks N112), cellC r5 96 ([(.slice none 0 0)] : List Value), cellC b12 52 ([(pt b3 0), (pt r5 0)] : List Value), rowC 5 1 (.slice (some ⟨b84, 0, none⟩) 1 1) 1 ([UInt8.ofNat (2 : Int).toNat].flatMap encB), rowC 63 4 (.slice a113 O115.length c114) O115.length (O115.flatMap encDn), mapC b237 Value.bool (Value.int .i64) (putM [] true (1 : Int)), rowC 43 34 (.slice a243 O245.length c244) O245.length (O245.flatMap encOp)]) H273 [5, 6, 7] [0, 1, 2, 3, 4, 8, 9, 10, 11] (by decide) (by kernel_rfl) rfl T288).pick [3, 4, 5, 6, 7, 0, 1, 2, 8, 9, 10, 11] (by decide)
    refine ⟨_, rfl, ?_⟩
    have S300 := H289.pick [0, 1, 2, 3, 4, 5, 8, 9] (by decide)
    refine hK286 _ _ S300 ?_
    clear hK286 K286
    refine h_val 16 rfl (by kernel_rfl) (by kernel_rfl) (by kernel_rfl) (fun _ _ _ h => h) S300 (wantsY 13 120 true rfl (by kernel_rfl) rfl (by kernel_rfl)) (d := 123) (v := (.bool (!((lookM (delM M111 (2 : Int)) (2 : Int)).isSome)))) rfl (fun _ H' => (by kernel_rfl)) ?_
    refine hv0 17 S300 124 (.bool (!((lookM (delM M111 (2 : Int)) (2 : Int)).isSome))) ?_
    refine hv0 18 S300 125 (.bool (!((lookM (delM M111 (2 : Int)) (2 : Int)).isSome))) ?_
    have b301 : (!((lookM (delM M111 (2 : Int)) (2 : Int)).isSome)) = true := by (rw [gone_one hk128]; rfl)
    refine h_know 125 (.bool true) (congrArg Value.bool b301) ?_
    have g302 := bnot_true b301
    refine h_val 19 rfl (by kernel_rfl) (by kernel_rfl) (by kernel_rfl) (fun _ _ _ h => h) S300 (wantsY 18 125 true rfl (by kernel_rfl) rfl (by kernel_rfl)) (d := 126) (v := (pt r21 0)) rfl (fun _ H' => (by kernel_rfl)) ?_
    refine h_do 20 rfl (by kernel_rfl) (wantsY 18 125 true rfl (by kernel_rfl) rfl (by kernel_rfl)) (fun K303 hK303 => ?_)
    refine d_call (d := 127) rfl (by kernel_rfl) (rvAckedG_any w287 r21 m22 1 3 1 (delM (delM M111 (2 : Int)) (2 : Int)) (H289.at 5 rfl) (H289.at 6 rfl) (2 : Int)) ?_
    rintro _ w304 ⟨rfl, u306⟩
    have H305 := H289.keepU u306
    refine ⟨_, rfl, ?_⟩
    have S307 := H305.pick [0, 1, 2, 3, 4, 5, 8, 9] (by decide)
    refine hK303 _ _ S307 ?_
    clear hK303 K303
    refine h_val 21 rfl (by kernel_rfl) (by kernel_rfl) (by kernel_rfl) (fun _ _ _ h => h) S307 (wantsY 18 125 true rfl (by kernel_rfl) rfl (by kernel_rfl)) (d := 128) (v := (.bool (!(ackB (delM (delM M111 (2 : Int)) (2 : Int)) (2 : Int))))) rfl (fun _ H' => (by kernel_rfl)) ?_
    refine hv0 22 S307 129 (.bool (!(ackB (delM (delM M111 (2 : Int)) (2 : Int)) (2 : Int)))) ?_
    refine hv0 23 S307 130 (.bool (!(ackB (delM (delM M111 (2 : Int)) (2 : Int)) (2 : Int)))) ?_
    have b308 : (!(ackB (delM (delM M111 (2 : Int)) (2 : Int)) (2 : Int))) = true := by (unfold ackB; rw [gone_two hk128]; rfl)
    refine h_know 130 (.bool true) (congrArg Value.bool b308) ?_
    have g309 := bnot_true b308
    refine h_val 24 rfl (by kernel_rfl) (by kernel_rfl) (by kernel_rfl) (fun _ _ _ h => h) S307 (wantsY 23 130 true rfl (by kernel_rfl) rfl (by kernel_rfl)) (d := 131) (v := (pt r21 0)) rfl (fun _ H' => (by kernel_rfl)) ?_
    refine h_do 25 rfl (by kernel_rfl) (wantsY 23 130 true rfl (by kernel_rfl) rfl (by kernel_rfl)) (fun K310 hK310 => ?_)
    refine d_call (d := 132) rfl (by kernel_rfl) (rvDeniedG_any w304 r21 m22 1 3 1 (delM (delM M111 (2 : Int)) (2 : Int)) (H305.at 5 rfl) (H305.at 6 rfl) (2 : Int)) ?_
    rintro _ w311 ⟨rfl, u313⟩
    have H312 := H305.keepU u313
    refine ⟨_, rfl, ?_⟩
    have S314 := H312.pick [0, 1, 2, 3, 4, 5, 8, 9] (by decide)
    refine hK310 _ _ S314 ?_
    clear hK310 K310
    refine h_val 26 rfl (by kernel_rfl) (by kernel_rfl) (by kernel_rfl) (fun _ _ _ h => h) S314 (wantsY 23 130 true rfl (by kernel_rfl) rfl (by kernel_rfl)) (d := 133) (v := (.bool (!(denB (delM (delM M111 (2 : Int)) (2 : Int)) (2 : Int))))) rfl (fun _ H' => (by kernel_rfl)) ?_
    refine hv0 27 S314 134 (.bool (!(denB (delM (delM M111 (2 : Int)) (2 : Int)) (2 : Int)))) ?_
    refine hv0 28 S314 135 (.bool (!(denB (delM (delM M111 (2 : Int)) (2 : Int)) (2 : Int)))) ?_
    have b315 : (!(denB (delM (delM M111 (2 : Int)) (2 : Int)) (2 : Int))) = true := by (unfold denB; rw [gone_two hk128]; rfl)
    refine h_know 135 (.bool true) (congrArg Value.bool b315) ?_
    have g316 := bnot_true b315
    refine h_do 29 rfl (by kernel_rfl) (wantsY 28 135 true rfl (by kernel_rfl) rfl (by kernel_rfl)) (fun K317 hK317 => ?_)
    refine d_call (d := 136) rfl (by kernel_rfl) (wakes_any w311) ?_
    rintro _ w318 ⟨rfl, u320⟩
    have H319 := H312.keepU u320
    refine ⟨_, rfl, ?_⟩
    have S321 := H319.pick [0, 1, 2, 3, 4, 5, 8, 9] (by decide)
    refine hK317 _ _ S321 ?_
    clear hK317 K317
    refine hv0 30 S321 137 (.bool true) ?_
    refine hv0 31 S321 6 (.bool true) ?_
    refine h_fin (by kernel_rfl) ?_
    refine then_normal ?_
    refine w_ret ?_
    refine end1 rfl (res_tmp (v := (.bool true)) rfl) ?_
    exact ⟨rfl, H319.upd 0 rfl [] (fun _ h => h.elim)⟩
   ·refine d_insert (kt := 4) (et := 3) rfl H239 10 rfl (KeyTy.bool (by kernel_rfl)) (by kernel_rfl) rfl true rfl (1 : Int) rfl ?_
    intro w322 (H323 : Sat w [restC w (fun _ => False), cellC b3 103 ([(.map (some m4))] : List Value), mapC m4 signedV (Value.int .i64) (marks N112), cellC r5 96 ([(.slice none 0 0)] : List Value), cellC b12 52 ([(.pointer (some ⟨b3, 0, none⟩)), (.pointer (some ⟨r5, 0, none⟩))] : List Value), cellC r21 86 ([(.int .i64 (1)), (.int .i64 (3)), (.int .i64 (1)), (.map (some m22))] : List Value), mapC m22 (Value.int .i64) encX M111, denC M111, rowC 5 1 (.slice (some ⟨b84, 0, none⟩) 1 1) 1 ([UInt8.ofNat (2 : Int).toNat].flatMap encB), rowC 63 4 (.slice a113 O115.length c114) O115.length (O115.flatMap encDn), mapC b237 Value.bool (Value.int .i64) (putM [] true (1 : Int))] w322)
    have S324 := H323.pick [0, 1, 2, 3, 4, 5, 8, 9] (by decide)
    refine hK241 _ _ S324 ?_
    clear hK241 K241
    refine hv0 5 S324 112 (.map (some b237)) ?_
    refine h_do2 1 7 rfl rfl (by kernel_rfl) (wants0 rfl) (wants0 rfl) (fun K325 hK325 => ?_) (fun K325 hK325 => ?_)
    ·refine d_call (d := 109) rfl (by kernel_rfl) (rvOpenings_any w322 r21 m22 1 3 1 M111 (H323.at 5 rfl) (H323.at 6 rfl) (by have q := congrArg List.length hk128; simp at q; omega) (hP127.i64 (by decide)) (H323.at 7 rfl) hP127.pay) ?_
     rintro _ w326 ⟨a327, c328, O329, rfl, o330, k331, u332, q333⟩
     have H334 : Sat w [restC w (fun _ => False), cellC b3 103 ([(.map (some m4))] : List Value), mapC m4 signedV (Value.int .i64) (marks N112), cellC r5 96 ([(.slice none 0 0)] : List Value), cellC b12 52 ([(pt b3 0), (pt r5 0)] : List Value), cellC r21 86 ([(.int .i64 (1)), (.int .i64 (3)), (.int .i64 (1)), (.map (some m22))] : List Value), mapC m22 (Value.int .i64) encX M111, denC M111, rowC 5 1 (.slice (some ⟨b84, 0, none⟩) 1 1) 1 ([UInt8.ofNat (2 : Int).toNat].flatMap encB), rowC 63 4 (.slice a113 O115.length c114) O115.length (O115.flatMap encDn), mapC b237 Value.bool (Value.int .i64) (putM [] true (1 : Int)), rowC 43 34 (.slice a327 O329.length c328) O329.length (O329.flatMap encOp)] w326 := H323.addU u332 k331 q333
     refine ⟨_, rfl, ?_⟩
     have hop : O329.length = 1 := by rw [opens_one o330 hk128 hX125, ha122]; rfl
     have S345 := H334.pick [0, 1, 2, 3, 4, 5, 8, 9] (by decide)
     refine hK325 _ _ S345 ?_
     clear hK325 K325
     refine h_val 2 rfl (by kernel_rfl) (by kernel_rfl) (by kernel_rfl) (fun _ _ _ h => h) S345 (wants0 rfl) (d := 110) (v := (.int .i64 ((O329.length : Int)))) rfl (fun _ H' => (by kernel_rfl)) ?_
     refine h_do 7 rfl (by kernel_rfl) (wants0 rfl) (fun K346 hK346 => ?_)
     refine d_pure (d := 114) (v := (.int .i64 ((lookM (putM [] true (1 : Int)) (opn)).getD 0))) rfl (e_lookup (kt := 4) (et := 3) (KeyTy.bool (by kernel_rfl)) (by kernel_rfl) (fun w => by kernel_rfl) rfl (opn) rfl (H334.at 10 rfl) (optD (Value.int .i64) _ _)) ?_
     have S347 := H334.pick [0, 1, 2, 3, 4, 5, 8, 9] (by decide)
     refine hK346 _ _ S347 ?_
     clear hK346 K346
     refine hv0 8 S347 115 (.bool (decide ((O329.length : Int) = ((lookM (putM [] true (1 : Int)) (opn)).getD 0)))) ?_
     refine hv0 9 S347 116 (.bool (decide ((O329.length : Int) = ((lookM (putM [] true (1 : Int)) (opn)).getD 0)))) ?_
     have b348 : (decide ((O329.length : Int) = ((lookM (putM [] true (1 : Int)) (opn)).getD 0))) = true := by (rw [b82]; exact decide_eq_true (by rw [hop]; rfl))
     refine h_know 116 (.bool true) (congrArg Value.bool b348) ?_
     have g349 := of_decide_eq_true b348
     refine h_val 10 rfl (by kernel_rfl) (by kernel_rfl) (by kernel_rfl) (fun _ _ _ h => h) S347 (wantsY 9 116 true rfl (by kernel_rfl) rfl (by kernel_rfl)) (d := 117) (v := (pt r21 0)) rfl (fun _ H' => (by kernel_rfl)) ?_
     refine h_do 11 rfl (by kernel_rfl) (wantsY 9 116 true rfl (by kernel_rfl) rfl (by kernel_rfl)) (fun K350 hK350 => ?_)
     refine d_call (d := 118) rfl (by kernel_rfl) (rvForgetG_any w326 r21 m22 1 3 1 M111 (H334.fin [5, 6, 7] (by decide) rfl) (2 : Int)) ?_
     rintro _ w351 ⟨rfl, T352⟩
     have H353 : Sat w [restC w (fun _ => False), cellC b3 103 ([(.map (some m4))] : List Value), mapC m4 signedV (Value.int .i64) (marks N112), cellC r5 96 ([(.slice none 0 0)] : List Value), cellC b12 52 ([(pt b3 0), (pt r5 0)] : List Value), cellC r21 86 ([(.int .i64 (1)), (.int .i64 (3)), (.int .i64 (1)), (.map (some m22))] : List Value), mapC m22 (Value.int .i64) encX (delM M111 (2 : Int)), denC (delM M111 (2 : Int)), rowC 5 1 (.slice (some ⟨b84, 0, none⟩) 1 1) 1 ([UInt8.ofNat (2 : Int).toNat].flatMap encB), rowC 63 4 (.slice a113 O115.length c114) O115.length (O115.flatMap encDn), mapC b237 Value.bool (Value.int .i64) (putM [] true (1 : Int)), rowC 43 34 (.slice a327 O329.length c328) O329.length (O329.flatMap encOp)] w351 := (Sat.turnL (L' := [cellC r21 86 ([(.int .i64 (1)), (.int .i64 (3)), (.int .i64 (1)), (.map (some m22))] : List Value), mapC m22 (Value.int .i64) encX (delM M111 (2 : Int)), denC (delM M111 (2 : Int))]) (R := [restC w (fun _ => False), cellC b3 103 ([(.map (some m4))] : List Value), mapC m4 signedV (Value.int .i64) (marks N112), cellC r5 96 ([(.slice none 0 0)] : List Value), cellC b12 52 ([(pt b3 0), (pt r5 0)] : List Value), rowC 5 1 (.slice (some ⟨b84, 0, none⟩) 1 1) 1 ([UInt8.ofNat (2 : Int).toNat].flatMap encB), rowC 63 4 (.slice a113 O115.length c114) O115.length (O115.flatMap encDn), mapC b237 Value.bool (Value.int .i64) (putM [] true (1 : Int)), rowC 43 34 (.slice a327 O329.length c328) O329.length (O329.flatMap encOp)]) H334 [5, 6, 7] [0, 1, 2, 3, 4, 8, 9, 10, 11] (by decide) (by kernel_rfl) rfl T352).pick [3, 4, 5, 6, 7, 0, 1, 2, 8, 9, 10, 11] (by decide)
     refine ⟨_, rfl, ?_⟩
     have S364 := H353.pick [0, 1, 2, 3, 4, 5, 8, 9] (by decide)
     refine hK350 _ _ S364 ?_
     clear hK350 K350
     refine hv0 12 S364 119 (.bool ((lookM M111 (2 : Int)).isSome)) ?_
     refine hv0 13 S364 120 (.bool ((lookM M111 (2 : Int)).isSome)) ?_
     have b365 : ((lookM M111 (2 : Int)).isSome) = true := by (rw [hX125]; rfl)
     refine h_know 120 (.bool true) (congrArg Value.bool b365) ?_
     refine h_val 14 rfl (by kernel_rfl) (by kernel_rfl) (by kernel_rfl) (fun _ _ _ h => h) S364 (wantsY 13 120 true rfl (by kernel_rfl) rfl (by kernel_rfl)) (d := 121) (v := (pt r21 0)) rfl (fun _ H' => (by kernel_rfl)) ?_
     refine h_do 15 rfl (by kernel_rfl) (wantsY 13 120 true rfl (by kernel_rfl) rfl (by kernel_rfl)) (fun K366 hK366 => ?_)
     refine d_call (d := 122) rfl (by kernel_rfl) (rvForgetG_any w351 r21 m22 1 3 1 (delM M111 (2 : Int)) (H353.fin [5, 6, 7] (by decide) rfl) (2 : Int)) ?_
     rintro _ w367 ⟨rfl, T368⟩
     have H369 : Sat w [restC w (fun _ => False), cellC b3 103 ([(.map (some m4))] : List Value), mapC m4 signedV (Value.int .i64) (marks N112), cellC r5 96 ([(.slice none 0 0)] : List Value), cellC b12 52 ([(pt b3 0), (pt r5 0)] : List Value), cellC r21 86 ([(.int .i64 (1)), (.int .i64 (3)), (.int .i64 (1)), (.map (some m22))] : List Value), mapC m22 (Value.int .i64) encX (delM (delM M111 (2 : Int)) (2 : Int)), denC (delM (delM M111 (2 : Int)) (2 : Int)), rowC 5 1 (.slice (some ⟨b84, 0, none⟩) 1 1) 1 ([UInt8.ofNat (2 : Int).toNat].flatMap encB), rowC 63 4 (.slice a113 O115.length c114) O115.length (O115.flatMap encDn), mapC b237 Value.bool (Value.int .i64) (putM [] true (1 : Int)), rowC 43 34 (.slice a327 O329.length c328) O329.length (O329.flatMap encOp)] w367 := (Sat.turnL (L' := [cellC r21 86 ([(.int .i64 (1)), (.int .i64 (3)), (.int .i64 (1)), (.map (some m22))] : List Value), mapC m22 (Value.int .i64) encX (delM (delM M111 (2 : Int)) (2 : Int)), denC (delM (delM M111 (2 : Int)) (2 : Int))]) (R := [restC w (fun _ => False), cellC b3 103 ([(.map (some m4))] : List Value), mapC m4 signedV (Value.int .i64) (marks N112), cellC r5 96 ([(.slice none 0 0)] : List Value), cellC b12 52 ([(pt b3 0), (pt r5 0)] : List Value), rowC 5 1 (.slice (some ⟨b84, 0, none⟩) 1 1) 1 ([UInt8.ofNat (2 : Int).toNat].flatMap encB), rowC 63 4 (.slice a113 O115.length c114) O115.length (O115.flatMap encDn), mapC b237 Value.bool (Value.int .i64) (putM [] true (1 : Int)), rowC 43 34 (.slice a327 O329.length c328) O329.length (O329.flatMap encOp)]) H353 [5, 6, 7] [0, 1, 2, 3, 4, 8, 9, 10, 11] (by decide) (by kernel_rfl) rfl T368).pick [3, 4, 5, 6, 7, 0, 1, 2, 8, 9, 10, 11] (by decide)
     refine ⟨_, rfl, ?_⟩
     have S380 := H369.pick [0, 1, 2, 3, 4, 5, 8, 9] (by decide)
     refine hK366 _ _ S380 ?_
     clear hK366 K366
     refine h_val 16 rfl (by kernel_rfl) (by kernel_rfl) (by kernel_rfl) (fun _ _ _ h => h) S380 (wantsY 13 120 true rfl (by kernel_rfl) rfl (by kernel_rfl)) (d := 123) (v := (.bool (!((lookM (delM M111 (2 : Int)) (2 : Int)).isSome)))) rfl (fun _ H' => (by kernel_rfl)) ?_
     refine hv0 17 S380 124 (.bool (!((lookM (delM M111 (2 : Int)) (2 : Int)).isSome))) ?_
     refine hv0 18 S380 125 (.bool (!((lookM (delM M111 (2 : Int)) (2 : Int)).isSome))) ?_
     have b381 : (!((lookM (delM M111 (2 : Int)) (2 : Int)).isSome)) = true := by (rw [gone_one hk128]; rfl)
     refine h_know 125 (.bool true) (congrArg Value.bool b381) ?_
     have g382 := bnot_true b381
     refine h_val 19 rfl (by kernel_rfl) (by kernel_rfl) (by kernel_rfl) (fun _ _ _ h => h) S380 (wantsY 18 125 true rfl (by kernel_rfl) rfl (by kernel_rfl)) (d := 126) (v := (pt r21 0)) rfl (fun _ H' => (by kernel_rfl)) ?_
     refine h_do 20 rfl (by kernel_rfl) (wantsY 18 125 true rfl (by kernel_rfl) rfl (by kernel_rfl)) (fun K383 hK383 => ?_)
     refine d_call (d := 127) rfl (by kernel_rfl) (rvAckedG_any w367 r21 m22 1 3 1 (delM (delM M111 (2 : Int)) (2 : Int)) (H369.at 5 rfl) (H369.at 6 rfl) (2 : Int)) ?_
     rintro _ w384 ⟨rfl, u386⟩
     have H385 := H369.keepU u386
     refine ⟨_, rfl, ?_⟩
     have S387 := H385.pick [0, 1, 2, 3, 4, 5, 8, 9] (by decide)
     refine hK383 _ _ S387 ?_
     clear hK383 K383
     refine h_val 21 rfl (by kernel_rfl) (by kernel_rfl) (by kernel_rfl) (fun _ _ _ h => h) S387 (wantsY 18 125 true rfl (by kernel_rfl) rfl (by kernel_rfl)) (d := 128) (v := (.bool (!(ackB (delM (delM M111 (2 : Int)) (2 : Int)) (2 : Int))))) rfl (fun _ H' => (by kernel_rfl)) ?_
     refine hv0 22 S387 129 (.bool (!(ackB (delM (delM M111 (2 : Int)) (2 : Int)) (2 : Int)))) ?_
     refine hv0 23 S387 130 (.bool (!(ackB (delM (delM M111 (2 : Int)) (2 : Int)) (2 : Int)))) ?_
     have b388 : (!(ackB (delM (delM M111 (2 : Int)) (2 : Int)) (2 : Int))) = true := by (unfold ackB; rw [gone_two hk128]; rfl)
     refine h_know 130 (.bool true) (congrArg Value.bool b388) ?_
     have g389 := bnot_true b388
     refine h_val 24 rfl (by kernel_rfl) (by kernel_rfl) (by kernel_rfl) (fun _ _ _ h => h) S387 (wantsY 23 130 true rfl (by kernel_rfl) rfl (by kernel_rfl)) (d := 131) (v := (pt r21 0)) rfl (fun _ H' => (by kernel_rfl)) ?_
     refine h_do 25 rfl (by kernel_rfl) (wantsY 23 130 true rfl (by kernel_rfl) rfl (by kernel_rfl)) (fun K390 hK390 => ?_)
     refine d_call (d := 132) rfl (by kernel_rfl) (rvDeniedG_any w384 r21 m22 1 3 1 (delM (delM M111 (2 : Int)) (2 : Int)) (H385.at 5 rfl) (H385.at 6 rfl) (2 : Int)) ?_
     rintro _ w391 ⟨rfl, u393⟩
     have H392 := H385.keepU u393
     refine ⟨_, rfl, ?_⟩
     have S394 := H392.pick [0, 1, 2, 3, 4, 5, 8, 9] (by decide)
     refine hK390 _ _ S394 ?_
     clear hK390 K390
     refine h_val 26 rfl (by kernel_rfl) (by kernel_rfl) (by kernel_rfl) (fun _ _ _ h => h) S394 (wantsY 23 130 true rfl (by kernel_rfl) rfl (by kernel_rfl)) (d := 133) (v := (.bool (!(denB (delM (delM M111 (2 : Int)) (2 : Int)) (2 : Int))))) rfl (fun _ H' => (by kernel_rfl)) ?_
     refine hv0 27 S394 134 (.bool (!(denB (delM (delM M111 (2 : Int)) (2 : Int)) (2 : Int)))) ?_
     refine hv0 28 S394 135 (.bool (!(denB (delM (delM M111 (2 : Int)) (2 : Int)) (2 : Int)))) ?_
     have b395 : (!(denB (delM (delM M111 (2 : Int)) (2 : Int)) (2 : Int))) = true := by (unfold denB; rw [gone_two hk128]; rfl)
     refine h_know 135 (.bool true) (congrArg Value.bool b395) ?_
     have g396 := bnot_true b395
     refine h_do 29 rfl (by kernel_rfl) (wantsY 28 135 true rfl (by kernel_rfl) rfl (by kernel_rfl)) (fun K397 hK397 => ?_)
     refine d_call (d := 136) rfl (by kernel_rfl) (wakes_any w391) ?_
     rintro _ w398 ⟨rfl, u400⟩
     have H399 := H392.keepU u400
     refine ⟨_, rfl, ?_⟩
     have S401 := H399.pick [0, 1, 2, 3, 4, 5, 8, 9] (by decide)
     refine hK397 _ _ S401 ?_
     clear hK397 K397
     refine hv0 30 S401 137 (.bool true) ?_
     refine hv0 31 S401 6 (.bool true) ?_
     refine h_fin (by kernel_rfl) ?_
     refine then_normal ?_
     refine w_ret ?_
     refine end1 rfl (res_tmp (v := (.bool true)) rfl) ?_
     exact ⟨rfl, H399.upd 0 rfl [] (fun _ h => h.elim)⟩
    ·refine d_pure (d := 114) (v := (.int .i64 ((lookM (putM [] true (1 : Int)) (opn)).getD 0))) rfl (e_lookup (kt := 4) (et := 3) (KeyTy.bool (by kernel_rfl)) (by kernel_rfl) (fun w => by kernel_rfl) rfl (opn) rfl (H323.at 10 rfl) (optD (Value.int .i64) _ _)) ?_
     have S402 := H323.pick [0, 1, 2, 3, 4, 5, 8, 9] (by decide)
     refine hK325 _ _ S402 ?_
     clear hK325 K325
     refine h_do 1 rfl (by kernel_rfl) (wants0 rfl) (fun K403 hK403 => ?_)
     refine d_call (d := 109) rfl (by kernel_rfl) (rvOpenings_any w322 r21 m22 1 3 1 M111 (H323.at 5 rfl) (H323.at 6 rfl) (by have q := congrArg List.length hk128; simp at q; omega) (hP127.i64 (by decide)) (H323.at 7 rfl) hP127.pay) ?_
     rintro _ w404 ⟨a405, c406, O407, rfl, o408, k409, u410, q411⟩
     have H412 : Sat w [restC w (fun _ => False), cellC b3 103 ([(.map (some m4))] : List Value), mapC m4 signedV (Value.int .i64) (marks N112), cellC r5 96 ([(.slice none 0 0)] : List Value), cellC b12 52 ([(pt b3 0), (pt r5 0)] : List Value), cellC r21 86 ([(.int .i64 (1)), (.int .i64 (3)), (.int .i64 (1)), (.map (some m22))] : List Value), mapC m22 (Value.int .i64) encX M111, denC M111, rowC 5 1 (.slice (some ⟨b84, 0, none⟩) 1 1) 1 ([UInt8.ofNat (2 : Int).toNat].flatMap encB), rowC 63 4 (.slice a113 O115.length c114) O115.length (O115.flatMap encDn), mapC b237 Value.bool (Value.int .i64) (putM [] true (1 : Int)), rowC 43 34 (.slice a405 O407.length c406) O407.length (O407.flatMap encOp)] w404 := H323.addU u410 k409 q411
     refine ⟨_, rfl, ?_⟩
     have hop : O407.length = 1 := by rw [opens_one o408 hk128 hX125, ha122]; rfl
     have S423 := H412.pick [0, 1, 2, 3, 4, 5, 8, 9] (by decide)
     refine hK403 _ _ S423 ?_
     clear hK403 K403
     refine h_val 2 rfl (by kernel_rfl) (by kernel_rfl) (by kernel_rfl) (fun _ _ _ h => h) S423 (wants0 rfl) (d := 110) (v := (.int .i64 ((O407.length : Int)))) rfl (fun _ H' => (by kernel_rfl)) ?_
     refine hv0 8 S423 115 (.bool (decide ((O407.length : Int) = ((lookM (putM [] true (1 : Int)) (opn)).getD 0)))) ?_
     refine hv0 9 S423 116 (.bool (decide ((O407.length : Int) = ((lookM (putM [] true (1 : Int)) (opn)).getD 0)))) ?_
     have b424 : (decide ((O407.length : Int) = ((lookM (putM [] true (1 : Int)) (opn)).getD 0))) = true := by (rw [b82]; exact decide_eq_true (by rw [hop]; rfl))
     refine h_know 116 (.bool true) (congrArg Value.bool b424) ?_
     have g425 := of_decide_eq_true b424
     refine h_val 10 rfl (by kernel_rfl) (by kernel_rfl) (by kernel_rfl) (fun _ _ _ h => h) S423 (wantsY 9 116 true rfl (by kernel_rfl) rfl (by kernel_rfl)) (d := 117) (v := (pt r21 0)) rfl (fun _ H' => (by kernel_rfl)) ?_
     refine h_do 11 rfl (by kernel_rfl) (wantsY 9 116 true rfl (by kernel_rfl) rfl (by kernel_rfl)) (fun K426 hK426 => ?_)
     refine d_call (d := 118) rfl (by kernel_rfl) (rvForgetG_any w404 r21 m22 1 3 1 M111 (H412.fin [5, 6, 7] (by decide) rfl) (2 : Int)) ?_
     rintro _ w427 ⟨rfl, T428⟩
     have H429 : Sat w [restC w (fun _ => False), cellC b3 103 ([(.map (some m4))] : List Value), mapC m4 signedV (Value.int .i64) (marks N112), cellC r5 96 ([(.slice none 0 0)] : List Value), cellC b12 52 ([(pt b3 0), (pt r5 0)] : List Value), cellC r21 86 ([(.int .i64 (1)), (.int .i64 (3)), (.int .i64 (1)), (.map (some m22))] : List Value), mapC m22 (Value.int .i64) encX (delM M111 (2 : Int)), denC (delM M111 (2 : Int)), rowC 5 1 (.slice (some ⟨b84, 0, none⟩) 1 1) 1 ([UInt8.ofNat (2 : Int).toNat].flatMap encB), rowC 63 4 (.slice a113 O115.length c114) O115.length (O115.flatMap encDn), mapC b237 Value.bool (Value.int .i64) (putM [] true (1 : Int)), rowC 43 34 (.slice a405 O407.length c406) O407.length (O407.flatMap encOp)] w427 := (Sat.turnL (L' := [cellC r21 86 ([(.int .i64 (1)), (.int .i64 (3)), (.int .i64 (1)), (.map (some m22))] : List Value), mapC m22 (Value.int .i64) encX (delM M111 (2 : Int)), denC (delM M111 (2 : Int))]) (R := [restC w (fun _ => False), cellC b3 103 ([(.map (some m4))] : List Value), mapC m4 signedV (Value.int .i64) (marks N112), cellC r5 96 ([(.slice none 0 0)] : List Value), cellC b12 52 ([(pt b3 0), (pt r5 0)] : List Value), rowC 5 1 (.slice (some ⟨b84, 0, none⟩) 1 1) 1 ([UInt8.ofNat (2 : Int).toNat].flatMap encB), rowC 63 4 (.slice a113 O115.length c114) O115.length (O115.flatMap encDn), mapC b237 Value.bool (Value.int .i64) (putM [] true (1 : Int)), rowC 43 34 (.slice a405 O407.length c406) O407.length (O407.flatMap encOp)]) H412 [5, 6, 7] [0, 1, 2, 3, 4, 8, 9, 10, 11] (by decide) (by kernel_rfl) rfl T428).pick [3, 4, 5, 6, 7, 0, 1, 2, 8, 9, 10, 11] (by decide)
     refine ⟨_, rfl, ?_⟩
     have S440 := H429.pick [0, 1, 2, 3, 4, 5, 8, 9] (by decide)
     refine hK426 _ _ S440 ?_
     clear hK426 K426
     refine hv0 12 S440 119 (.bool ((lookM M111 (2 : Int)).isSome)) ?_
     refine hv0 13 S440 120 (.bool ((lookM M111 (2 : Int)).isSome)) ?_
     have b441 : ((lookM M111 (2 : Int)).isSome) = true := by (rw [hX125]; rfl)
     refine h_know 120 (.bool true) (congrArg Value.bool b441) ?_
     refine h_val 14 rfl (by kernel_rfl) (by kernel_rfl) (by kernel_rfl) (fun _ _ _ h => h) S440 (wantsY 13 120 true rfl (by kernel_rfl) rfl (by kernel_rfl)) (d := 121) (v := (pt r21 0)) rfl (fun _ H' => (by kernel_rfl)) ?_
     refine h_do 15 rfl (by kernel_rfl) (wantsY 13 120 true rfl (by kernel_rfl) rfl (by kernel_rfl)) (fun K442 hK442 => ?_)
     refine d_call (d := 122) rfl (by kernel_rfl) (rvForgetG_any w427 r21 m22 1 3 1 (delM M111 (2 : Int)) (H429.fin [5, 6, 7] (by decide) rfl) (2 : Int)) ?_
     rintro _ w443 ⟨rfl, T444⟩
     have H445 : Sat w [restC w (fun _ => False), cellC b3 103 ([(.map (some m4))] : List Value), mapC m4 signedV (Value.int .i64) (marks N112), cellC r5 96 ([(.slice none 0 0)] : List Value), cellC b12 52 ([(pt b3 0), (pt r5 0)] : List Value), cellC r21 86 ([(.int .i64 (1)), (.int .i64 (3)), (.int .i64 (1)), (.map (some m22))] : List Value), mapC m22 (Value.int .i64) encX (delM (delM M111 (2 : Int)) (2 : Int)), denC (delM (delM M111 (2 : Int)) (2 : Int)), rowC 5 1 (.slice (some ⟨b84, 0, none⟩) 1 1) 1 ([UInt8.ofNat (2 : Int).toNat].flatMap encB), rowC 63 4 (.slice a113 O115.length c114) O115.length (O115.flatMap encDn), mapC b237 Value.bool (Value.int .i64) (putM [] true (1 : Int)), rowC 43 34 (.slice a405 O407.length c406) O407.length (O407.flatMap encOp)] w443 := (Sat.turnL (L' := [cellC r21 86 ([(.int .i64 (1)), (.int .i64 (3)), (.int .i64 (1)), (.map (some m22))] : List Value), mapC m22 (Value.int .i64) encX (delM (delM M111 (2 : Int)) (2 : Int)), denC (delM (delM M111 (2 : Int)) (2 : Int))]) (R := [restC w (fun _ => False), cellC b3 103 ([(.map (some m4))] : List Value), mapC m4 signedV (Value.int .i64) (marks N112), cellC r5 96 ([(.slice none 0 0)] : List Value), cellC b12 52 ([(pt b3 0), (pt r5 0)] : List Value), rowC 5 1 (.slice (some ⟨b84, 0, none⟩) 1 1) 1 ([UInt8.ofNat (2 : Int).toNat].flatMap encB), rowC 63 4 (.slice a113 O115.length c114) O115.length (O115.flatMap encDn), mapC b237 Value.bool (Value.int .i64) (putM [] true (1 : Int)), rowC 43 34 (.slice a405 O407.length c406) O407.length (O407.flatMap encOp)]) H429 [5, 6, 7] [0, 1, 2, 3, 4, 8, 9, 10, 11] (by decide) (by kernel_rfl) rfl T444).pick [3, 4, 5, 6, 7, 0, 1, 2, 8, 9, 10, 11] (by decide)
     refine ⟨_, rfl, ?_⟩
     have S456 := H445.pick [0, 1, 2, 3, 4, 5, 8, 9] (by decide)
     refine hK442 _ _ S456 ?_
     clear hK442 K442
     refine h_val 16 rfl (by kernel_rfl) (by kernel_rfl) (by kernel_rfl) (fun _ _ _ h => h) S456 (wantsY 13 120 true rfl (by kernel_rfl) rfl (by kernel_rfl)) (d := 123) (v := (.bool (!((lookM (delM M111 (2 : Int)) (2 : Int)).isSome)))) rfl (fun _ H' => (by kernel_rfl)) ?_
     refine hv0 17 S456 124 (.bool (!((lookM (delM M111 (2 : Int)) (2 : Int)).isSome))) ?_
     refine hv0 18 S456 125 (.bool (!((lookM (delM M111 (2 : Int)) (2 : Int)).isSome))) ?_
     have b457 : (!((lookM (delM M111 (2 : Int)) (2 : Int)).isSome)) = true := by (rw [gone_one hk128]; rfl)
     refine h_know 125 (.bool true) (congrArg Value.bool b457) ?_
     have g458 := bnot_true b457
     refine h_val 19 rfl (by kernel_rfl) (by kernel_rfl) (by kernel_rfl) (fun _ _ _ h => h) S456 (wantsY 18 125 true rfl (by kernel_rfl) rfl (by kernel_rfl)) (d := 126) (v := (pt r21 0)) rfl (fun _ H' => (by kernel_rfl)) ?_
     refine h_do 20 rfl (by kernel_rfl) (wantsY 18 125 true rfl (by kernel_rfl) rfl (by kernel_rfl)) (fun K459 hK459 => ?_)
     refine d_call (d := 127) rfl (by kernel_rfl) (rvAckedG_any w443 r21 m22 1 3 1 (delM (delM M111 (2 : Int)) (2 : Int)) (H445.at 5 rfl) (H445.at 6 rfl) (2 : Int)) ?_
     rintro _ w460 ⟨rfl, u462⟩
     have H461 := H445.keepU u462
     refine ⟨_, rfl, ?_⟩
     have S463 := H461.pick [0, 1, 2, 3, 4, 5, 8, 9] (by decide)
     refine hK459 _ _ S463 ?_
     clear hK459 K459
     refine h_val 21 rfl (by kernel_rfl) (by kernel_rfl) (by kernel_rfl) (fun _ _ _ h => h) S463 (wantsY 18 125 true rfl (by kernel_rfl) rfl (by kernel_rfl)) (d := 128) (v := (.bool (!(ackB (delM (delM M111 (2 : Int)) (2 : Int)) (2 : Int))))) rfl (fun _ H' => (by kernel_rfl)) ?_
     refine hv0 22 S463 129 (.bool (!(ackB (delM (delM M111 (2 : Int)) (2 : Int)) (2 : Int)))) ?_
     refine hv0 23 S463 130 (.bool (!(ackB (delM (delM M111 (2 : Int)) (2 : Int)) (2 : Int)))) ?_
     have b464 : (!(ackB (delM (delM M111 (2 : Int)) (2 : Int)) (2 : Int))) = true := by (unfold ackB; rw [gone_two hk128]; rfl)
     refine h_know 130 (.bool true) (congrArg Value.bool b464) ?_
     have g465 := bnot_true b464
     refine h_val 24 rfl (by kernel_rfl) (by kernel_rfl) (by kernel_rfl) (fun _ _ _ h => h) S463 (wantsY 23 130 true rfl (by kernel_rfl) rfl (by kernel_rfl)) (d := 131) (v := (pt r21 0)) rfl (fun _ H' => (by kernel_rfl)) ?_
     refine h_do 25 rfl (by kernel_rfl) (wantsY 23 130 true rfl (by kernel_rfl) rfl (by kernel_rfl)) (fun K466 hK466 => ?_)
     refine d_call (d := 132) rfl (by kernel_rfl) (rvDeniedG_any w460 r21 m22 1 3 1 (delM (delM M111 (2 : Int)) (2 : Int)) (H461.at 5 rfl) (H461.at 6 rfl) (2 : Int)) ?_
     rintro _ w467 ⟨rfl, u469⟩
     have H468 := H461.keepU u469
     refine ⟨_, rfl, ?_⟩
     have S470 := H468.pick [0, 1, 2, 3, 4, 5, 8, 9] (by decide)
     refine hK466 _ _ S470 ?_
     clear hK466 K466
     refine h_val 26 rfl (by kernel_rfl) (by kernel_rfl) (by kernel_rfl) (fun _ _ _ h => h) S470 (wantsY 23 130 true rfl (by kernel_rfl) rfl (by kernel_rfl)) (d := 133) (v := (.bool (!(denB (delM (delM M111 (2 : Int)) (2 : Int)) (2 : Int))))) rfl (fun _ H' => (by kernel_rfl)) ?_
     refine hv0 27 S470 134 (.bool (!(denB (delM (delM M111 (2 : Int)) (2 : Int)) (2 : Int)))) ?_
     refine hv0 28 S470 135 (.bool (!(denB (delM (delM M111 (2 : Int)) (2 : Int)) (2 : Int)))) ?_
     have b471 : (!(denB (delM (delM M111 (2 : Int)) (2 : Int)) (2 : Int))) = true := by (unfold denB; rw [gone_two hk128]; rfl)
     refine h_know 135 (.bool true) (congrArg Value.bool b471) ?_
     have g472 := bnot_true b471
     refine h_do 29 rfl (by kernel_rfl) (wantsY 28 135 true rfl (by kernel_rfl) rfl (by kernel_rfl)) (fun K473 hK473 => ?_)
     refine d_call (d := 136) rfl (by kernel_rfl) (wakes_any w467) ?_
     rintro _ w474 ⟨rfl, u476⟩
     have H475 := H468.keepU u476
     refine ⟨_, rfl, ?_⟩
     have S477 := H475.pick [0, 1, 2, 3, 4, 5, 8, 9] (by decide)
     refine hK473 _ _ S477 ?_
     clear hK473 K473
     refine hv0 30 S477 137 (.bool true) ?_
     refine hv0 31 S477 6 (.bool true) ?_
     refine h_fin (by kernel_rfl) ?_
     refine then_normal ?_
     refine w_ret ?_
     refine end1 rfl (res_tmp (v := (.bool true)) rfl) ?_
     exact ⟨rfl, H475.upd 0 rfl [] (fun _ h => h.elim)⟩
 ·refine wl_know 56 (.bool false) (congrArg Value.bool b82) ?_
  iterate 6 refine wn 1 56 true ?_
  refine wv 63 (.bool false) ?_
  refine w_nil ?_
  refine then_normal ?_
  refine wp_iff rfl ?_
  refine w_skip ?_
  refine then_normal ?_
  refine w_seq ?_
  refine w_lit ?_
  refine wv 64 (pt r21 0) ?_
  refine wv 65 (pt b12 0) ?_
  refine wv 66 (pt b3 0) ?_ (hr := e_load1 rfl (by kernel_rfl) (H81.cell 4 rfl rfl))
  refine wv 67 (.int .u64 (N)) ?_
  refine wl_do (wants0 rfl) (fun K478 hK478 => ?_)
  refine d_call (d := 68) rfl (by kernel_rfl) (rvDue_any w76 r21 m22 1 3 1 M56 b3 m4 ([] : List Signed) (H81.fin [5, 6, 7, 1, 2] (by decide) rfl) (by have q := congrArg List.length hk68; simp at q; omega) (hP67.i64 (by decide)) hP67.nd hP67.since (by decide) N (by omega) (by omega)) ?_
  rintro _ w479 ⟨M480, N481, a482, c483, O484, rfl, R485, n486, T487⟩
  have H488 : Sat w [restC w (fun _ => False), cellC b3 103 ([(.map (some m4))] : List Value), mapC m4 signedV (Value.int .i64) (marks N481), cellC r5 96 ([(.slice none 0 0)] : List Value), cellC b12 52 ([(pt b3 0), (pt r5 0)] : List Value), cellC r21 86 ([(.int .i64 (1)), (.int .i64 (3)), (.int .i64 (1)), (.map (some m22))] : List Value), mapC m22 (Value.int .i64) encX M480, denC M480, rowC 63 4 (.slice a482 O484.length c483) O484.length (O484.flatMap encDn)] w479 := (Sat.turnL (L' := [cellC r21 86 ([(.int .i64 (1)), (.int .i64 (3)), (.int .i64 (1)), (.map (some m22))] : List Value), mapC m22 (Value.int .i64) encX M480, denC M480, cellC b3 103 ([(.map (some m4))] : List Value), mapC m4 signedV (Value.int .i64) (marks N481), rowC 63 4 (.slice a482 O484.length c483) O484.length (O484.flatMap encDn)]) (R := [restC w (fun _ => False), cellC r5 96 ([(.slice none 0 0)] : List Value), cellC b12 52 ([(pt b3 0), (pt r5 0)] : List Value)]) H81 [5, 6, 7, 1, 2] [0, 3, 4] (by decide) (by kernel_rfl) rfl T487).pick [6, 3, 4, 7, 8, 0, 1, 2, 5] (by decide)
  refine ⟨_, rfl, ?_⟩
  obtain ⟨hO, hk497, X489, hX494, hcx, hax, _, _, hdx, _⟩ := R485.one hk68 hX65
  have hP496 := hP67.due R485
  have ha491 : X489.p.acked = false := hax.trans ha40
  refine hK478 _ _ ?_
  clear hK478 K478
  refine wv 11 (.slice a482 O484.length c483) ?_
  refine w_nil ?_
  refine then_normal ?_
  refine w_seq ?_
  refine w_lit ?_
  refine wv 69 (.bool (opn)) ?_
  refine wv 70 (.bool (!(opn))) ?_
  refine wv 71 (.bool (!(opn))) ?_
  have b499 : (!(opn)) = true := by rw [b82]; rfl
  refine wl_know 71 (.bool true) (congrArg Value.bool b499) ?_
  have g500 := bnot_true b499
  refine wy 2 71 true 72 (.int .u64 (N)) ?_
  refine wy 2 71 true 73 (.int .u64 (S)) ?_
  refine wy 2 71 true 74 (.int .u64 (S + 20)) ?_ (hr := e_int (z := S + 20) (by kernel_rfl) (wrap_u64 (by omega)))
  refine wy 2 71 true 75 (.bool (decide (N ≥ (S + 20)))) ?_
  refine wv 76 (.bool (decide (N ≥ (S + 20)))) ?_
  refine wv 12 (.bool (decide (N ≥ (S + 20)))) ?_
  refine w_nil ?_
  refine then_normal ?_
  iterate 2 refine w_seq ?_
  refine (bsplit (decide (N ≥ S + 20))).elim (fun b501 => ?_) (fun b501 => ?_)
  ·have g502 := of_decide_eq_true b501
   have hdue : dueX N X38 = true := by unfold dueX; rw [ha40, hd41, hs0, decide_eq_false (by omega), decide_eq_false (by omega)]; rfl
   have hol : O484.length = 1 := by have q := congrArg List.length hO; rw [hdue] at q; simpa using q
   have hd503 : X489.p.denied = true := by rw [hdx, hd41, hdue]; rfl
   refine wp_know 12 (.bool true) (congrArg Value.bool b501) ?_
   refine w_lit ?_
   refine wv 77 (.slice a482 O484.length c483) ?_
   refine wv 78 (.int .i64 ((O484.length : Int))) ?_
   refine wv 79 (.bool (decide ((O484.length : Int) = 1))) ?_
   refine wv 80 (.bool true) ?_
   refine wv 81 (.bool (!((decide ((O484.length : Int) = 1)) == true))) ?_
   refine wv 82 (.bool (!((decide ((O484.length : Int) = 1)) == true))) ?_
   have b504 : (!((decide ((O484.length : Int) = 1)) == true)) = false := by (rw [decide_eq_true (by omega)]; rfl)
   refine wl_know 82 (.bool false) (congrArg Value.bool b504) ?_
   have g505 := bnot_false b504
   refine wy 5 82 false 83 (.slice a482 O484.length c483) ?_
   refine wy 5 82 false 84 (.int .i64 ((O484.length : Int))) ?_
   refine wy 5 82 false 85 (.bool (decide ((O484.length : Int) > 1))) ?_
   refine wv 86 (.bool (decide ((O484.length : Int) > 1))) ?_
   refine wv 87 (.bool (decide ((O484.length : Int) > 1))) ?_
   have b506 : (decide ((O484.length : Int) > 1)) = false := by (exact decide_eq_false (by omega))
   refine wl_know 87 (.bool false) (congrArg Value.bool b506) ?_
   have g507 := of_decide_eq_false b506
   refine wy 10 87 false 88 (pt r21 0) ?_
   refine wl_do (wantsY 10 87 false rfl (by kernel_rfl) rfl (by kernel_rfl)) (fun K508 hK508 => ?_)
   refine d_call (d := 89) rfl (by kernel_rfl) (rvDeniedG_any w479 r21 m22 1 3 1 M480 (H488.at 5 rfl) (H488.at 6 rfl) (2 : Int)) ?_
   rintro _ w509 ⟨rfl, u511⟩
   have H510 := H488.keepU u511
   refine ⟨_, rfl, ?_⟩
   refine hK508 _ _ ?_
   clear hK508 K508
   refine wy 10 87 false 90 (.bool true) ?_
   refine wy 10 87 false 91 (.bool (!((denB M480 (2 : Int)) == true))) ?_
   refine wv 92 (.bool (!((denB M480 (2 : Int)) == true))) ?_
   refine wv 93 (.bool (!((denB M480 (2 : Int)) == true))) ?_
   have b512 : (!((denB M480 (2 : Int)) == true)) = false := by (rw [denB_at hX494, hd503]; rfl)
   refine wl_know 93 (.bool false) (congrArg Value.bool b512) ?_
   have g513 := bnot_false b512
   refine wy 16 93 false 94 (pt r21 0) ?_
   refine wl_do (wantsY 16 93 false rfl (by kernel_rfl) rfl (by kernel_rfl)) (fun K514 hK514 => ?_)
   refine d_call (d := 95) rfl (by kernel_rfl) (rvAckedG_any w509 r21 m22 1 3 1 M480 (H510.at 5 rfl) (H510.at 6 rfl) (2 : Int)) ?_
   rintro _ w515 ⟨rfl, u517⟩
   have H516 := H510.keepU u517
   refine ⟨_, rfl, ?_⟩
   refine hK514 _ _ ?_
   clear hK514 K514
   refine wy 16 93 false 96 (.bool (opn)) ?_
   refine wy 16 93 false 97 (.bool (!((ackB M480 (2 : Int)) == (opn)))) ?_
   refine wv 98 (.bool (!((ackB M480 (2 : Int)) == (opn)))) ?_
   refine w_nil ?_
   refine then_normal ?_
   have b518 : (!((ackB M480 (2 : Int)) == (opn))) = false := by (rw [ackB_at hX494, ha491, b82]; rfl)
   refine wp_know 98 (.bool false) (congrArg Value.bool b518) ?_
   have g519 := bnot_false b518
   refine wp_iff rfl ?_
   refine w_skip ?_
   refine then_normal ?_
   iterate 2 refine w_seq ?_
   refine w_lit ?_
   refine wv 99 (.bool true) ?_
   refine wv 100 (.bool true) ?_
   refine wy 1 100 true 101 (pt r21 0) ?_
   refine wl_do (wantsY 1 100 true rfl (by kernel_rfl) rfl (by kernel_rfl)) (fun K520 hK520 => ?_)
   refine d_buildSlice (e := 5) (size := 1) (bytes := 1) (z := (.int .u8 (0))) (pvs := [(0, (.int .u8 (2)))]) (vs := ([(.int .u8 (2))] : List Value)) rfl H516 (by kernel_rfl) (by kernel_rfl) (by kernel_rfl) (by kernel_rfl) (by kernel_rfl) rfl rfl ?_
   intro b521 w522 (H523 : Sat w [restC w (fun _ => False), cellC b3 103 ([(.map (some m4))] : List Value), mapC m4 signedV (Value.int .i64) (marks N481), cellC r5 96 ([(.slice none 0 0)] : List Value), cellC b12 52 ([(.pointer (some ⟨b3, 0, none⟩)), (.pointer (some ⟨r5, 0, none⟩))] : List Value), cellC r21 86 ([(.int .i64 (1)), (.int .i64 (3)), (.int .i64 (1)), (.map (some m22))] : List Value), mapC m22 (Value.int .i64) encX M480, denC M480, rowC 63 4 (.slice a482 O484.length c483) O484.length (O484.flatMap encDn), rowC 5 1 (.slice (some ⟨b521, 0, none⟩) 1 1) 1 ([(.int .u8 (2))] : List Value)] w522)
   have H524 : Sat w [restC w (fun _ => False), cellC b3 103 ([(.map (some m4))] : List Value), mapC m4 signedV (Value.int .i64) (marks N481), cellC r5 96 ([(.slice none 0 0)] : List Value), cellC b12 52 ([(pt b3 0), (pt r5 0)] : List Value), cellC r21 86 ([(.int .i64 (1)), (.int .i64 (3)), (.int .i64 (1)), (.map (some m22))] : List Value), mapC m22 (Value.int .i64) encX M480, denC M480, rowC 63 4 (.slice a482 O484.length c483) O484.length (O484.flatMap encDn), rowC 5 1 (.slice (some ⟨b521, 0, none⟩) 1 1) 1 ([UInt8.ofNat (2 : Int).toNat].flatMap encB)] w522 := H523.cast (by rw [byte_enc (by omega)])
   refine hK520 _ _ ?_
   clear hK520 K520
   refine wy 1 100 true 103 (.agg ⟨(hc (hash1 (7)))⟩) ?_
   refine wy 1 100 true 104 (.agg ⟨(([(.int .i64 (2)), (.slice (some ⟨b521, 0, none⟩) 1 1)] : List Value) ++ hc (hash1 (7)))⟩) ?_
   refine wl_do (wantsY 1 100 true rfl (by kernel_rfl) rfl (by kernel_rfl)) (fun K525 hK525 => ?_)
   refine d_call (d := 105) rfl (by kernel_rfl) (rvOpenG_any w522 r21 m22 1 3 1 M480 (2 : Int) (some ⟨b521, 0, none⟩) 1 ([UInt8.ofNat (2 : Int).toNat]) (H524.fin [5, 6, 7, 9] (by decide) rfl) (hash1 (7)) (by simp) (hP496.mat (by rfl))) ?_
   rintro _ w526 ⟨c527, M528, rfl, R529, T530⟩
   have H531 : Sat w [restC w (fun _ => False), cellC b3 103 ([(.map (some m4))] : List Value), mapC m4 signedV (Value.int .i64) (marks N481), cellC r5 96 ([(.slice none 0 0)] : List Value), cellC b12 52 ([(pt b3 0), (pt r5 0)] : List Value), cellC r21 86 ([(.int .i64 (1)), (.int .i64 (3)), (.int .i64 (1)), (.map (some m22))] : List Value), mapC m22 (Value.int .i64) encX M528, denC M528, rowC 63 4 (.slice a482 O484.length c483) O484.length (O484.flatMap encDn), rowC 5 1 (.slice (some ⟨b521, 0, none⟩) 1 1) 1 ([UInt8.ofNat (2 : Int).toNat].flatMap encB)] w526 := (Sat.turnL (L' := [cellC r21 86 ([(.int .i64 (1)), (.int .i64 (3)), (.int .i64 (1)), (.map (some m22))] : List Value), mapC m22 (Value.int .i64) encX M528, denC M528, rowC 5 1 (.slice (some ⟨b521, 0, none⟩) 1 1) 1 ([UInt8.ofNat (2 : Int).toNat].flatMap encB)]) (R := [restC w (fun _ => False), cellC b3 103 ([(.map (some m4))] : List Value), mapC m4 signedV (Value.int .i64) (marks N481), cellC r5 96 ([(.slice none 0 0)] : List Value), cellC b12 52 ([(pt b3 0), (pt r5 0)] : List Value), rowC 63 4 (.slice a482 O484.length c483) O484.length (O484.flatMap encDn)]) H524 [5, 6, 7, 9] [0, 1, 2, 3, 4, 8] (by decide) (by kernel_rfl) rfl T530).pick [4, 5, 6, 7, 8, 0, 1, 2, 9, 3] (by decide)
   refine ⟨_, rfl, ?_⟩
   obtain ⟨hc12, q541⟩ := R529.denied hX494 hd503
   have hX537 : lookM M528 2 = some X489 := by rw [q541]; exact hX494
   have hP539 : PlI 3 1 M528 := by rw [q541]; exact hP496
   have hk540 : M528.map (·.1) = [(2 : Int)] := by rw [q541]; exact hk497
   refine hK525 _ _ ?_
   clear hK525 K525
   refine wy 1 100 true 106 (.bool (!(decide (c527 = 12)))) ?_
   refine wv 107 (.bool (!(decide (c527 = 12)))) ?_
   refine w_nil ?_
   refine then_normal ?_
   have b542 : (!(decide (c527 = 12))) = false := by (rw [decide_eq_true hc12]; rfl)
   refine wp_know 107 (.bool false) (congrArg Value.bool b542) ?_
   have g543 := bnot_false b542
   have g544 := of_decide_eq_true g543
   refine wp_iff rfl ?_
   refine w_skip ?_
   refine then_normal ?_
   refine w_seq ?_
   refine h_start H531 [restC w (fun _ => False), cellC b3 103 ([(.map (some m4))] : List Value), mapC m4 signedV (Value.int .i64) (marks N481), cellC r5 96 ([(.slice none 0 0)] : List Value), cellC b12 52 ([(pt b3 0), (pt r5 0)] : List Value), cellC r21 86 ([(.int .i64 (1)), (.int .i64 (3)), (.int .i64 (1)), (.map (some m22))] : List Value), rowC 63 4 (.slice a482 O484.length c483) O484.length (O484.flatMap encDn), rowC 5 1 (.slice (some ⟨b521, 0, none⟩) 1 1) 1 ([UInt8.ofNat (2 : Int).toNat].flatMap encB)] 32 rfl (by kernel_rfl) (fun Hx => (Hx.pick [0, 1, 2, 3, 4, 5, 8, 9] (by decide))) ?_
   intro w545 H546 S547
   refine hv0 0 S547 108 (pt r21 0) ?_
   refine hv0 6 S547 113 (.bool (opn)) ?_
   refine h_do2 1 3 rfl rfl (by kernel_rfl) (wants0 rfl) (wants0 rfl) (fun K548 hK548 => ?_) (fun K548 hK548 => ?_)
   ·refine d_call (d := 109) rfl (by kernel_rfl) (rvOpenings_any w545 r21 m22 1 3 1 M528 (H546.at 5 rfl) (H546.at 6 rfl) (by have q := congrArg List.length hk540; simp at q; omega) (hP539.i64 (by decide)) (H546.at 7 rfl) hP539.pay) ?_
    rintro _ w549 ⟨a550, c551, O552, rfl, o553, k554, u555, q556⟩
    have H557 : Sat w [restC w (fun _ => False), cellC b3 103 ([(.map (some m4))] : List Value), mapC m4 signedV (Value.int .i64) (marks N481), cellC r5 96 ([(.slice none 0 0)] : List Value), cellC b12 52 ([(pt b3 0), (pt r5 0)] : List Value), cellC r21 86 ([(.int .i64 (1)), (.int .i64 (3)), (.int .i64 (1)), (.map (some m22))] : List Value), mapC m22 (Value.int .i64) encX M528, denC M528, rowC 63 4 (.slice a482 O484.length c483) O484.length (O484.flatMap encDn), rowC 5 1 (.slice (some ⟨b521, 0, none⟩) 1 1) 1 ([UInt8.ofNat (2 : Int).toNat].flatMap encB), rowC 43 34 (.slice a550 O552.length c551) O552.length (O552.flatMap encOp)] w549 := H546.addU u555 k554 q556
    refine ⟨_, rfl, ?_⟩
    have hop : O552.length = 0 := by rw [opens_one o553 hk540 hX537, ha491]; rfl
    have S568 := H557.pick [0, 1, 2, 3, 4, 5, 8, 9] (by decide)
    refine hK548 _ _ S568 ?_
    clear hK548 K548
    refine h_val 2 rfl (by kernel_rfl) (by kernel_rfl) (by kernel_rfl) (fun _ _ _ h => h) S568 (wants0 rfl) (d := 110) (v := (.int .i64 ((O552.length : Int)))) rfl (fun _ H' => (by kernel_rfl)) ?_
    refine h_do 3 rfl (by kernel_rfl) (wants0 rfl) (fun K569 hK569 => ?_)
    refine d_makeMap Value.bool (Value.int .i64) rfl H557 ?_
    intro b570 w571 (H572 : Sat w [restC w (fun _ => False), cellC b3 103 ([(.map (some m4))] : List Value), mapC m4 signedV (Value.int .i64) (marks N481), cellC r5 96 ([(.slice none 0 0)] : List Value), cellC b12 52 ([(.pointer (some ⟨b3, 0, none⟩)), (.pointer (some ⟨r5, 0, none⟩))] : List Value), cellC r21 86 ([(.int .i64 (1)), (.int .i64 (3)), (.int .i64 (1)), (.map (some m22))] : List Value), mapC m22 (Value.int .i64) encX M528, denC M528, rowC 63 4 (.slice a482 O484.length c483) O484.length (O484.flatMap encDn), rowC 5 1 (.slice (some ⟨b521, 0, none⟩) 1 1) 1 ([UInt8.ofNat (2 : Int).toNat].flatMap encB), rowC 43 34 (.slice a550 O552.length c551) O552.length (O552.flatMap encOp), mapC b570 Value.bool (Value.int .i64) []] w571)
    have S573 := H572.pick [0, 1, 2, 3, 4, 5, 8, 9] (by decide)
    refine hK569 _ _ S573 ?_
    clear hK569 K569
    refine h_do 4 rfl (by kernel_rfl) (wants0 rfl) (fun K574 hK574 => ?_)
    refine d_insert (kt := 4) (et := 3) rfl H572 11 rfl (KeyTy.bool (by kernel_rfl)) (by kernel_rfl) rfl true rfl (1 : Int) rfl ?_
    intro w575 (H576 : Sat w [restC w (fun _ => False), cellC b3 103 ([(.map (some m4))] : List Value), mapC m4 signedV (Value.int .i64) (marks N481), cellC r5 96 ([(.slice none 0 0)] : List Value), cellC b12 52 ([(.pointer (some ⟨b3, 0, none⟩)), (.pointer (some ⟨r5, 0, none⟩))] : List Value), cellC r21 86 ([(.int .i64 (1)), (.int .i64 (3)), (.int .i64 (1)), (.map (some m22))] : List Value), mapC m22 (Value.int .i64) encX M528, denC M528, rowC 63 4 (.slice a482 O484.length c483) O484.length (O484.flatMap encDn), rowC 5 1 (.slice (some ⟨b521, 0, none⟩) 1 1) 1 ([UInt8.ofNat (2 : Int).toNat].flatMap encB), rowC 43 34 (.slice a550 O552.length c551) O552.length (O552.flatMap encOp), mapC b570 Value.bool (Value.int .i64) (putM [] true (1 : Int))] w575)
    have S577 := H576.pick [0, 1, 2, 3, 4, 5, 8, 9] (by decide)
    refine hK574 _ _ S577 ?_
    clear hK574 K574
    refine hv0 5 S577 112 (.map (some b570)) ?_
    refine h_do 7 rfl (by kernel_rfl) (wants0 rfl) (fun K578 hK578 => ?_)
    refine d_pure (d := 114) (v := (.int .i64 ((lookM (putM [] true (1 : Int)) (opn)).getD 0))) rfl (e_lookup (kt := 4) (et := 3) (KeyTy.bool (by kernel_rfl)) (by kernel_rfl) (fun w => by kernel_rfl) rfl (opn) rfl (H576.at 11 rfl) (optD (Value.int .i64) _ _)) ?_
    have S579 := H576.pick [0, 1, 2, 3, 4, 5, 8, 9] (by decide)
    refine hK578 _ _ S579 ?_
    clear hK578 K578
    refine hv0 8 S579 115 (.bool (decide ((O552.length : Int) = ((lookM (putM [] true (1 : Int)) (opn)).getD 0)))) ?_
    refine hv0 9 S579 116 (.bool (decide ((O552.length : Int) = ((lookM (putM [] true (1 : Int)) (opn)).getD 0)))) ?_
    have b580 : (decide ((O552.length : Int) = ((lookM (putM [] true (1 : Int)) (opn)).getD 0))) = true := by (rw [b82]; exact decide_eq_true (by rw [hop]; rfl))
    refine h_know 116 (.bool true) (congrArg Value.bool b580) ?_
    have g581 := of_decide_eq_true b580
    refine h_val 10 rfl (by kernel_rfl) (by kernel_rfl) (by kernel_rfl) (fun _ _ _ h => h) S579 (wantsY 9 116 true rfl (by kernel_rfl) rfl (by kernel_rfl)) (d := 117) (v := (pt r21 0)) rfl (fun _ H' => (by kernel_rfl)) ?_
    refine h_do 11 rfl (by kernel_rfl) (wantsY 9 116 true rfl (by kernel_rfl) rfl (by kernel_rfl)) (fun K582 hK582 => ?_)
    refine d_call (d := 118) rfl (by kernel_rfl) (rvForgetG_any w575 r21 m22 1 3 1 M528 (H576.fin [5, 6, 7] (by decide) rfl) (2 : Int)) ?_
    rintro _ w583 ⟨rfl, T584⟩
    have H585 : Sat w [restC w (fun _ => False), cellC b3 103 ([(.map (some m4))] : List Value), mapC m4 signedV (Value.int .i64) (marks N481), cellC r5 96 ([(.slice none 0 0)] : List Value), cellC b12 52 ([(pt b3 0), (pt r5 0)] : List Value), cellC r21 86 ([(.int .i64 (1)), (.int .i64 (3)), (.int .i64 (1)), (.map (some m22))] : List Value), mapC m22 (Value.int .i64) encX (delM M528 (2 : Int)), denC (delM M528 (2 : Int)), rowC 63 4 (.slice a482 O484.length c483) O484.length (O484.flatMap encDn), rowC 5 1 (.slice (some ⟨b521, 0, none⟩) 1 1) 1 ([UInt8.ofNat (2 : Int).toNat].flatMap encB), rowC 43 34 (.slice a550 O552.length c551) O552.length (O552.flatMap encOp), mapC b570 Value.bool (Value.int .i64) (putM [] true (1 : Int))] w583 := (Sat.turnL (L' := [cellC r21 86 ([(.int .i64 (1)), (.int .i64 (3)), (.int .i64 (1)), (.map (some m22))] : List Value), mapC m22 (Value.int .i64) encX (delM M528 (2 : Int)), denC (delM M528 (2 : Int))]) (R := [restC w (fun _ => False), cellC b3 103 ([(.map (some m4))] : List Value), mapC m4 signedV (Value.int .i64) (marks N481), cellC r5 96 ([(.slice none 0 0)] : List Value), cellC b12 52 ([(pt b3 0), (pt r5 0)] : List Value), rowC 63 4 (.slice a482 O484.length c483) O484.length (O484.flatMap encDn), rowC 5 1 (.slice (some ⟨b521, 0, none⟩) 1 1) 1 ([UInt8.ofNat (2 : Int).toNat].flatMap encB), rowC 43 34 (.slice a550 O552.length c551) O552.length (O552.flatMap encOp), mapC b570 Value.bool (Value.int .i64) (putM [] true (1 : Int))]) H576 [5, 6, 7] [0, 1, 2, 3, 4, 8, 9, 10, 11] (by decide) (by kernel_rfl) rfl T584).pick [3, 4, 5, 6, 7, 0, 1, 2, 8, 9, 10, 11] (by decide)
    refine ⟨_, rfl, ?_⟩
    have S596 := H585.pick [0, 1, 2, 3, 4, 5, 8, 9] (by decide)
    refine hK582 _ _ S596 ?_
    clear hK582 K582
    refine hv0 12 S596 119 (.bool ((lookM M528 (2 : Int)).isSome)) ?_
    refine hv0 13 S596 120 (.bool ((lookM M528 (2 : Int)).isSome)) ?_
    have b597 : ((lookM M528 (2 : Int)).isSome) = true := by (rw [hX537]; rfl)
    refine h_know 120 (.bool true) (congrArg Value.bool b597) ?_
    refine h_val 14 rfl (by kernel_rfl) (by kernel_rfl) (by kernel_rfl) (fun _ _ _ h => h) S596 (wantsY 13 120 true rfl (by kernel_rfl) rfl (by kernel_rfl)) (d := 121) (v := (pt r21 0)) rfl (fun _ H' => (by kernel_rfl)) ?_
    refine h_do 15 rfl (by kernel_rfl) (wantsY 13 120 true rfl (by kernel_rfl) rfl (by kernel_rfl)) (fun K598 hK598 => ?_)
    refine d_call (d := 122) rfl (by kernel_rfl) (rvForgetG_any w583 r21 m22 1 3 1 (delM M528 (2 : Int)) (H585.fin [5, 6, 7] (by decide) rfl) (2 : Int)) ?_
    rintro _ w599 ⟨rfl, T600⟩
    have H601 : Sat w [restC w (fun _ => False), cellC b3 103 ([(.map (some m4))] : List Value), mapC m4 signedV (Value.int .i64) (marks N481), cellC r5 96 ([(.slice none 0 0)] : List Value), cellC b12 52 ([(pt b3 0), (pt r5 0)] : List Value), cellC r21 86 ([(.int .i64 (1)), (.int .i64 (3)), (.int .i64 (1)), (.map (some m22))] : List Value), mapC m22 (Value.int .i64) encX (delM (delM M528 (2 : Int)) (2 : Int)), denC (delM (delM M528 (2 : Int)) (2 : Int)), rowC 63 4 (.slice a482 O484.length c483) O484.length (O484.flatMap encDn), rowC 5 1 (.slice (some ⟨b521, 0, none⟩) 1 1) 1 ([UInt8.ofNat (2 : Int).toNat].flatMap encB), rowC 43 34 (.slice a550 O552.length c551) O552.length (O552.flatMap encOp), mapC b570 Value.bool (Value.int .i64) (putM [] true (1 : Int))] w599 := (Sat.turnL (L' := [cellC r21 86 ([(.int .i64 (1)), (.int .i64 (3)), (.int .i64 (1)), (.map (some m22))] : List Value), mapC m22 (Value.int .i64) encX (delM (delM M528 (2 : Int)) (2 : Int)), denC (delM (delM M528 (2 : Int)) (2 : Int))]) (R := [restC w (fun _ => False), cellC b3 103 ([(.map (some m4))] : List Value), mapC m4 signedV (Value.int .i64) (marks N481), cellC r5 96 ([(.slice none 0 0)] : List Value), cellC b12 52 ([(pt b3 0), (pt r5 0)] : List Value), rowC 63 4 (.slice a482 O484.length c483) O484.length (O484.flatMap encDn), rowC 5 1 (.slice (some ⟨b521, 0, none⟩) 1 1) 1 ([UInt8.ofNat (2 : Int).toNat].flatMap encB), rowC 43 34 (.slice a550 O552.length c551) O552.length (O552.flatMap encOp), mapC b570 Value.bool (Value.int .i64) (putM [] true (1 : Int))]) H585 [5, 6, 7] [0, 1, 2, 3, 4, 8, 9, 10, 11] (by decide) (by kernel_rfl) rfl T600).pick [3, 4, 5, 6, 7, 0, 1, 2, 8, 9, 10, 11] (by decide)
    refine ⟨_, rfl, ?_⟩
    have S612 := H601.pick [0, 1, 2, 3, 4, 5, 8, 9] (by decide)
    refine hK598 _ _ S612 ?_
    clear hK598 K598
    refine h_val 16 rfl (by kernel_rfl) (by kernel_rfl) (by kernel_rfl) (fun _ _ _ h => h) S612 (wantsY 13 120 true rfl (by kernel_rfl) rfl (by kernel_rfl)) (d := 123) (v := (.bool (!((lookM (delM M528 (2 : Int)) (2 : Int)).isSome)))) rfl (fun _ H' => (by kernel_rfl)) ?_
    refine hv0 17 S612 124 (.bool (!((lookM (delM M528 (2 : Int)) (2 : Int)).isSome))) ?_
    refine hv0 18 S612 125 (.bool (!((lookM (delM M528 (2 : Int)) (2 : Int)).isSome))) ?_
    have b613 : (!((lookM (delM M528 (2 : Int)) (2 : Int)).isSome)) = true := by (rw [gone_one hk540]; rfl)
    refine h_know 125 (.bool true) (congrArg Value.bool b613) ?_
    have g614 := bnot_true b613
    refine h_val 19 rfl (by kernel_rfl) (by kernel_rfl) (by kernel_rfl) (fun _ _ _ h => h) S612 (wantsY 18 125 true rfl (by kernel_rfl) rfl (by kernel_rfl)) (d := 126) (v := (pt r21 0)) rfl (fun _ H' => (by kernel_rfl)) ?_
    refine h_do 20 rfl (by kernel_rfl) (wantsY 18 125 true rfl (by kernel_rfl) rfl (by kernel_rfl)) (fun K615 hK615 => ?_)
    refine d_call (d := 127) rfl (by kernel_rfl) (rvAckedG_any w599 r21 m22 1 3 1 (delM (delM M528 (2 : Int)) (2 : Int)) (H601.at 5 rfl) (H601.at 6 rfl) (2 : Int)) ?_
    rintro _ w616 ⟨rfl, u618⟩
    have H617 := H601.keepU u618
    refine ⟨_, rfl, ?_⟩
    have S619 := H617.pick [0, 1, 2, 3, 4, 5, 8, 9] (by decide)
    refine hK615 _ _ S619 ?_
    clear hK615 K615
    refine h_val 21 rfl (by kernel_rfl) (by kernel_rfl) (by kernel_rfl) (fun _ _ _ h => h) S619 (wantsY 18 125 true rfl (by kernel_rfl) rfl (by kernel_rfl)) (d := 128) (v := (.bool (!(ackB (delM (delM M528 (2 : Int)) (2 : Int)) (2 : Int))))) rfl (fun _ H' => (by kernel_rfl)) ?_
    refine hv0 22 S619 129 (.bool (!(ackB (delM (delM M528 (2 : Int)) (2 : Int)) (2 : Int)))) ?_
    refine hv0 23 S619 130 (.bool (!(ackB (delM (delM M528 (2 : Int)) (2 : Int)) (2 : Int)))) ?_
    have b620 : (!(ackB (delM (delM M528 (2 : Int)) (2 : Int)) (2 : Int))) = true := by (unfold ackB; rw [gone_two hk540]; rfl)
    refine h_know 130 (.bool true) (congrArg Value.bool b620) ?_
    have g621 := bnot_true b620
    refine h_val 24 rfl (by kernel_rfl) (by kernel_rfl) (by kernel_rfl) (fun _ _ _ h => h) S619 (wantsY 23 130 true rfl (by kernel_rfl) rfl (by kernel_rfl)) (d := 131) (v := (pt r21 0)) rfl (fun _ H' => (by kernel_rfl)) ?_
    refine h_do 25 rfl (by kernel_rfl) (wantsY 23 130 true rfl (by kernel_rfl) rfl (by kernel_rfl)) (fun K622 hK622 => ?_)
    refine d_call (d := 132) rfl (by kernel_rfl) (rvDeniedG_any w616 r21 m22 1 3 1 (delM (delM M528 (2 : Int)) (2 : Int)) (H617.at 5 rfl) (H617.at 6 rfl) (2 : Int)) ?_
    rintro _ w623 ⟨rfl, u625⟩
    have H624 := H617.keepU u625
    refine ⟨_, rfl, ?_⟩
    have S626 := H624.pick [0, 1, 2, 3, 4, 5, 8, 9] (by decide)
    refine hK622 _ _ S626 ?_
    clear hK622 K622
    refine h_val 26 rfl (by kernel_rfl) (by kernel_rfl) (by kernel_rfl) (fun _ _ _ h => h) S626 (wantsY 23 130 true rfl (by kernel_rfl) rfl (by kernel_rfl)) (d := 133) (v := (.bool (!(denB (delM (delM M528 (2 : Int)) (2 : Int)) (2 : Int))))) rfl (fun _ H' => (by kernel_rfl)) ?_
    refine hv0 27 S626 134 (.bool (!(denB (delM (delM M528 (2 : Int)) (2 : Int)) (2 : Int)))) ?_
    refine hv0 28 S626 135 (.bool (!(denB (delM (delM M528 (2 : Int)) (2 : Int)) (2 : Int)))) ?_
    have b627 : (!(denB (delM (delM M528 (2 : Int)) (2 : Int)) (2 : Int))) = true := by (unfold denB; rw [gone_two hk540]; rfl)
    refine h_know 135 (.bool true) (congrArg Value.bool b627) ?_
    have g628 := bnot_true b627
    refine h_do 29 rfl (by kernel_rfl) (wantsY 28 135 true rfl (by kernel_rfl) rfl (by kernel_rfl)) (fun K629 hK629 => ?_)
    refine d_call (d := 136) rfl (by kernel_rfl) (wakes_any w623) ?_
    rintro _ w630 ⟨rfl, u632⟩
    have H631 := H624.keepU u632
    refine ⟨_, rfl, ?_⟩
    have S633 := H631.pick [0, 1, 2, 3, 4, 5, 8, 9] (by decide)
    refine hK629 _ _ S633 ?_
    clear hK629 K629
    refine hv0 30 S633 137 (.bool true) ?_
    refine hv0 31 S633 6 (.bool true) ?_
    refine h_fin (by kernel_rfl) ?_
    refine then_normal ?_
    refine w_ret ?_
    refine end1 rfl (res_tmp (v := (.bool true)) rfl) ?_
    exact ⟨rfl, H631.upd 0 rfl [] (fun _ h => h.elim)⟩
   ·refine d_makeMap Value.bool (Value.int .i64) rfl H546 ?_
    intro b634 w635 (H636 : Sat w [restC w (fun _ => False), cellC b3 103 ([(.map (some m4))] : List Value), mapC m4 signedV (Value.int .i64) (marks N481), cellC r5 96 ([(.slice none 0 0)] : List Value), cellC b12 52 ([(.pointer (some ⟨b3, 0, none⟩)), (.pointer (some ⟨r5, 0, none⟩))] : List Value), cellC r21 86 ([(.int .i64 (1)), (.int .i64 (3)), (.int .i64 (1)), (.map (some m22))] : List Value), mapC m22 (Value.int .i64) encX M528, denC M528, rowC 63 4 (.slice a482 O484.length c483) O484.length (O484.flatMap encDn), rowC 5 1 (.slice (some ⟨b521, 0, none⟩) 1 1) 1 ([UInt8.ofNat (2 : Int).toNat].flatMap encB), mapC b634 Value.bool (Value.int .i64) []] w635)
    have S637 := H636.pick [0, 1, 2, 3, 4, 5, 8, 9] (by decide)
    refine hK548 _ _ S637 ?_
    clear hK548 K548
    refine h_do2 1 4 rfl rfl (by kernel_rfl) (wants0 rfl) (wants0 rfl) (fun K638 hK638 => ?_) (fun K638 hK638 => ?_)
    ·refine d_call (d := 109) rfl (by kernel_rfl) (rvOpenings_any w635 r21 m22 1 3 1 M528 (H636.at 5 rfl) (H636.at 6 rfl) (by have q := congrArg List.length hk540; simp at q; omega) (hP539.i64 (by decide)) (H636.at 7 rfl) hP539.pay) ?_
     rintro _ w639 ⟨a640, c641, O642, rfl, o643, k644, u645, q646⟩
     have H647 : Sat w [restC w (fun _ => False), cellC b3 103 ([(.map (some m4))] : List Value), mapC m4 signedV (Value.int .i64) (marks N481), cellC r5 96 ([(.slice none 0 0)] : List Value), cellC b12 52 ([(pt b3 0), (pt r5 0)] : List Value), cellC r21 86 ([(.int .i64 (1)), (.int .i64 (3)), (.int .i64 (1)), (.map (some m22))] : List Value), mapC m22 (Value.int .i64) encX M528, denC M528, rowC 63 4 (.slice a482 O484.length c483) O484.length (O484.flatMap encDn), rowC 5 1 (.slice (some ⟨b521, 0, none⟩) 1 1) 1 ([UInt8.ofNat (2 : Int).toNat].flatMap encB), mapC b634 Value.bool (Value.int .i64) [], rowC 43 34 (.slice a640 O642.length c641) O642.length (O642.flatMap encOp)] w639 := H636.addU u645 k644 q646
     refine ⟨_, rfl, ?_⟩
     have hop : O642.length = 0 := by rw [opens_one o643 hk540 hX537, ha491]; rfl
     have S658 := H647.pick [0, 1, 2, 3, 4, 5, 8, 9] (by decide)
     refine hK638 _ _ S658 ?_
     clear hK638 K638
     refine h_val 2 rfl (by kernel_rfl) (by kernel_rfl) (by kernel_rfl) (fun _ _ _ h => h) S658 (wants0 rfl) (d := 110) (v := (.int .i64 ((O642.length : Int)))) rfl (fun _ H' => (by kernel_rfl)) ?_
     refine h_do 4 rfl (by kernel_rfl) (wants0 rfl) (fun K659 hK659 => ?_)
     refine d_insert (kt := 4) (et := 3) rfl H647 10 rfl (KeyTy.bool (by kernel_rfl)) (by kernel_rfl) rfl true rfl (1 : Int) rfl ?_
     intro w660 (H661 : Sat w [restC w (fun _ => False), cellC b3 103 ([(.map (some m4))] : List Value), mapC m4 signedV (Value.int .i64) (marks N481), cellC r5 96 ([(.slice none 0 0)] : List Value), cellC b12 52 ([(.pointer (some ⟨b3, 0, none⟩)), (.pointer (some ⟨r5, 0, none⟩))] : List Value), cellC r21 86 ([(.int .i64 (1)), (.int .i64 (3)), (.int .i64 (1)), (.map (some m22))] : List Value), mapC m22 (Value.int .i64) encX M528, denC M528, rowC 63 4 (.slice a482 O484.length c483) O484.length (O484.flatMap encDn), rowC 5 1 (.slice (some ⟨b521, 0, none⟩) 1 1) 1 ([UInt8.ofNat (2 : Int).toNat].flatMap encB), mapC b634 Value.bool (Value.int .i64) (putM [] true (1 : Int)), rowC 43 34 (.slice a640 O642.length c641) O642.length (O642.flatMap encOp)] w660)
     have S662 := H661.pick [0, 1, 2, 3, 4, 5, 8, 9] (by decide)
     refine hK659 _ _ S662 ?_
     clear hK659 K659
     refine hv0 5 S662 112 (.map (some b634)) ?_
     refine h_do 7 rfl (by kernel_rfl) (wants0 rfl) (fun K663 hK663 => ?_)
     refine d_pure (d := 114) (v := (.int .i64 ((lookM (putM [] true (1 : Int)) (opn)).getD 0))) rfl (e_lookup (kt := 4) (et := 3) (KeyTy.bool (by kernel_rfl)) (by kernel_rfl) (fun w => by kernel_rfl) rfl (opn) rfl (H661.at 10 rfl) (optD (Value.int .i64) _ _)) ?_
     have S664 := H661.pick [0, 1, 2, 3, 4, 5, 8, 9] (by decide)
     refine hK663 _ _ S664 ?_
     clear hK663 K663
     refine hv0 8 S664 115 (.bool (decide ((O642.length : Int) = ((lookM (putM [] true (1 : Int)) (opn)).getD 0)))) ?_
     refine hv0 9 S664 116 (.bool (decide ((O642.length : Int) = ((lookM (putM [] true (1 : Int)) (opn)).getD 0)))) ?_
     have b665 : (decide ((O642.length : Int) = ((lookM (putM [] true (1 : Int)) (opn)).getD 0))) = true := by (rw [b82]; exact decide_eq_true (by rw [hop]; rfl))
     refine h_know 116 (.bool true) (congrArg Value.bool b665) ?_
     have g666 := of_decide_eq_true b665
     refine h_val 10 rfl (by kernel_rfl) (by kernel_rfl) (by kernel_rfl) (fun _ _ _ h => h) S664 (wantsY 9 116 true rfl (by kernel_rfl) rfl (by kernel_rfl)) (d := 117) (v := (pt r21 0)) rfl (fun _ H' => (by kernel_rfl)) ?_
     refine h_do 11 rfl (by kernel_rfl) (wantsY 9 116 true rfl (by kernel_rfl) rfl (by kernel_rfl)) (fun K667 hK667 => ?_)
     refine d_call (d := 118) rfl (by kernel_rfl) (rvForgetG_any w660 r21 m22 1 3 1 M528 (H661.fin [5, 6, 7] (by decide) rfl) (2 : Int)) ?_
     rintro _ w668 ⟨rfl, T669⟩
     have H670 : Sat w [restC w (fun _ => False), cellC b3 103 ([(.map (some m4))] : List Value), mapC m4 signedV (Value.int .i64) (marks N481), cellC r5 96 ([(.slice none 0 0)] : List Value), cellC b12 52 ([(pt b3 0), (pt r5 0)] : List Value), cellC r21 86 ([(.int .i64 (1)), (.int .i64 (3)), (.int .i64 (1)), (.map (some m22))] : List Value), mapC m22 (Value.int .i64) encX (delM M528 (2 : Int)), denC (delM M528 (2 : Int)), rowC 63 4 (.slice a482 O484.length c483) O484.length (O484.flatMap encDn), rowC 5 1 (.slice (some ⟨b521, 0, none⟩) 1 1) 1 ([UInt8.ofNat (2 : Int).toNat].flatMap encB), mapC b634 Value.bool (Value.int .i64) (putM [] true (1 : Int)), rowC 43 34 (.slice a640 O642.length c641) O642.length (O642.flatMap encOp)] w668 := (Sat.turnL (L' := [cellC r21 86 ([(.int .i64 (1)), (.int .i64 (3)), (.int .i64 (1)), (.map (some m22))] : List Value), mapC m22 (Value.int .i64) encX (delM M528 (2 : Int)), denC (delM M528 (2 : Int))]) (R := [restC w (fun _ => False), cellC b3 103 ([(.map (some m4))] : List Value), mapC m4 signedV (Value.int .i64) (marks N481), cellC r5 96 ([(.slice none 0 0)] : List Value), cellC b12 52 ([(pt b3 0), (pt r5 0)] : List Value), rowC 63 4 (.slice a482 O484.length c483) O484.length (O484.flatMap encDn), rowC 5 1 (.slice (some ⟨b521, 0, none⟩) 1 1) 1 ([UInt8.ofNat (2 : Int).toNat].flatMap encB), mapC b634 Value.bool (Value.int .i64) (putM [] true (1 : Int)), rowC 43 34 (.slice a640 O642.length c641) O642.length (O642.flatMap encOp)]) H661 [5, 6, 7] [0, 1, 2, 3, 4, 8, 9, 10, 11] (by decide) (by kernel_rfl) rfl T669).pick [3, 4, 5, 6, 7, 0, 1, 2, 8, 9, 10, 11] (by decide)
     refine ⟨_, rfl, ?_⟩
     have S681 := H670.pick [0, 1, 2, 3, 4, 5, 8, 9] (by decide)
     refine hK667 _ _ S681 ?_
     clear hK667 K667
     refine hv0 12 S681 119 (.bool ((lookM M528 (2 : Int)).isSome)) ?_
     refine hv0 13 S681 120 (.bool ((lookM M528 (2 : Int)).isSome)) ?_
     have b682 : ((lookM M528 (2 : Int)).isSome) = true := by (rw [hX537]; rfl)
     refine h_know 120 (.bool true) (congrArg Value.bool b682) ?_
     refine h_val 14 rfl (by kernel_rfl) (by kernel_rfl) (by kernel_rfl) (fun _ _ _ h => h) S681 (wantsY 13 120 true rfl (by kernel_rfl) rfl (by kernel_rfl)) (d := 121) (v := (pt r21 0)) rfl (fun _ H' => (by kernel_rfl)) ?_
     refine h_do 15 rfl (by kernel_rfl) (wantsY 13 120 true rfl (by kernel_rfl) rfl (by kernel_rfl)) (fun K683 hK683 => ?_)
     refine d_call (d := 122) rfl (by kernel_rfl) (rvForgetG_any w668 r21 m22 1 3 1 (delM M528 (2 : Int)) (H670.fin [5, 6, 7] (by decide) rfl) (2 : Int)) ?_
     rintro _ w684 ⟨rfl, T685⟩
     have H686 : Sat w [restC w (fun _ => False), cellC b3 103 ([(.map (some m4))] : List Value), mapC m4 signedV (Value.int .i64) (marks N481), cellC r5 96 ([(.slice none 0 0)] : List Value), cellC b12 52 ([(pt b3 0), (pt r5 0)] : List Value), cellC r21 86 ([(.int .i64 (1)), (.int .i64 (3)), (.int .i64 (1)), (.map (some m22))] : List Value), mapC m22 (Value.int .i64) encX (delM (delM M528 (2 : Int)) (2 : Int)), denC (delM (delM M528 (2 : Int)) (2 : Int)), rowC 63 4 (.slice a482 O484.length c483) O484.length (O484.flatMap encDn), rowC 5 1 (.slice (some ⟨b521, 0, none⟩) 1 1) 1 ([UInt8.ofNat (2 : Int).toNat].flatMap encB), mapC b634 Value.bool (Value.int .i64) (putM [] true (1 : Int)), rowC 43 34 (.slice a640 O642.length c641) O642.length (O642.flatMap encOp)] w684 := (Sat.turnL (L' := [cellC r21 86 ([(.int .i64 (1)), (.int .i64 (3)), (.int .i64 (1)), (.map (some m22))] : List Value), mapC m22 (Value.int .i64) encX (delM (delM M528 (2 : Int)) (2 : Int)), denC (delM (delM M528 (2 : Int)) (2 : Int))]) (R := [restC w (fun _ => False), cellC b3 103 ([(.map (some m4))] : List Value), mapC m4 signedV (Value.int .i64) (marks N481), cellC r5 96 ([(.slice none 0 0)] : List Value), cellC b12 52 ([(pt b3 0), (pt r5 0)] : List Value), rowC 63 4 (.slice a482 O484.length c483) O484.length (O484.flatMap encDn), rowC 5 1 (.slice (some ⟨b521, 0, none⟩) 1 1) 1 ([UInt8.ofNat (2 : Int).toNat].flatMap encB), mapC b634 Value.bool (Value.int .i64) (putM [] true (1 : Int)), rowC 43 34 (.slice a640 O642.length c641) O642.length (O642.flatMap encOp)]) H670 [5, 6, 7] [0, 1, 2, 3, 4, 8, 9, 10, 11] (by decide) (by kernel_rfl) rfl T685).pick [3, 4, 5, 6, 7, 0, 1, 2, 8, 9, 10, 11] (by decide)
     refine ⟨_, rfl, ?_⟩
     have S697 := H686.pick [0, 1, 2, 3, 4, 5, 8, 9] (by decide)
     refine hK683 _ _ S697 ?_
     clear hK683 K683
     refine h_val 16 rfl (by kernel_rfl) (by kernel_rfl) (by kernel_rfl) (fun _ _ _ h => h) S697 (wantsY 13 120 true rfl (by kernel_rfl) rfl (by kernel_rfl)) (d := 123) (v := (.bool (!((lookM (delM M528 (2 : Int)) (2 : Int)).isSome)))) rfl (fun _ H' => (by kernel_rfl)) ?_
     refine hv0 17 S697 124 (.bool (!((lookM (delM M528 (2 : Int)) (2 : Int)).isSome))) ?_
     refine hv0 18 S697 125 (.bool (!((lookM (delM M528 (2 : Int)) (2 : Int)).isSome))) ?_
     have b698 : (!((lookM (delM M528 (2 : Int)) (2 : Int)).isSome)) = true := by (rw [gone_one hk540]; rfl)
     refine h_know 125 (.bool true) (congrArg Value.bool b698) ?_
     have g699 := bnot_true b698
     refine h_val 19 rfl (by kernel_rfl) (by kernel_rfl) (by kernel_rfl) (fun _ _ _ h => h) S697 (wantsY 18 125 true rfl (by kernel_rfl) rfl (by kernel_rfl)) (d := 126) (v := (pt r21 0)) rfl (fun _ H' => (by kernel_rfl)) ?_
     refine h_do 20 rfl (by kernel_rfl) (wantsY 18 125 true rfl (by kernel_rfl) rfl (by kernel_rfl)) (fun K700 hK700 => ?_)
     refine d_call (d := 127) rfl (by kernel_rfl) (rvAckedG_any w684 r21 m22 1 3 1 (delM (delM M528 (2 : Int)) (2 : Int)) (H686.at 5 rfl) (H686.at 6 rfl) (2 : Int)) ?_
     rintro _ w701 ⟨rfl, u703⟩
     have H702 := H686.keepU u703
     refine ⟨_, rfl, ?_⟩
     have S704 := H702.pick [0, 1, 2, 3, 4, 5, 8, 9] (by decide)
     refine hK700 _ _ S704 ?_
     clear hK700 K700
     refine h_val 21 rfl (by kernel_rfl) (by kernel_rfl) (by kernel_rfl) (fun _ _ _ h => h) S704 (wantsY 18 125 true rfl (by kernel_rfl) rfl (by kernel_rfl)) (d := 128) (v := (.bool (!(ackB (delM (delM M528 (2 : Int)) (2 : Int)) (2 : Int))))) rfl (fun _ H' => (by kernel_rfl)) ?_
     refine hv0 22 S704 129 (.bool (!(ackB (delM (delM M528 (2 : Int)) (2 : Int)) (2 : Int)))) ?_
     refine hv0 23 S704 130 (.bool (!(ackB (delM (delM M528 (2 : Int)) (2 : Int)) (2 : Int)))) ?_
     have b705 : (!(ackB (delM (delM M528 (2 : Int)) (2 : Int)) (2 : Int))) = true := by (unfold ackB; rw [gone_two hk540]; rfl)
     refine h_know 130 (.bool true) (congrArg Value.bool b705) ?_
     have g706 := bnot_true b705
     refine h_val 24 rfl (by kernel_rfl) (by kernel_rfl) (by kernel_rfl) (fun _ _ _ h => h) S704 (wantsY 23 130 true rfl (by kernel_rfl) rfl (by kernel_rfl)) (d := 131) (v := (pt r21 0)) rfl (fun _ H' => (by kernel_rfl)) ?_
     refine h_do 25 rfl (by kernel_rfl) (wantsY 23 130 true rfl (by kernel_rfl) rfl (by kernel_rfl)) (fun K707 hK707 => ?_)
     refine d_call (d := 132) rfl (by kernel_rfl) (rvDeniedG_any w701 r21 m22 1 3 1 (delM (delM M528 (2 : Int)) (2 : Int)) (H702.at 5 rfl) (H702.at 6 rfl) (2 : Int)) ?_
     rintro _ w708 ⟨rfl, u710⟩
     have H709 := H702.keepU u710
     refine ⟨_, rfl, ?_⟩
     have S711 := H709.pick [0, 1, 2, 3, 4, 5, 8, 9] (by decide)
     refine hK707 _ _ S711 ?_
     clear hK707 K707
     refine h_val 26 rfl (by kernel_rfl) (by kernel_rfl) (by kernel_rfl) (fun _ _ _ h => h) S711 (wantsY 23 130 true rfl (by kernel_rfl) rfl (by kernel_rfl)) (d := 133) (v := (.bool (!(denB (delM (delM M528 (2 : Int)) (2 : Int)) (2 : Int))))) rfl (fun _ H' => (by kernel_rfl)) ?_
     refine hv0 27 S711 134 (.bool (!(denB (delM (delM M528 (2 : Int)) (2 : Int)) (2 : Int)))) ?_
     refine hv0 28 S711 135 (.bool (!(denB (delM (delM M528 (2 : Int)) (2 : Int)) (2 : Int)))) ?_
     have b712 : (!(denB (delM (delM M528 (2 : Int)) (2 : Int)) (2 : Int))) = true := by (unfold denB; rw [gone_two hk540]; rfl)
     refine h_know 135 (.bool true) (congrArg Value.bool b712) ?_
     have g713 := bnot_true b712
     refine h_do 29 rfl (by kernel_rfl) (wantsY 28 135 true rfl (by kernel_rfl) rfl (by kernel_rfl)) (fun K714 hK714 => ?_)
     refine d_call (d := 136) rfl (by kernel_rfl) (wakes_any w708) ?_
     rintro _ w715 ⟨rfl, u717⟩
     have H716 := H709.keepU u717
     refine ⟨_, rfl, ?_⟩
     have S718 := H716.pick [0, 1, 2, 3, 4, 5, 8, 9] (by decide)
     refine hK714 _ _ S718 ?_
     clear hK714 K714
     refine hv0 30 S718 137 (.bool true) ?_
     refine hv0 31 S718 6 (.bool true) ?_
     refine h_fin (by kernel_rfl) ?_
     refine then_normal ?_
     refine w_ret ?_
     refine end1 rfl (res_tmp (v := (.bool true)) rfl) ?_
     exact ⟨rfl, H716.upd 0 rfl [] (fun _ h => h.elim)⟩
    ·refine d_insert (kt := 4) (et := 3) rfl H636 10 rfl (KeyTy.bool (by kernel_rfl)) (by kernel_rfl) rfl true rfl (1 : Int) rfl ?_
     intro w719 (H720 : Sat w [restC w (fun _ => False), cellC b3 103 ([(.map (some m4))] : List Value), mapC m4 signedV (Value.int .i64) (marks N481), cellC r5 96 ([(.slice none 0 0)] : List Value), cellC b12 52 ([(.pointer (some ⟨b3, 0, none⟩)), (.pointer (some ⟨r5, 0, none⟩))] : List Value), cellC r21 86 ([(.int .i64 (1)), (.int .i64 (3)), (.int .i64 (1)), (.map (some m22))] : List Value), mapC m22 (Value.int .i64) encX M528, denC M528, rowC 63 4 (.slice a482 O484.length c483) O484.length (O484.flatMap encDn), rowC 5 1 (.slice (some ⟨b521, 0, none⟩) 1 1) 1 ([UInt8.ofNat (2 : Int).toNat].flatMap encB), mapC b634 Value.bool (Value.int .i64) (putM [] true (1 : Int))] w719)
     have S721 := H720.pick [0, 1, 2, 3, 4, 5, 8, 9] (by decide)
     refine hK638 _ _ S721 ?_
     clear hK638 K638
     refine hv0 5 S721 112 (.map (some b634)) ?_
     refine h_do2 1 7 rfl rfl (by kernel_rfl) (wants0 rfl) (wants0 rfl) (fun K722 hK722 => ?_) (fun K722 hK722 => ?_)
     ·refine d_call (d := 109) rfl (by kernel_rfl) (rvOpenings_any w719 r21 m22 1 3 1 M528 (H720.at 5 rfl) (H720.at 6 rfl) (by have q := congrArg List.length hk540; simp at q; omega) (hP539.i64 (by decide)) (H720.at 7 rfl) hP539.pay) ?_
      rintro _ w723 ⟨a724, c725, O726, rfl, o727, k728, u729, q730⟩
      have H731 : Sat w [restC w (fun _ => False), cellC b3 103 ([(.map (some m4))] : List Value), mapC m4 signedV (Value.int .i64) (marks N481), cellC r5 96 ([(.slice none 0 0)] : List Value), cellC b12 52 ([(pt b3 0), (pt r5 0)] : List Value), cellC r21 86 ([(.int .i64 (1)), (.int .i64 (3)), (.int .i64 (1)), (.map (some m22))] : List Value), mapC m22 (Value.int .i64) encX M528, denC M528, rowC 63 4 (.slice a482 O484.length c483) O484.length (O484.flatMap encDn), rowC 5 1 (.slice (some ⟨b521, 0, none⟩) 1 1) 1 ([UInt8.ofNat (2 : Int).toNat].flatMap encB), mapC b634 Value.bool (Value.int .i64) (putM [] true (1 : Int)), rowC 43 34 (.slice a724 O726.length c725) O726.length (O726.flatMap encOp)] w723 := H720.addU u729 k728 q730
      refine ⟨_, rfl, ?_⟩
      have hop : O726.length = 0 := by rw [opens_one o727 hk540 hX537, ha491]; rfl
      have S742 := H731.pick [0, 1, 2, 3, 4, 5, 8, 9] (by decide)
      refine hK722 _ _ S742 ?_
      clear hK722 K722
      refine h_val 2 rfl (by kernel_rfl) (by kernel_rfl) (by kernel_rfl) (fun _ _ _ h => h) S742 (wants0 rfl) (d := 110) (v := (.int .i64 ((O726.length : Int)))) rfl (fun _ H' => (by kernel_rfl)) ?_
      refine h_do 7 rfl (by kernel_rfl) (wants0 rfl) (fun K743 hK743 => ?_)
      refine d_pure (d := 114) (v := (.int .i64 ((lookM (putM [] true (1 : Int)) (opn)).getD 0))) rfl (e_lookup (kt := 4) (et := 3) (KeyTy.bool (by kernel_rfl)) (by kernel_rfl) (fun w => by kernel_rfl) rfl (opn) rfl (H731.at 10 rfl) (optD (Value.int .i64) _ _)) ?_
      have S744 := H731.pick [0, 1, 2, 3, 4, 5, 8, 9] (by decide)
      refine hK743 _ _ S744 ?_
      clear hK743 K743
      refine hv0 8 S744 115 (.bool (decide ((O726.length : Int) = ((lookM (putM [] true (1 : Int)) (opn)).getD 0)))) ?_
      refine hv0 9 S744 116 (.bool (decide ((O726.length : Int) = ((lookM (putM [] true (1 : Int)) (opn)).getD 0)))) ?_
      have b745 : (decide ((O726.length : Int) = ((lookM (putM [] true (1 : Int)) (opn)).getD 0))) = true := by (rw [b82]; exact decide_eq_true (by rw [hop]; rfl))
      refine h_know 116 (.bool true) (congrArg Value.bool b745) ?_
      have g746 := of_decide_eq_true b745
      refine h_val 10 rfl (by kernel_rfl) (by kernel_rfl) (by kernel_rfl) (fun _ _ _ h => h) S744 (wantsY 9 116 true rfl (by kernel_rfl) rfl (by kernel_rfl)) (d := 117) (v := (pt r21 0)) rfl (fun _ H' => (by kernel_rfl)) ?_
      refine h_do 11 rfl (by kernel_rfl) (wantsY 9 116 true rfl (by kernel_rfl) rfl (by kernel_rfl)) (fun K747 hK747 => ?_)
      refine d_call (d := 118) rfl (by kernel_rfl) (rvForgetG_any w723 r21 m22 1 3 1 M528 (H731.fin [5, 6, 7] (by decide) rfl) (2 : Int)) ?_
      rintro _ w748 ⟨rfl, T749⟩
      have H750 : Sat w [restC w (fun _ => False), cellC b3 103 ([(.map (some m4))] : List Value), mapC m4 signedV (Value.int .i64) (marks N481), cellC r5 96 ([(.slice none 0 0)] : List Value), cellC b12 52 ([(pt b3 0), (pt r5 0)] : List Value), cellC r21 86 ([(.int .i64 (1)), (.int .i64 (3)), (.int .i64 (1)), (.map (some m22))] : List Value), mapC m22 (Value.int .i64) encX (delM M528 (2 : Int)), denC (delM M528 (2 : Int)), rowC 63 4 (.slice a482 O484.length c483) O484.length (O484.flatMap encDn), rowC 5 1 (.slice (some ⟨b521, 0, none⟩) 1 1) 1 ([UInt8.ofNat (2 : Int).toNat].flatMap encB), mapC b634 Value.bool (Value.int .i64) (putM [] true (1 : Int)), rowC 43 34 (.slice a724 O726.length c725) O726.length (O726.flatMap encOp)] w748 := (Sat.turnL (L' := [cellC r21 86 ([(.int .i64 (1)), (.int .i64 (3)), (.int .i64 (1)), (.map (some m22))] : List Value), mapC m22 (Value.int .i64) encX (delM M528 (2 : Int)), denC (delM M528 (2 : Int))]) (R := [restC w (fun _ => False), cellC b3 103 ([(.map (some m4))] : List Value), mapC m4 signedV (Value.int .i64) (marks N481), cellC r5 96 ([(.slice none 0 0)] : List Value), cellC b12 52 ([(pt b3 0), (pt r5 0)] : List Value), rowC 63 4 (.slice a482 O484.length c483) O484.length (O484.flatMap encDn), rowC 5 1 (.slice (some ⟨b521, 0, none⟩) 1 1) 1 ([UInt8.ofNat (2 : Int).toNat].flatMap encB), mapC b634 Value.bool (Value.int .i64) (putM [] true (1 : Int)), rowC 43 34 (.slice a724 O726.length c725) O726.length (O726.flatMap encOp)]) H731 [5, 6, 7] [0, 1, 2, 3, 4, 8, 9, 10, 11] (by decide) (by kernel_rfl) rfl T749).pick [3, 4, 5, 6, 7, 0, 1, 2, 8, 9, 10, 11] (by decide)
      refine ⟨_, rfl, ?_⟩
      have S761 := H750.pick [0, 1, 2, 3, 4, 5, 8, 9] (by decide)
      refine hK747 _ _ S761 ?_
      clear hK747 K747
      refine hv0 12 S761 119 (.bool ((lookM M528 (2 : Int)).isSome)) ?_
      refine hv0 13 S761 120 (.bool ((lookM M528 (2 : Int)).isSome)) ?_
      have b762 : ((lookM M528 (2 : Int)).isSome) = true := by (rw [hX537]; rfl)
      refine h_know 120 (.bool true) (congrArg Value.bool b762) ?_
      refine h_val 14 rfl (by kernel_rfl) (by kernel_rfl) (by kernel_rfl) (fun _ _ _ h => h) S761 (wantsY 13 120 true rfl (by kernel_rfl) rfl (by kernel_rfl)) (d := 121) (v := (pt r21 0)) rfl (fun _ H' => (by kernel_rfl)) ?_
      refine h_do 15 rfl (by kernel_rfl) (wantsY 13 120 true rfl (by kernel_rfl) rfl (by kernel_rfl)) (fun K763 hK763 => ?_)
      refine d_call (d := 122) rfl (by kernel_rfl) (rvForgetG_any w748 r21 m22 1 3 1 (delM M528 (2 : Int)) (H750.fin [5, 6, 7] (by decide) rfl) (2 : Int)) ?_
      rintro _ w764 ⟨rfl, T765⟩
      have H766 : Sat w [restC w (fun _ => False), cellC b3 103 ([(.map (some m4))] : List Value), mapC m4 signedV (Value.int .i64) (marks N481), cellC r5 96 ([(.slice none 0 0)] : List Value), cellC b12 52 ([(pt b3 0), (pt r5 0)] : List Value), cellC r21 86 ([(.int .i64 (1)), (.int .i64 (3)), (.int .i64 (1)), (.map (some m22))] : List Value), mapC m22 (Value.int .i64) encX (delM (delM M528 (2 : Int)) (2 : Int)), denC (delM (delM M528 (2 : Int)) (2 : Int)), rowC 63 4 (.slice a482 O484.length c483) O484.length (O484.flatMap encDn), rowC 5 1 (.slice (some ⟨b521, 0, none⟩) 1 1) 1 ([UInt8.ofNat (2 : Int).toNat].flatMap encB), mapC b634 Value.bool (Value.int .i64) (putM [] true (1 : Int)), rowC 43 34 (.slice a724 O726.length c725) O726.length (O726.flatMap encOp)] w764 := (Sat.turnL (L' := [cellC r21 86 ([(.int .i64 (1)), (.int .i64 (3)), (.int .i64 (1)), (.map (some m22))] : List Value), mapC m22 (Value.int .i64) encX (delM (delM M528 (2 : Int)) (2 : Int)), denC (delM (delM M528 (2 : Int)) (2 : Int))]) (R := [restC w (fun _ => False), cellC b3 103 ([(.map (some m4))] : List Value), mapC m4 signedV (Value.int .i64) (marks N481), cellC r5 96 ([(.slice none 0 0)] : List Value), cellC b12 52 ([(pt b3 0), (pt r5 0)] : List Value), rowC 63 4 (.slice a482 O484.length c483) O484.length (O484.flatMap encDn), rowC 5 1 (.slice (some ⟨b521, 0, none⟩) 1 1) 1 ([UInt8.ofNat (2 : Int).toNat].flatMap encB), mapC b634 Value.bool (Value.int .i64) (putM [] true (1 : Int)), rowC 43 34 (.slice a724 O726.length c725) O726.length (O726.flatMap encOp)]) H750 [5, 6, 7] [0, 1, 2, 3, 4, 8, 9, 10, 11] (by decide) (by kernel_rfl) rfl T765).pick [3, 4, 5, 6, 7, 0, 1, 2, 8, 9, 10, 11] (by decide)
      refine ⟨_, rfl, ?_⟩
      have S777 := H766.pick [0, 1, 2, 3, 4, 5, 8, 9] (by decide)
      refine hK763 _ _ S777 ?_
      clear hK763 K763
      refine h_val 16 rfl (by kernel_rfl) (by kernel_rfl) (by kernel_rfl) (fun _ _ _ h => h) S777 (wantsY 13 120 true rfl (by kernel_rfl) rfl (by kernel_rfl)) (d := 123) (v := (.bool (!((lookM (delM M528 (2 : Int)) (2 : Int)).isSome)))) rfl (fun _ H' => (by kernel_rfl)) ?_
      refine hv0 17 S777 124 (.bool (!((lookM (delM M528 (2 : Int)) (2 : Int)).isSome))) ?_
      refine hv0 18 S777 125 (.bool (!((lookM (delM M528 (2 : Int)) (2 : Int)).isSome))) ?_
      have b778 : (!((lookM (delM M528 (2 : Int)) (2 : Int)).isSome)) = true := by (rw [gone_one hk540]; rfl)
      refine h_know 125 (.bool true) (congrArg Value.bool b778) ?_
      have g779 := bnot_true b778
      refine h_val 19 rfl (by kernel_rfl) (by kernel_rfl) (by kernel_rfl) (fun _ _ _ h => h) S777 (wantsY 18 125 true rfl (by kernel_rfl) rfl (by kernel_rfl)) (d := 126) (v := (pt r21 0)) rfl (fun _ H' => (by kernel_rfl)) ?_
      refine h_do 20 rfl (by kernel_rfl) (wantsY 18 125 true rfl (by kernel_rfl) rfl (by kernel_rfl)) (fun K780 hK780 => ?_)
      refine d_call (d := 127) rfl (by kernel_rfl) (rvAckedG_any w764 r21 m22 1 3 1 (delM (delM M528 (2 : Int)) (2 : Int)) (H766.at 5 rfl) (H766.at 6 rfl) (2 : Int)) ?_
      rintro _ w781 ⟨rfl, u783⟩
      have H782 := H766.keepU u783
      refine ⟨_, rfl, ?_⟩
      have S784 := H782.pick [0, 1, 2, 3, 4, 5, 8, 9] (by decide)
      refine hK780 _ _ S784 ?_
      clear hK780 K780
      refine h_val 21 rfl (by kernel_rfl) (by kernel_rfl) (by kernel_rfl) (fun _ _ _ h => h) S784 (wantsY 18 125 true rfl (by kernel_rfl) rfl (by kernel_rfl)) (d := 128) (v := (.bool (!(ackB (delM (delM M528 (2 : Int)) (2 : Int)) (2 : Int))))) rfl (fun _ H' => (by kernel_rfl)) ?_
      refine hv0 22 S784 129 (.bool (!(ackB (delM (delM M528 (2 : Int)) (2 : Int)) (2 : Int)))) ?_
      refine hv0 23 S784 130 (.bool (!(ackB (delM (delM M528 (2 : Int)) (2 : Int)) (2 : Int)))) ?_
      have b785 : (!(ackB (delM (delM M528 (2 : Int)) (2 : Int)) (2 : Int))) = true := by (unfold ackB; rw [gone_two hk540]; rfl)
      refine h_know 130 (.bool true) (congrArg Value.bool b785) ?_
      have g786 := bnot_true b785
      refine h_val 24 rfl (by kernel_rfl) (by kernel_rfl) (by kernel_rfl) (fun _ _ _ h => h) S784 (wantsY 23 130 true rfl (by kernel_rfl) rfl (by kernel_rfl)) (d := 131) (v := (pt r21 0)) rfl (fun _ H' => (by kernel_rfl)) ?_
      refine h_do 25 rfl (by kernel_rfl) (wantsY 23 130 true rfl (by kernel_rfl) rfl (by kernel_rfl)) (fun K787 hK787 => ?_)
      refine d_call (d := 132) rfl (by kernel_rfl) (rvDeniedG_any w781 r21 m22 1 3 1 (delM (delM M528 (2 : Int)) (2 : Int)) (H782.at 5 rfl) (H782.at 6 rfl) (2 : Int)) ?_
      rintro _ w788 ⟨rfl, u790⟩
      have H789 := H782.keepU u790
      refine ⟨_, rfl, ?_⟩
      have S791 := H789.pick [0, 1, 2, 3, 4, 5, 8, 9] (by decide)
      refine hK787 _ _ S791 ?_
      clear hK787 K787
      refine h_val 26 rfl (by kernel_rfl) (by kernel_rfl) (by kernel_rfl) (fun _ _ _ h => h) S791 (wantsY 23 130 true rfl (by kernel_rfl) rfl (by kernel_rfl)) (d := 133) (v := (.bool (!(denB (delM (delM M528 (2 : Int)) (2 : Int)) (2 : Int))))) rfl (fun _ H' => (by kernel_rfl)) ?_
      refine hv0 27 S791 134 (.bool (!(denB (delM (delM M528 (2 : Int)) (2 : Int)) (2 : Int)))) ?_
      refine hv0 28 S791 135 (.bool (!(denB (delM (delM M528 (2 : Int)) (2 : Int)) (2 : Int)))) ?_
      have b792 : (!(denB (delM (delM M528 (2 : Int)) (2 : Int)) (2 : Int))) = true := by (unfold denB; rw [gone_two hk540]; rfl)
      refine h_know 135 (.bool true) (congrArg Value.bool b792) ?_
      have g793 := bnot_true b792
      refine h_do 29 rfl (by kernel_rfl) (wantsY 28 135 true rfl (by kernel_rfl) rfl (by kernel_rfl)) (fun K794 hK794 => ?_)
      refine d_call (d := 136) rfl (by kernel_rfl) (wakes_any w788) ?_
      rintro _ w795 ⟨rfl, u797⟩
      have H796 := H789.keepU u797
      refine ⟨_, rfl, ?_⟩
      have S798 := H796.pick [0, 1, 2, 3, 4, 5, 8, 9] (by decide)
      refine hK794 _ _ S798 ?_
      clear hK794 K794
      refine hv0 30 S798 137 (.bool true) ?_
      refine hv0 31 S798 6 (.bool true) ?_
      refine h_fin (by kernel_rfl) ?_
      refine then_normal ?_
      refine w_ret ?_
      refine end1 rfl (res_tmp (v := (.bool true)) rfl) ?_
      exact ⟨rfl, H796.upd 0 rfl [] (fun _ h => h.elim)⟩
     ·refine d_pure (d := 114) (v := (.int .i64 ((lookM (putM [] true (1 : Int)) (opn)).getD 0))) rfl (e_lookup (kt := 4) (et := 3) (KeyTy.bool (by kernel_rfl)) (by kernel_rfl) (fun w => by kernel_rfl) rfl (opn) rfl (H720.at 10 rfl) (optD (Value.int .i64) _ _)) ?_
      have S799 := H720.pick [0, 1, 2, 3, 4, 5, 8, 9] (by decide)
      refine hK722 _ _ S799 ?_
      clear hK722 K722
      refine h_do 1 rfl (by kernel_rfl) (wants0 rfl) (fun K800 hK800 => ?_)
      refine d_call (d := 109) rfl (by kernel_rfl) (rvOpenings_any w719 r21 m22 1 3 1 M528 (H720.at 5 rfl) (H720.at 6 rfl) (by have q := congrArg List.length hk540; simp at q; omega) (hP539.i64 (by decide)) (H720.at 7 rfl) hP539.pay) ?_
      rintro _ w801 ⟨a802, c803, O804, rfl, o805, k806, u807, q808⟩
      have H809 : Sat w [restC w (fun _ => False), cellC b3 103 ([(.map (some m4))] : List Value), mapC m4 signedV (Value.int .i64) (marks N481), cellC r5 96 ([(.slice none 0 0)] : List Value), cellC b12 52 ([(pt b3 0), (pt r5 0)] : List Value), cellC r21 86 ([(.int .i64 (1)), (.int .i64 (3)), (.int .i64 (1)), (.map (some m22))] : List Value), mapC m22 (Value.int .i64) encX M528, denC M528, rowC 63 4 (.slice a482 O484.length c483) O484.length (O484.flatMap encDn), rowC 5 1 (.slice (some ⟨b521, 0, none⟩) 1 1) 1 ([UInt8.ofNat (2 : Int).toNat].flatMap encB), mapC b634 Value.bool (Value.int .i64) (putM [] true (1 : Int)), rowC 43 34 (.slice a802 O804.length c803) O804.length (O804.flatMap encOp)] w801 := H720.addU u807 k806 q808
      refine ⟨_, rfl, ?_⟩
      have hop : O804.length = 0 := by rw [opens_one o805 hk540 hX537, ha491]; rfl
      have S820 := H809.pick [0, 1, 2, 3, 4, 5, 8, 9] (by decide)
      refine hK800 _ _ S820 ?_
      clear hK800 K800
      refine h_val 2 rfl (by kernel_rfl) (by kernel_rfl) (by kernel_rfl) (fun _ _ _ h => h) S820 (wants0 rfl) (d := 110) (v := (.int .i64 ((O804.length : Int)))) rfl (fun _ H' => (by kernel_rfl)) ?_
      refine hv0 8 S820 115 (.bool (decide ((O804.length : Int) = ((lookM (putM [] true (1 : Int)) (opn)).getD 0)))) ?_
      refine hv0 9 S820 116 (.bool (decide ((O804.length : Int) = ((lookM (putM [] true (1 : Int)) (opn)).getD 0)))) ?_
      have b821 : (decide ((O804.length : Int) = ((lookM (putM [] true (1 : Int)) (opn)).getD 0))) = true := by (rw [b82]; exact decide_eq_true (by rw [hop]; rfl))
      refine h_know 116 (.bool true) (congrArg Value.bool b821) ?_
      have g822 := of_decide_eq_true b821
      refine h_val 10 rfl (by kernel_rfl) (by kernel_rfl) (by kernel_rfl) (fun _ _ _ h => h) S820 (wantsY 9 116 true rfl (by kernel_rfl) rfl (by kernel_rfl)) (d := 117) (v := (pt r21 0)) rfl (fun _ H' => (by kernel_rfl)) ?_
      refine h_do 11 rfl (by kernel_rfl) (wantsY 9 116 true rfl (by kernel_rfl) rfl (by kernel_rfl)) (fun K823 hK823 => ?_)
      refine d_call (d := 118) rfl (by kernel_rfl) (rvForgetG_any w801 r21 m22 1 3 1 M528 (H809.fin [5, 6, 7] (by decide) rfl) (2 : Int)) ?_
      rintro _ w824 ⟨rfl, T825⟩
      have H826 : Sat w [restC w (fun _ => False), cellC b3 103 ([(.map (some m4))] : List Value), mapC m4 signedV (Value.int .i64) (marks N481), cellC r5 96 ([(.slice none 0 0)] : List Value), cellC b12 52 ([(pt b3 0), (pt r5 0)] : List Value), cellC r21 86 ([(.int .i64 (1)), (.int .i64 (3)), (.int .i64 (1)), (.map (some m22))] : List Value), mapC m22 (Value.int .i64) encX (delM M528 (2 : Int)), denC (delM M528 (2 : Int)), rowC 63 4 (.slice a482 O484.length c483) O484.length (O484.flatMap encDn), rowC 5 1 (.slice (some ⟨b521, 0, none⟩) 1 1) 1 ([UInt8.ofNat (2 : Int).toNat].flatMap encB), mapC b634 Value.bool (Value.int .i64) (putM [] true (1 : Int)), rowC 43 34 (.slice a802 O804.length c803) O804.length (O804.flatMap encOp)] w824 := (Sat.turnL (L' := [cellC r21 86 ([(.int .i64 (1)), (.int .i64 (3)), (.int .i64 (1)), (.map (some m22))] : List Value), mapC m22 (Value.int .i64) encX (delM M528 (2 : Int)), denC (delM M528 (2 : Int))]) (R := [restC w (fun _ => False), cellC b3 103 ([(.map (some m4))] : List Value), mapC m4 signedV (Value.int .i64) (marks N481), cellC r5 96 ([(.slice none 0 0)] : List Value), cellC b12 52 ([(pt b3 0), (pt r5 0)] : List Value), rowC 63 4 (.slice a482 O484.length c483) O484.length (O484.flatMap encDn), rowC 5 1 (.slice (some ⟨b521, 0, none⟩) 1 1) 1 ([UInt8.ofNat (2 : Int).toNat].flatMap encB), mapC b634 Value.bool (Value.int .i64) (putM [] true (1 : Int)), rowC 43 34 (.slice a802 O804.length c803) O804.length (O804.flatMap encOp)]) H809 [5, 6, 7] [0, 1, 2, 3, 4, 8, 9, 10, 11] (by decide) (by kernel_rfl) rfl T825).pick [3, 4, 5, 6, 7, 0, 1, 2, 8, 9, 10, 11] (by decide)
      refine ⟨_, rfl, ?_⟩
      have S837 := H826.pick [0, 1, 2, 3, 4, 5, 8, 9] (by decide)
      refine hK823 _ _ S837 ?_
      clear hK823 K823
      refine hv0 12 S837 119 (.bool ((lookM M528 (2 : Int)).isSome)) ?_
      refine hv0 13 S837 120 (.bool ((lookM M528 (2 : Int)).isSome)) ?_
      have b838 : ((lookM M528 (2 : Int)).isSome) = true := by (rw [hX537]; rfl)
      refine h_know 120 (.bool true) (congrArg Value.bool b838) ?_
      refine h_val 14 rfl (by kernel_rfl) (by kernel_rfl) (by kernel_rfl) (fun _ _ _ h => h) S837 (wantsY 13 120 true rfl (by kernel_rfl) rfl (by kernel_rfl)) (d := 121) (v := (pt r21 0)) rfl (fun _ H' => (by kernel_rfl)) ?_
      refine h_do 15 rfl (by kernel_rfl) (wantsY 13 120 true rfl (by kernel_rfl) rfl (by kernel_rfl)) (fun K839 hK839 => ?_)
      refine d_call (d := 122) rfl (by kernel_rfl) (rvForgetG_any w824 r21 m22 1 3 1 (delM M528 (2 : Int)) (H826.fin [5, 6, 7] (by decide) rfl) (2 : Int)) ?_
      rintro _ w840 ⟨rfl, T841⟩
      have H842 : Sat w [restC w (fun _ => False), cellC b3 103 ([(.map (some m4))] : List Value), mapC m4 signedV (Value.int .i64) (marks N481), cellC r5 96 ([(.slice none 0 0)] : List Value), cellC b12 52 ([(pt b3 0), (pt r5 0)] : List Value), cellC r21 86 ([(.int .i64 (1)), (.int .i64 (3)), (.int .i64 (1)), (.map (some m22))] : List Value), mapC m22 (Value.int .i64) encX (delM (delM M528 (2 : Int)) (2 : Int)), denC (delM (delM M528 (2 : Int)) (2 : Int)), rowC 63 4 (.slice a482 O484.length c483) O484.length (O484.flatMap encDn), rowC 5 1 (.slice (some ⟨b521, 0, none⟩) 1 1) 1 ([UInt8.ofNat (2 : Int).toNat].flatMap encB), mapC b634 Value.bool (Value.int .i64) (putM [] true (1 : Int)), rowC 43 34 (.slice a802 O804.length c803) O804.length (O804.flatMap encOp)] w840 := (Sat.turnL (L' := [cellC r21 86 ([(.int .i64 (1)), (.int .i64 (3)), (.int .i64 (1)), (.map (some m22))] : List Value), mapC m22 (Value.int .i64) encX (delM (delM M528 (2 : Int)) (2 : Int)), denC (delM (delM M528 (2 : Int)) (2 : Int))]) (R := [restC w (fun _ => False), cellC b3 103 ([(.map (some m4))] : List Value), mapC m4 signedV (Value.int .i64) (marks N481), cellC r5 96 ([(.slice none 0 0)] : List Value), cellC b12 52 ([(pt b3 0), (pt r5 0)] : List Value), rowC 63 4 (.slice a482 O484.length c483) O484.length (O484.flatMap encDn), rowC 5 1 (.slice (some ⟨b521, 0, none⟩) 1 1) 1 ([UInt8.ofNat (2 : Int).toNat].flatMap encB), mapC b634 Value.bool (Value.int .i64) (putM [] true (1 : Int)), rowC 43 34 (.slice a802 O804.length c803) O804.length (O804.flatMap encOp)]) H826 [5, 6, 7] [0, 1, 2, 3, 4, 8, 9, 10, 11] (by decide) (by kernel_rfl) rfl T841).pick [3, 4, 5, 6, 7, 0, 1, 2, 8, 9, 10, 11] (by decide)
      refine ⟨_, rfl, ?_⟩
      have S853 := H842.pick [0, 1, 2, 3, 4, 5, 8, 9] (by decide)
      refine hK839 _ _ S853 ?_
      clear hK839 K839
      refine h_val 16 rfl (by kernel_rfl) (by kernel_rfl) (by kernel_rfl) (fun _ _ _ h => h) S853 (wantsY 13 120 true rfl (by kernel_rfl) rfl (by kernel_rfl)) (d := 123) (v := (.bool (!((lookM (delM M528 (2 : Int)) (2 : Int)).isSome)))) rfl (fun _ H' => (by kernel_rfl)) ?_
      refine hv0 17 S853 124 (.bool (!((lookM (delM M528 (2 : Int)) (2 : Int)).isSome))) ?_
      refine hv0 18 S853 125 (.bool (!((lookM (delM M528 (2 : Int)) (2 : Int)).isSome))) ?_
      have b854 : (!((lookM (delM M528 (2 : Int)) (2 : Int)).isSome)) = true := by (rw [gone_one hk540]; rfl)
      refine h_know 125 (.bool true) (congrArg Value.bool b854) ?_
      have g855 := bnot_true b854
      refine h_val 19 rfl (by kernel_rfl) (by kernel_rfl) (by kernel_rfl) (fun _ _ _ h => h) S853 (wantsY 18 125 true rfl (by kernel_rfl) rfl (by kernel_rfl)) (d := 126) (v := (pt r21 0)) rfl (fun _ H' => (by kernel_rfl)) ?_
      refine h_do 20 rfl (by kernel_rfl) (wantsY 18 125 true rfl (by kernel_rfl) rfl (by kernel_rfl)) (fun K856 hK856 => ?_)
      refine d_call (d := 127) rfl (by kernel_rfl) (rvAckedG_any w840 r21 m22 1 3 1 (delM (delM M528 (2 : Int)) (2 : Int)) (H842.at 5 rfl) (H842.at 6 rfl) (2 : Int)) ?_
      rintro _ w857 ⟨rfl, u859⟩
      have H858 := H842.keepU u859
      refine ⟨_, rfl, ?_⟩
      have S860 := H858.pick [0, 1, 2, 3, 4, 5, 8, 9] (by decide)
      refine hK856 _ _ S860 ?_
      clear hK856 K856
      refine h_val 21 rfl (by kernel_rfl) (by kernel_rfl) (by kernel_rfl) (fun _ _ _ h => h) S860 (wantsY 18 125 true rfl (by kernel_rfl) rfl (by kernel_rfl)) (d := 128) (v := (.bool (!(ackB (delM (delM M528 (2 : Int)) (2 : Int)) (2 : Int))))) rfl (fun _ H' => (by kernel_rfl)) ?_
      refine hv0 22 S860 129 (.bool (!(ackB (delM (delM M528 (2 : Int)) (2 : Int)) (2 : Int)))) ?_
      refine hv0 23 S860 130 (.bool (!(ackB (delM (delM M528 (2 : Int)) (2 : Int)) (2 : Int)))) ?_
      have b861 : (!(ackB (delM (delM M528 (2 : Int)) (2 : Int)) (2 : Int))) = true := by (unfold ackB; rw [gone_two hk540]; rfl)
      refine h_know 130 (.bool true) (congrArg Value.bool b861) ?_
      have g862 := bnot_true b861
      refine h_val 24 rfl (by kernel_rfl) (by kernel_rfl) (by kernel_rfl) (fun _ _ _ h => h) S860 (wantsY 23 130 true rfl (by kernel_rfl) rfl (by kernel_rfl)) (d := 131) (v := (pt r21 0)) rfl (fun _ H' => (by kernel_rfl)) ?_
      refine h_do 25 rfl (by kernel_rfl) (wantsY 23 130 true rfl (by kernel_rfl) rfl (by kernel_rfl)) (fun K863 hK863 => ?_)
      refine d_call (d := 132) rfl (by kernel_rfl) (rvDeniedG_any w857 r21 m22 1 3 1 (delM (delM M528 (2 : Int)) (2 : Int)) (H858.at 5 rfl) (H858.at 6 rfl) (2 : Int)) ?_
      rintro _ w864 ⟨rfl, u866⟩
      have H865 := H858.keepU u866
      refine ⟨_, rfl, ?_⟩
      have S867 := H865.pick [0, 1, 2, 3, 4, 5, 8, 9] (by decide)
      refine hK863 _ _ S867 ?_
      clear hK863 K863
      refine h_val 26 rfl (by kernel_rfl) (by kernel_rfl) (by kernel_rfl) (fun _ _ _ h => h) S867 (wantsY 23 130 true rfl (by kernel_rfl) rfl (by kernel_rfl)) (d := 133) (v := (.bool (!(denB (delM (delM M528 (2 : Int)) (2 : Int)) (2 : Int))))) rfl (fun _ H' => (by kernel_rfl)) ?_
      refine hv0 27 S867 134 (.bool (!(denB (delM (delM M528 (2 : Int)) (2 : Int)) (2 : Int)))) ?_
      refine hv0 28 S867 135 (.bool (!(denB (delM (delM M528 (2 : Int)) (2 : Int)) (2 : Int)))) ?_
      have b868 : (!(denB (delM (delM M528 (2 : Int)) (2 : Int)) (2 : Int))) = true := by (unfold denB; rw [gone_two hk540]; rfl)
      refine h_know 135 (.bool true) (congrArg Value.bool b868) ?_
      have g869 := bnot_true b868
      refine h_do 29 rfl (by kernel_rfl) (wantsY 28 135 true rfl (by kernel_rfl) rfl (by kernel_rfl)) (fun K870 hK870 => ?_)
      refine d_call (d := 136) rfl (by kernel_rfl) (wakes_any w864) ?_
      rintro _ w871 ⟨rfl, u873⟩
      have H872 := H865.keepU u873
      refine ⟨_, rfl, ?_⟩
      have S874 := H872.pick [0, 1, 2, 3, 4, 5, 8, 9] (by decide)
      refine hK870 _ _ S874 ?_
      clear hK870 K870
      refine hv0 30 S874 137 (.bool true) ?_
      refine hv0 31 S874 6 (.bool true) ?_
      refine h_fin (by kernel_rfl) ?_
      refine then_normal ?_
      refine w_ret ?_
      refine end1 rfl (res_tmp (v := (.bool true)) rfl) ?_
      exact ⟨rfl, H872.upd 0 rfl [] (fun _ h => h.elim)⟩
  ·have g875 := of_decide_eq_false b501
   have hdue : dueX N X38 = false := by
    unfold dueX; rw [ha40, hd41, hs0]
    rcases Int.lt_or_le N S with q | q
    ·rw [decide_eq_true q]; rfl
    ·rw [decide_eq_false (by omega), decide_eq_true (by omega)]; rfl
   have hol : O484.length = 0 := by have q := congrArg List.length hO; rw [hdue] at q; simpa using q
   have hd876 : X489.p.denied = false := by rw [hdx, hd41, hdue]; rfl
   refine wp_know 12 (.bool false) (congrArg Value.bool b501) ?_
   refine w_lit ?_
   refine wv 77 (.slice a482 O484.length c483) ?_
   refine wv 78 (.int .i64 ((O484.length : Int))) ?_
   refine wv 79 (.bool (decide ((O484.length : Int) = 1))) ?_
   refine wv 80 (.bool false) ?_
   refine wv 81 (.bool (!((decide ((O484.length : Int) = 1)) == false))) ?_
   refine wv 82 (.bool (!((decide ((O484.length : Int) = 1)) == false))) ?_
   have b877 : (!((decide ((O484.length : Int) = 1)) == false)) = false := by (rw [decide_eq_false (by omega)]; rfl)
   refine wl_know 82 (.bool false) (congrArg Value.bool b877) ?_
   have g878 := bnot_false b877
   refine wy 5 82 false 83 (.slice a482 O484.length c483) ?_
   refine wy 5 82 false 84 (.int .i64 ((O484.length : Int))) ?_
   refine wy 5 82 false 85 (.bool (decide ((O484.length : Int) > 1))) ?_
   refine wv 86 (.bool (decide ((O484.length : Int) > 1))) ?_
   refine wv 87 (.bool (decide ((O484.length : Int) > 1))) ?_
   have b879 : (decide ((O484.length : Int) > 1)) = false := by (exact decide_eq_false (by omega))
   refine wl_know 87 (.bool false) (congrArg Value.bool b879) ?_
   have g880 := of_decide_eq_false b879
   refine wy 10 87 false 88 (pt r21 0) ?_
   refine wl_do (wantsY 10 87 false rfl (by kernel_rfl) rfl (by kernel_rfl)) (fun K881 hK881 => ?_)
   refine d_call (d := 89) rfl (by kernel_rfl) (rvDeniedG_any w479 r21 m22 1 3 1 M480 (H488.at 5 rfl) (H488.at 6 rfl) (2 : Int)) ?_
   rintro _ w882 ⟨rfl, u884⟩
   have H883 := H488.keepU u884
   refine ⟨_, rfl, ?_⟩
   refine hK881 _ _ ?_
   clear hK881 K881
   refine wy 10 87 false 90 (.bool false) ?_
   refine wy 10 87 false 91 (.bool (!((denB M480 (2 : Int)) == false))) ?_
   refine wv 92 (.bool (!((denB M480 (2 : Int)) == false))) ?_
   refine wv 93 (.bool (!((denB M480 (2 : Int)) == false))) ?_
   have b885 : (!((denB M480 (2 : Int)) == false)) = false := by (rw [denB_at hX494, hd876]; rfl)
   refine wl_know 93 (.bool false) (congrArg Value.bool b885) ?_
   have g886 := bnot_false b885
   refine wy 16 93 false 94 (pt r21 0) ?_
   refine wl_do (wantsY 16 93 false rfl (by kernel_rfl) rfl (by kernel_rfl)) (fun K887 hK887 => ?_)
   refine d_call (d := 95) rfl (by kernel_rfl) (rvAckedG_any w882 r21 m22 1 3 1 M480 (H883.at 5 rfl) (H883.at 6 rfl) (2 : Int)) ?_
   rintro _ w888 ⟨rfl, u890⟩
   have H889 := H883.keepU u890
   refine ⟨_, rfl, ?_⟩
   refine hK887 _ _ ?_
   clear hK887 K887
   refine wy 16 93 false 96 (.bool (opn)) ?_
   refine wy 16 93 false 97 (.bool (!((ackB M480 (2 : Int)) == (opn)))) ?_
   refine wv 98 (.bool (!((ackB M480 (2 : Int)) == (opn)))) ?_
   refine w_nil ?_
   refine then_normal ?_
   have b891 : (!((ackB M480 (2 : Int)) == (opn))) = false := by (rw [ackB_at hX494, ha491, b82]; rfl)
   refine wp_know 98 (.bool false) (congrArg Value.bool b891) ?_
   have g892 := bnot_false b891
   refine wp_iff rfl ?_
   refine w_skip ?_
   refine then_normal ?_
   iterate 2 refine w_seq ?_
   refine w_lit ?_
   refine wv 99 (.bool false) ?_
   refine wv 100 (.bool false) ?_
   iterate 6 refine wn 1 100 true ?_
   refine wv 107 (.bool false) ?_
   refine w_nil ?_
   refine then_normal ?_
   refine wp_iff rfl ?_
   refine w_skip ?_
   refine then_normal ?_
   refine w_seq ?_
   refine h_start H889 [restC w (fun _ => False), cellC b3 103 ([(.map (some m4))] : List Value), mapC m4 signedV (Value.int .i64) (marks N481), cellC r5 96 ([(.slice none 0 0)] : List Value), cellC b12 52 ([(pt b3 0), (pt r5 0)] : List Value), cellC r21 86 ([(.int .i64 (1)), (.int .i64 (3)), (.int .i64 (1)), (.map (some m22))] : List Value), rowC 63 4 (.slice a482 O484.length c483) O484.length (O484.flatMap encDn)] 32 rfl (by kernel_rfl) (fun Hx => (Hx.pick [0, 1, 2, 3, 4, 5, 8] (by decide))) ?_
   intro w893 H894 S895
   refine hv0 0 S895 108 (pt r21 0) ?_
   refine hv0 6 S895 113 (.bool (opn)) ?_
   refine h_do2 1 3 rfl rfl (by kernel_rfl) (wants0 rfl) (wants0 rfl) (fun K896 hK896 => ?_) (fun K896 hK896 => ?_)
   ·refine d_call (d := 109) rfl (by kernel_rfl) (rvOpenings_any w893 r21 m22 1 3 1 M480 (H894.at 5 rfl) (H894.at 6 rfl) (by have q := congrArg List.length hk497; simp at q; omega) (hP496.i64 (by decide)) (H894.at 7 rfl) hP496.pay) ?_
    rintro _ w897 ⟨a898, c899, O900, rfl, o901, k902, u903, q904⟩
    have H905 : Sat w [restC w (fun _ => False), cellC b3 103 ([(.map (some m4))] : List Value), mapC m4 signedV (Value.int .i64) (marks N481), cellC r5 96 ([(.slice none 0 0)] : List Value), cellC b12 52 ([(pt b3 0), (pt r5 0)] : List Value), cellC r21 86 ([(.int .i64 (1)), (.int .i64 (3)), (.int .i64 (1)), (.map (some m22))] : List Value), mapC m22 (Value.int .i64) encX M480, denC M480, rowC 63 4 (.slice a482 O484.length c483) O484.length (O484.flatMap encDn), rowC 43 34 (.slice a898 O900.length c899) O900.length (O900.flatMap encOp)] w897 := H894.addU u903 k902 q904
    refine ⟨_, rfl, ?_⟩
    have hop : O900.length = 0 := by rw [opens_one o901 hk497 hX494, ha491]; rfl
    have S916 := H905.pick [0, 1, 2, 3, 4, 5, 8] (by decide)
    refine hK896 _ _ S916 ?_
    clear hK896 K896
    refine h_val 2 rfl (by kernel_rfl) (by kernel_rfl) (by kernel_rfl) (fun _ _ _ h => h) S916 (wants0 rfl) (d := 110) (v := (.int .i64 ((O900.length : Int)))) rfl (fun _ H' => (by kernel_rfl)) ?_
    refine h_do 3 rfl (by kernel_rfl) (wants0 rfl) (fun K917 hK917 => ?_)
    refine d_makeMap Value.bool (Value.int .i64) rfl H905 ?_
    intro b918 w919 (H920 : Sat w [restC w (fun _ => False), cellC b3 103 ([(.map (some m4))] : List Value), mapC m4 signedV (Value.int .i64) (marks N481), cellC r5 96 ([(.slice none 0 0)] : List Value), cellC b12 52 ([(.pointer (some ⟨b3, 0, none⟩)), (.pointer (some ⟨r5, 0, none⟩))] : List Value), cellC r21 86 ([(.int .i64 (1)), (.int .i64 (3)), (.int .i64 (1)), (.map (some m22))] : List Value), mapC m22 (Value.int .i64) encX M480, denC M480, rowC 63 4 (.slice a482 O484.length c483) O484.length (O484.flatMap encDn), rowC 43 34 (.slice a898 O900.length c899) O900.length (O900.flatMap encOp), mapC b918 Value.bool (Value.int .i64) []] w919)
    have S921 := H920.pick [0, 1, 2, 3, 4, 5, 8] (by decide)
    refine hK917 _ _ S921 ?_
    clear hK917 K917
    refine h_do 4 rfl (by kernel_rfl) (wants0 rfl) (fun K922 hK922 => ?_)
    refine d_insert (kt := 4) (et := 3) rfl H920 10 rfl (KeyTy.bool (by kernel_rfl)) (by kernel_rfl) rfl true rfl (1 : Int) rfl ?_
    intro w923 (H924 : Sat w [restC w (fun _ => False), cellC b3 103 ([(.map (some m4))] : List Value), mapC m4 signedV (Value.int .i64) (marks N481), cellC r5 96 ([(.slice none 0 0)] : List Value), cellC b12 52 ([(.pointer (some ⟨b3, 0, none⟩)), (.pointer (some ⟨r5, 0, none⟩))] : List Value), cellC r21 86 ([(.int .i64 (1)), (.int .i64 (3)), (.int .i64 (1)), (.map (some m22))] : List Value), mapC m22 (Value.int .i64) encX M480, denC M480, rowC 63 4 (.slice a482 O484.length c483) O484.length (O484.flatMap encDn), rowC 43 34 (.slice a898 O900.length c899) O900.length (O900.flatMap encOp), mapC b918 Value.bool (Value.int .i64) (putM [] true (1 : Int))] w923)
    have S925 := H924.pick [0, 1, 2, 3, 4, 5, 8] (by decide)
    refine hK922 _ _ S925 ?_
    clear hK922 K922
    refine hv0 5 S925 112 (.map (some b918)) ?_
    refine h_do 7 rfl (by kernel_rfl) (wants0 rfl) (fun K926 hK926 => ?_)
    refine d_pure (d := 114) (v := (.int .i64 ((lookM (putM [] true (1 : Int)) (opn)).getD 0))) rfl (e_lookup (kt := 4) (et := 3) (KeyTy.bool (by kernel_rfl)) (by kernel_rfl) (fun w => by kernel_rfl) rfl (opn) rfl (H924.at 10 rfl) (optD (Value.int .i64) _ _)) ?_
    have S927 := H924.pick [0, 1, 2, 3, 4, 5, 8] (by decide)
    refine hK926 _ _ S927 ?_
    clear hK926 K926
    refine hv0 8 S927 115 (.bool (decide ((O900.length : Int) = ((lookM (putM [] true (1 : Int)) (opn)).getD 0)))) ?_
    refine hv0 9 S927 116 (.bool (decide ((O900.length : Int) = ((lookM (putM [] true (1 : Int)) (opn)).getD 0)))) ?_
    have b928 : (decide ((O900.length : Int) = ((lookM (putM [] true (1 : Int)) (opn)).getD 0))) = true := by (rw [b82]; exact decide_eq_true (by rw [hop]; rfl))
    refine h_know 116 (.bool true) (congrArg Value.bool b928) ?_
    have g929 := of_decide_eq_true b928
    refine h_val 10 rfl (by kernel_rfl) (by kernel_rfl) (by kernel_rfl) (fun _ _ _ h => h) S927 (wantsY 9 116 true rfl (by kernel_rfl) rfl (by kernel_rfl)) (d := 117) (v := (pt r21 0)) rfl (fun _ H' => (by kernel_rfl)) ?_
    refine h_do 11 rfl (by kernel_rfl) (wantsY 9 116 true rfl (by kernel_rfl) rfl (by kernel_rfl)) (fun K930 hK930 => ?_)
    refine d_call (d := 118) rfl (by kernel_rfl) (rvForgetG_any w923 r21 m22 1 3 1 M480 (H924.fin [5, 6, 7] (by decide) rfl) (2 : Int)) ?_
    rintro _ w931 ⟨rfl, T932⟩
    have H933 : Sat w [restC w (fun _ => False), cellC b3 103 ([(.map (some m4))] : List Value), mapC m4 signedV (Value.int .i64) (marks N481), cellC r5 96 ([(.slice none 0 0)] : List Value), cellC b12 52 ([(pt b3 0), (pt r5 0)] : List Value), cellC r21 86 ([(.int .i64 (1)), (.int .i64 (3)), (.int .i64 (1)), (.map (some m22))] : List Value), mapC m22 (Value.int .i64) encX (delM M480 (2 : Int)), denC (delM M480 (2 : Int)), rowC 63 4 (.slice a482 O484.length c483) O484.length (O484.flatMap encDn), rowC 43 34 (.slice a898 O900.length c899) O900.length (O900.flatMap encOp), mapC b918 Value.bool (Value.int .i64) (putM [] true (1 : Int))] w931 := (Sat.turnL (L' := [cellC r21 86 ([(.int .i64 (1)), (.int .i64 (3)), (.int .i64 (1)), (.map (some m22))] : List Value), mapC m22 (Value.int .i64) encX (delM M480 (2 : Int)), denC (delM M480 (2 : Int))]) (R := [restC w (fun _ => False), cellC b3 103 ([(.map (some m4))] : List Value), mapC m4 signedV (Value.int .i64) (marks N481), cellC r5 96 ([(.slice none 0 0)] : List Value), cellC b12 52 ([(pt b3 0), (pt r5 0)] : List Value), rowC 63 4 (.slice a482 O484.length c483) O484.length (O484.flatMap encDn), rowC 43 34 (.slice a898 O900.length c899) O900.length (O900.flatMap encOp), mapC b918 Value.bool (Value.int .i64) (putM [] true (1 : Int))]) H924 [5, 6, 7] [0, 1, 2, 3, 4, 8, 9, 10] (by decide) (by kernel_rfl) rfl T932).pick [3, 4, 5, 6, 7, 0, 1, 2, 8, 9, 10] (by decide)
    refine ⟨_, rfl, ?_⟩
    have S944 := H933.pick [0, 1, 2, 3, 4, 5, 8] (by decide)
    refine hK930 _ _ S944 ?_
    clear hK930 K930
    refine hv0 12 S944 119 (.bool ((lookM M480 (2 : Int)).isSome)) ?_
    refine hv0 13 S944 120 (.bool ((lookM M480 (2 : Int)).isSome)) ?_
    have b945 : ((lookM M480 (2 : Int)).isSome) = true := by (rw [hX494]; rfl)
    refine h_know 120 (.bool true) (congrArg Value.bool b945) ?_
    refine h_val 14 rfl (by kernel_rfl) (by kernel_rfl) (by kernel_rfl) (fun _ _ _ h => h) S944 (wantsY 13 120 true rfl (by kernel_rfl) rfl (by kernel_rfl)) (d := 121) (v := (pt r21 0)) rfl (fun _ H' => (by kernel_rfl)) ?_
    refine h_do 15 rfl (by kernel_rfl) (wantsY 13 120 true rfl (by kernel_rfl) rfl (by kernel_rfl)) (fun K946 hK946 => ?_)
    refine d_call (d := 122) rfl (by kernel_rfl) (rvForgetG_any w931 r21 m22 1 3 1 (delM M480 (2 : Int)) (H933.fin [5, 6, 7] (by decide) rfl) (2 : Int)) ?_
    rintro _ w947 ⟨rfl, T948⟩
    have H949 : Sat w [restC w (fun _ => False), cellC b3 103 ([(.map (some m4))] : List Value), mapC m4 signedV (Value.int .i64) (marks N481), cellC r5 96 ([(.slice none 0 0)] : List Value), cellC b12 52 ([(pt b3 0), (pt r5 0)] : List Value), cellC r21 86 ([(.int .i64 (1)), (.int .i64 (3)), (.int .i64 (1)), (.map (some m22))] : List Value), mapC m22 (Value.int .i64) encX (delM (delM M480 (2 : Int)) (2 : Int)), denC (delM (delM M480 (2 : Int)) (2 : Int)), rowC 63 4 (.slice a482 O484.length c483) O484.length (O484.flatMap encDn), rowC 43 34 (.slice a898 O900.length c899) O900.length (O900.flatMap encOp), mapC b918 Value.bool (Value.int .i64) (putM [] true (1 : Int))] w947 := (Sat.turnL (L' := [cellC r21 86 ([(.int .i64 (1)), (.int .i64 (3)), (.int .i64 (1)), (.map (some m22))] : List Value), mapC m22 (Value.int .i64) encX (delM (delM M480 (2 : Int)) (2 : Int)), denC (delM (delM M480 (2 : Int)) (2 : Int))]) (R := [restC w (fun _ => False), cellC b3 103 ([(.map (some m4))] : List Value), mapC m4 signedV (Value.int .i64) (marks N481), cellC r5 96 ([(.slice none 0 0)] : List Value), cellC b12 52 ([(pt b3 0), (pt r5 0)] : List Value), rowC 63 4 (.slice a482 O484.length c483) O484.length (O484.flatMap encDn), rowC 43 34 (.slice a898 O900.length c899) O900.length (O900.flatMap encOp), mapC b918 Value.bool (Value.int .i64) (putM [] true (1 : Int))]) H933 [5, 6, 7] [0, 1, 2, 3, 4, 8, 9, 10] (by decide) (by kernel_rfl) rfl T948).pick [3, 4, 5, 6, 7, 0, 1, 2, 8, 9, 10] (by decide)
    refine ⟨_, rfl, ?_⟩
    have S960 := H949.pick [0, 1, 2, 3, 4, 5, 8] (by decide)
    refine hK946 _ _ S960 ?_
    clear hK946 K946
    refine h_val 16 rfl (by kernel_rfl) (by kernel_rfl) (by kernel_rfl) (fun _ _ _ h => h) S960 (wantsY 13 120 true rfl (by kernel_rfl) rfl (by kernel_rfl)) (d := 123) (v := (.bool (!((lookM (delM M480 (2 : Int)) (2 : Int)).isSome)))) rfl (fun _ H' => (by kernel_rfl)) ?_
    refine hv0 17 S960 124 (.bool (!((lookM (delM M480 (2 : Int)) (2 : Int)).isSome))) ?_
    refine hv0 18 S960 125 (.bool (!((lookM (delM M480 (2 : Int)) (2 : Int)).isSome))) ?_
    have b961 : (!((lookM (delM M480 (2 : Int)) (2 : Int)).isSome)) = true := by (rw [gone_one hk497]; rfl)
    refine h_know 125 (.bool true) (congrArg Value.bool b961) ?_
    have g962 := bnot_true b961
    refine h_val 19 rfl (by kernel_rfl) (by kernel_rfl) (by kernel_rfl) (fun _ _ _ h => h) S960 (wantsY 18 125 true rfl (by kernel_rfl) rfl (by kernel_rfl)) (d := 126) (v := (pt r21 0)) rfl (fun _ H' => (by kernel_rfl)) ?_
    refine h_do 20 rfl (by kernel_rfl) (wantsY 18 125 true rfl (by kernel_rfl) rfl (by kernel_rfl)) (fun K963 hK963 => ?_)
    refine d_call (d := 127) rfl (by kernel_rfl) (rvAckedG_any w947 r21 m22 1 3 1 (delM (delM M480 (2 : Int)) (2 : Int)) (H949.at 5 rfl) (H949.at 6 rfl) (2 : Int)) ?_
    rintro _ w964 ⟨rfl, u966⟩
    have H965 := H949.keepU u966
    refine ⟨_, rfl, ?_⟩
    have S967 := H965.pick [0, 1, 2, 3, 4, 5, 8] (by decide)
    refine hK963 _ _ S967 ?_
    clear hK963 K963
    refine h_val 21 rfl (by kernel_rfl) (by kernel_rfl) (by kernel_rfl) (fun _ _ _ h => h) S967 (wantsY 18 125 true rfl (by kernel_rfl) rfl (by kernel_rfl)) (d := 128) (v := (.bool (!(ackB (delM (delM M480 (2 : Int)) (2 : Int)) (2 : Int))))) rfl (fun _ H' => (by kernel_rfl)) ?_
    refine hv0 22 S967 129 (.bool (!(ackB (delM (delM M480 (2 : Int)) (2 : Int)) (2 : Int)))) ?_
    refine hv0 23 S967 130 (.bool (!(ackB (delM (delM M480 (2 : Int)) (2 : Int)) (2 : Int)))) ?_
    have b968 : (!(ackB (delM (delM M480 (2 : Int)) (2 : Int)) (2 : Int))) = true := by (unfold ackB; rw [gone_two hk497]; rfl)
    refine h_know 130 (.bool true) (congrArg Value.bool b968) ?_
    have g969 := bnot_true b968
    refine h_val 24 rfl (by kernel_rfl) (by kernel_rfl) (by kernel_rfl) (fun _ _ _ h => h) S967 (wantsY 23 130 true rfl (by kernel_rfl) rfl (by kernel_rfl)) (d := 131) (v := (pt r21 0)) rfl (fun _ H' => (by kernel_rfl)) ?_
    refine h_do 25 rfl (by kernel_rfl) (wantsY 23 130 true rfl (by kernel_rfl) rfl (by kernel_rfl)) (fun K970 hK970 => ?_)
    refine d_call (d := 132) rfl (by kernel_rfl) (rvDeniedG_any w964 r21 m22 1 3 1 (delM (delM M480 (2 : Int)) (2 : Int)) (H965.at 5 rfl) (H965.at 6 rfl) (2 : Int)) ?_
    rintro _ w971 ⟨rfl, u973⟩
    have H972 := H965.keepU u973
    refine ⟨_, rfl, ?_⟩
    have S974 := H972.pick [0, 1, 2, 3, 4, 5, 8] (by decide)
    refine hK970 _ _ S974 ?_
    clear hK970 K970
    refine h_val 26 rfl (by kernel_rfl) (by kernel_rfl) (by kernel_rfl) (fun _ _ _ h => h) S974 (wantsY 23 130 true rfl (by kernel_rfl) rfl (by kernel_rfl)) (d := 133) (v := (.bool (!(denB (delM (delM M480 (2 : Int)) (2 : Int)) (2 : Int))))) rfl (fun _ H' => (by kernel_rfl)) ?_
    refine hv0 27 S974 134 (.bool (!(denB (delM (delM M480 (2 : Int)) (2 : Int)) (2 : Int)))) ?_
    refine hv0 28 S974 135 (.bool (!(denB (delM (delM M480 (2 : Int)) (2 : Int)) (2 : Int)))) ?_
    have b975 : (!(denB (delM (delM M480 (2 : Int)) (2 : Int)) (2 : Int))) = true := by (unfold denB; rw [gone_two hk497]; rfl)
    refine h_know 135 (.bool true) (congrArg Value.bool b975) ?_
    have g976 := bnot_true b975
    refine h_do 29 rfl (by kernel_rfl) (wantsY 28 135 true rfl (by kernel_rfl) rfl (by kernel_rfl)) (fun K977 hK977 => ?_)
    refine d_call (d := 136) rfl (by kernel_rfl) (wakes_any w971) ?_
    rintro _ w978 ⟨rfl, u980⟩
    have H979 := H972.keepU u980
    refine ⟨_, rfl, ?_⟩
    have S981 := H979.pick [0, 1, 2, 3, 4, 5, 8] (by decide)
    refine hK977 _ _ S981 ?_
    clear hK977 K977
    refine hv0 30 S981 137 (.bool true) ?_
    refine hv0 31 S981 6 (.bool true) ?_
    refine h_fin (by kernel_rfl) ?_
    refine then_normal ?_
    refine w_ret ?_
    refine end1 rfl (res_tmp (v := (.bool true)) rfl) ?_
    exact ⟨rfl, H979.upd 0 rfl [] (fun _ h => h.elim)⟩
   ·refine d_makeMap Value.bool (Value.int .i64) rfl H894 ?_
    intro b982 w983 (H984 : Sat w [restC w (fun _ => False), cellC b3 103 ([(.map (some m4))] : List Value), mapC m4 signedV (Value.int .i64) (marks N481), cellC r5 96 ([(.slice none 0 0)] : List Value), cellC b12 52 ([(.pointer (some ⟨b3, 0, none⟩)), (.pointer (some ⟨r5, 0, none⟩))] : List Value), cellC r21 86 ([(.int .i64 (1)), (.int .i64 (3)), (.int .i64 (1)), (.map (some m22))] : List Value), mapC m22 (Value.int .i64) encX M480, denC M480, rowC 63 4 (.slice a482 O484.length c483) O484.length (O484.flatMap encDn), mapC b982 Value.bool (Value.int .i64) []] w983)
    have S985 := H984.pick [0, 1, 2, 3, 4, 5, 8] (by decide)
    refine hK896 _ _ S985 ?_
    clear hK896 K896
    refine h_do2 1 4 rfl rfl (by kernel_rfl) (wants0 rfl) (wants0 rfl) (fun K986 hK986 => ?_) (fun K986 hK986 => ?_)
    ·refine d_call (d := 109) rfl (by kernel_rfl) (rvOpenings_any w983 r21 m22 1 3 1 M480 (H984.at 5 rfl) (H984.at 6 rfl) (by have q := congrArg List.length hk497; simp at q; omega) (hP496.i64 (by decide)) (H984.at 7 rfl) hP496.pay) ?_
     rintro _ w987 ⟨a988, c989, O990, rfl, o991, k992, u993, q994⟩
     have H995 : Sat w [restC w (fun _ => False), cellC b3 103 ([(.map (some m4))] : List Value), mapC m4 signedV (Value.int .i64) (marks N481), cellC r5 96 ([(.slice none 0 0)] : List Value), cellC b12 52 ([(pt b3 0), (pt r5 0)] : List Value), cellC r21 86 ([(.int .i64 (1)), (.int .i64 (3)), (.int .i64 (1)), (.map (some m22))] : List Value), mapC m22 (Value.int .i64) encX M480, denC M480, rowC 63 4 (.slice a482 O484.length c483) O484.length (O484.flatMap encDn), mapC b982 Value.bool (Value.int .i64) [], rowC 43 34 (.slice a988 O990.length c989) O990.length (O990.flatMap encOp)] w987 := H984.addU u993 k992 q994
     refine ⟨_, rfl, ?_⟩
     have hop : O990.length = 0 := by rw [opens_one o991 hk497 hX494, ha491]; rfl
     have S1006 := H995.pick [0, 1, 2, 3, 4, 5, 8] (by decide)
     refine hK986 _ _ S1006 ?_
     clear hK986 K986
     refine h_val 2 rfl (by kernel_rfl) (by kernel_rfl) (by kernel_rfl) (fun _ _ _ h => h) S1006 (wants0 rfl) (d := 110) (v := (.int .i64 ((O990.length : Int)))) rfl (fun _ H' => (by kernel_rfl)) ?_
     refine h_do 4 rfl (by kernel_rfl) (wants0 rfl) (fun K1007 hK1007 => ?_)
     refine d_insert (kt := 4) (et := 3) rfl H995 9 rfl (KeyTy.bool (by kernel_rfl)) (by kernel_rfl) rfl true rfl (1 : Int) rfl ?_
     intro w1008 (H1009 : Sat w [restC w (fun _ => False), cellC b3 103 ([(.map (some m4))] : List Value), mapC m4 signedV (Value.int .i64) (marks N481), cellC r5 96 ([(.slice none 0 0)] : List Value), cellC b12 52 ([(.pointer (some ⟨b3, 0, none⟩)), (.pointer (some ⟨r5, 0, none⟩))] : List Value), cellC r21 86 ([(.int .i64 (1)), (.int .i64 (3)), (.int .i64 (1)), (.map (some m22))] : List Value), mapC m22 (Value.int .i64) encX M480, denC M480, rowC 63 4 (.slice a482 O484.length c483) O484.length (O484.flatMap encDn), mapC b982 Value.bool (Value.int .i64) (putM [] true (1 : Int)), rowC 43 34 (.slice a988 O990.length c989) O990.length (O990.flatMap encOp)] w1008)
     have S1010 := H1009.pick [0, 1, 2, 3, 4, 5, 8] (by decide)
     refine hK1007 _ _ S1010 ?_
     clear hK1007 K1007
     refine hv0 5 S1010 112 (.map (some b982)) ?_
     refine h_do 7 rfl (by kernel_rfl) (wants0 rfl) (fun K1011 hK1011 => ?_)
     refine d_pure (d := 114) (v := (.int .i64 ((lookM (putM [] true (1 : Int)) (opn)).getD 0))) rfl (e_lookup (kt := 4) (et := 3) (KeyTy.bool (by kernel_rfl)) (by kernel_rfl) (fun w => by kernel_rfl) rfl (opn) rfl (H1009.at 9 rfl) (optD (Value.int .i64) _ _)) ?_
     have S1012 := H1009.pick [0, 1, 2, 3, 4, 5, 8] (by decide)
     refine hK1011 _ _ S1012 ?_
     clear hK1011 K1011
     refine hv0 8 S1012 115 (.bool (decide ((O990.length : Int) = ((lookM (putM [] true (1 : Int)) (opn)).getD 0)))) ?_
     refine hv0 9 S1012 116 (.bool (decide ((O990.length : Int) = ((lookM (putM [] true (1 : Int)) (opn)).getD 0)))) ?_
     have b1013 : (decide ((O990.length : Int) = ((lookM (putM [] true (1 : Int)) (opn)).getD 0))) = true := by (rw [b82]; exact decide_eq_true (by rw [hop]; rfl))
     refine h_know 116 (.bool true) (congrArg Value.bool b1013) ?_
     have g1014 := of_decide_eq_true b1013
     refine h_val 10 rfl (by kernel_rfl) (by kernel_rfl) (by kernel_rfl) (fun _ _ _ h => h) S1012 (wantsY 9 116 true rfl (by kernel_rfl) rfl (by kernel_rfl)) (d := 117) (v := (pt r21 0)) rfl (fun _ H' => (by kernel_rfl)) ?_
     refine h_do 11 rfl (by kernel_rfl) (wantsY 9 116 true rfl (by kernel_rfl) rfl (by kernel_rfl)) (fun K1015 hK1015 => ?_)
     refine d_call (d := 118) rfl (by kernel_rfl) (rvForgetG_any w1008 r21 m22 1 3 1 M480 (H1009.fin [5, 6, 7] (by decide) rfl) (2 : Int)) ?_
     rintro _ w1016 ⟨rfl, T1017⟩
     have H1018 : Sat w [restC w (fun _ => False), cellC b3 103 ([(.map (some m4))] : List Value), mapC m4 signedV (Value.int .i64) (marks N481), cellC r5 96 ([(.slice none 0 0)] : List Value), cellC b12 52 ([(pt b3 0), (pt r5 0)] : List Value), cellC r21 86 ([(.int .i64 (1)), (.int .i64 (3)), (.int .i64 (1)), (.map (some m22))] : List Value), mapC m22 (Value.int .i64) encX (delM M480 (2 : Int)), denC (delM M480 (2 : Int)), rowC 63 4 (.slice a482 O484.length c483) O484.length (O484.flatMap encDn), mapC b982 Value.bool (Value.int .i64) (putM [] true (1 : Int)), rowC 43 34 (.slice a988 O990.length c989) O990.length (O990.flatMap encOp)] w1016 := (Sat.turnL (L' := [cellC r21 86 ([(.int .i64 (1)), (.int .i64 (3)), (.int .i64 (1)), (.map (some m22))] : List Value), mapC m22 (Value.int .i64) encX (delM M480 (2 : Int)), denC (delM M480 (2 : Int))]) (R := [restC w (fun _ => False), cellC b3 103 ([(.map (some m4))] : List Value), mapC m4 signedV (Value.int .i64) (marks N481), cellC r5 96 ([(.slice none 0 0)] : List Value), cellC b12 52 ([(pt b3 0), (pt r5 0)] : List Value), rowC 63 4 (.slice a482 O484.length c483) O484.length (O484.flatMap encDn), mapC b982 Value.bool (Value.int .i64) (putM [] true (1 : Int)), rowC 43 34 (.slice a988 O990.length c989) O990.length (O990.flatMap encOp)]) H1009 [5, 6, 7] [0, 1, 2, 3, 4, 8, 9, 10] (by decide) (by kernel_rfl) rfl T1017).pick [3, 4, 5, 6, 7, 0, 1, 2, 8, 9, 10] (by decide)
     refine ⟨_, rfl, ?_⟩
     have S1029 := H1018.pick [0, 1, 2, 3, 4, 5, 8] (by decide)
     refine hK1015 _ _ S1029 ?_
     clear hK1015 K1015
     refine hv0 12 S1029 119 (.bool ((lookM M480 (2 : Int)).isSome)) ?_
     refine hv0 13 S1029 120 (.bool ((lookM M480 (2 : Int)).isSome)) ?_
     have b1030 : ((lookM M480 (2 : Int)).isSome) = true := by (rw [hX494]; rfl)
     refine h_know 120 (.bool true) (congrArg Value.bool b1030) ?_
     refine h_val 14 rfl (by kernel_rfl) (by kernel_rfl) (by kernel_rfl) (fun _ _ _ h => h) S1029 (wantsY 13 120 true rfl (by kernel_rfl) rfl (by kernel_rfl)) (d := 121) (v := (pt r21 0)) rfl (fun _ H' => (by kernel_rfl)) ?_
     refine h_do 15 rfl (by kernel_rfl) (wantsY 13 120 true rfl (by kernel_rfl) rfl (by kernel_rfl)) (fun K1031 hK1031 => ?_)
     refine d_call (d := 122) rfl (by kernel_rfl) (rvForgetG_any w1016 r21 m22 1 3 1 (delM M480 (2 : Int)) (H1018.fin [5, 6, 7] (by decide) rfl) (2 : Int)) ?_
     rintro _ w1032 ⟨rfl, T1033⟩
     have H1034 : Sat w [restC w (fun _ => False), cellC b3 103 ([(.map (some m4))] : List Value), mapC m4 signedV (Value.int .i64) (marks N481), cellC r5 96 ([(.slice none 0 0)] : List Value), cellC b12 52 ([(pt b3 0), (pt r5 0)] : List Value), cellC r21 86 ([(.int .i64 (1)), (.int .i64 (3)), (.int .i64 (1)), (.map (some m22))] : List Value), mapC m22 (Value.int .i64) encX (delM (delM M480 (2 : Int)) (2 : Int)), denC (delM (delM M480 (2 : Int)) (2 : Int)), rowC 63 4 (.slice a482 O484.length c483) O484.length (O484.flatMap encDn), mapC b982 Value.bool (Value.int .i64) (putM [] true (1 : Int)), rowC 43 34 (.slice a988 O990.length c989) O990.length (O990.flatMap encOp)] w1032 := (Sat.turnL (L' := [cellC r21 86 ([(.int .i64 (1)), (.int .i64 (3)), (.int .i64 (1)), (.map (some m22))] : List Value), mapC m22 (Value.int .i64) encX (delM (delM M480 (2 : Int)) (2 : Int)), denC (delM (delM M480 (2 : Int)) (2 : Int))]) (R := [restC w (fun _ => False), cellC b3 103 ([(.map (some m4))] : List Value), mapC m4 signedV (Value.int .i64) (marks N481), cellC r5 96 ([(.slice none 0 0)] : List Value), cellC b12 52 ([(pt b3 0), (pt r5 0)] : List Value), rowC 63 4 (.slice a482 O484.length c483) O484.length (O484.flatMap encDn), mapC b982 Value.bool (Value.int .i64) (putM [] true (1 : Int)), rowC 43 34 (.slice a988 O990.length c989) O990.length (O990.flatMap encOp)]) H1018 [5, 6, 7] [0, 1, 2, 3, 4, 8, 9, 10] (by decide) (by kernel_rfl) rfl T1033).pick [3, 4, 5, 6, 7, 0, 1, 2, 8, 9, 10] (by decide)
     refine ⟨_, rfl, ?_⟩
     have S1045 := H1034.pick [0, 1, 2, 3, 4, 5, 8] (by decide)
     refine hK1031 _ _ S1045 ?_
     clear hK1031 K1031
     refine h_val 16 rfl (by kernel_rfl) (by kernel_rfl) (by kernel_rfl) (fun _ _ _ h => h) S1045 (wantsY 13 120 true rfl (by kernel_rfl) rfl (by kernel_rfl)) (d := 123) (v := (.bool (!((lookM (delM M480 (2 : Int)) (2 : Int)).isSome)))) rfl (fun _ H' => (by kernel_rfl)) ?_
     refine hv0 17 S1045 124 (.bool (!((lookM (delM M480 (2 : Int)) (2 : Int)).isSome))) ?_
     refine hv0 18 S1045 125 (.bool (!((lookM (delM M480 (2 : Int)) (2 : Int)).isSome))) ?_
     have b1046 : (!((lookM (delM M480 (2 : Int)) (2 : Int)).isSome)) = true := by (rw [gone_one hk497]; rfl)
     refine h_know 125 (.bool true) (congrArg Value.bool b1046) ?_
     have g1047 := bnot_true b1046
     refine h_val 19 rfl (by kernel_rfl) (by kernel_rfl) (by kernel_rfl) (fun _ _ _ h => h) S1045 (wantsY 18 125 true rfl (by kernel_rfl) rfl (by kernel_rfl)) (d := 126) (v := (pt r21 0)) rfl (fun _ H' => (by kernel_rfl)) ?_
     refine h_do 20 rfl (by kernel_rfl) (wantsY 18 125 true rfl (by kernel_rfl) rfl (by kernel_rfl)) (fun K1048 hK1048 => ?_)
     refine d_call (d := 127) rfl (by kernel_rfl) (rvAckedG_any w1032 r21 m22 1 3 1 (delM (delM M480 (2 : Int)) (2 : Int)) (H1034.at 5 rfl) (H1034.at 6 rfl) (2 : Int)) ?_
     rintro _ w1049 ⟨rfl, u1051⟩
     have H1050 := H1034.keepU u1051
     refine ⟨_, rfl, ?_⟩
     have S1052 := H1050.pick [0, 1, 2, 3, 4, 5, 8] (by decide)
     refine hK1048 _ _ S1052 ?_
     clear hK1048 K1048
     refine h_val 21 rfl (by kernel_rfl) (by kernel_rfl) (by kernel_rfl) (fun _ _ _ h => h) S1052 (wantsY 18 125 true rfl (by kernel_rfl) rfl (by kernel_rfl)) (d := 128) (v := (.bool (!(ackB (delM (delM M480 (2 : Int)) (2 : Int)) (2 : Int))))) rfl (fun _ H' => (by kernel_rfl)) ?_
     refine hv0 22 S1052 129 (.bool (!(ackB (delM (delM M480 (2 : Int)) (2 : Int)) (2 : Int)))) ?_
     refine hv0 23 S1052 130 (.bool (!(ackB (delM (delM M480 (2 : Int)) (2 : Int)) (2 : Int)))) ?_
     have b1053 : (!(ackB (delM (delM M480 (2 : Int)) (2 : Int)) (2 : Int))) = true := by (unfold ackB; rw [gone_two hk497]; rfl)
     refine h_know 130 (.bool true) (congrArg Value.bool b1053) ?_
     have g1054 := bnot_true b1053
     refine h_val 24 rfl (by kernel_rfl) (by kernel_rfl) (by kernel_rfl) (fun _ _ _ h => h) S1052 (wantsY 23 130 true rfl (by kernel_rfl) rfl (by kernel_rfl)) (d := 131) (v := (pt r21 0)) rfl (fun _ H' => (by kernel_rfl)) ?_
     refine h_do 25 rfl (by kernel_rfl) (wantsY 23 130 true rfl (by kernel_rfl) rfl (by kernel_rfl)) (fun K1055 hK1055 => ?_)
     refine d_call (d := 132) rfl (by kernel_rfl) (rvDeniedG_any w1049 r21 m22 1 3 1 (delM (delM M480 (2 : Int)) (2 : Int)) (H1050.at 5 rfl) (H1050.at 6 rfl) (2 : Int)) ?_
     rintro _ w1056 ⟨rfl, u1058⟩
     have H1057 := H1050.keepU u1058
     refine ⟨_, rfl, ?_⟩
     have S1059 := H1057.pick [0, 1, 2, 3, 4, 5, 8] (by decide)
     refine hK1055 _ _ S1059 ?_
     clear hK1055 K1055
     refine h_val 26 rfl (by kernel_rfl) (by kernel_rfl) (by kernel_rfl) (fun _ _ _ h => h) S1059 (wantsY 23 130 true rfl (by kernel_rfl) rfl (by kernel_rfl)) (d := 133) (v := (.bool (!(denB (delM (delM M480 (2 : Int)) (2 : Int)) (2 : Int))))) rfl (fun _ H' => (by kernel_rfl)) ?_
     refine hv0 27 S1059 134 (.bool (!(denB (delM (delM M480 (2 : Int)) (2 : Int)) (2 : Int)))) ?_
     refine hv0 28 S1059 135 (.bool (!(denB (delM (delM M480 (2 : Int)) (2 : Int)) (2 : Int)))) ?_
     have b1060 : (!(denB (delM (delM M480 (2 : Int)) (2 : Int)) (2 : Int))) = true := by (unfold denB; rw [gone_two hk497]; rfl)
     refine h_know 135 (.bool true) (congrArg Value.bool b1060) ?_
     have g1061 := bnot_true b1060
     refine h_do 29 rfl (by kernel_rfl) (wantsY 28 135 true rfl (by kernel_rfl) rfl (by kernel_rfl)) (fun K1062 hK1062 => ?_)
     refine d_call (d := 136) rfl (by kernel_rfl) (wakes_any w1056) ?_
     rintro _ w1063 ⟨rfl, u1065⟩
     have H1064 := H1057.keepU u1065
     refine ⟨_, rfl, ?_⟩
     have S1066 := H1064.pick [0, 1, 2, 3, 4, 5, 8] (by decide)
     refine hK1062 _ _ S1066 ?_
     clear hK1062 K1062
     refine hv0 30 S1066 137 (.bool true) ?_
     refine hv0 31 S1066 6 (.bool true) ?_
     refine h_fin (by kernel_rfl) ?_
     refine then_normal ?_
     refine w_ret ?_
     refine end1 rfl (res_tmp (v := (.bool true)) rfl) ?_
     exact ⟨rfl, H1064.upd 0 rfl [] (fun _ h => h.elim)⟩
    ·refine d_insert (kt := 4) (et := 3) rfl H984 9 rfl (KeyTy.bool (by kernel_rfl)) (by kernel_rfl) rfl true rfl (1 : Int) rfl ?_
     intro w1067 (H1068 : Sat w [restC w (fun _ => False), cellC b3 103 ([(.map (some m4))] : List Value), mapC m4 signedV (Value.int .i64) (marks N481), cellC r5 96 ([(.slice none 0 0)] : List Value), cellC b12 52 ([(.pointer (some ⟨b3, 0, none⟩)), (.pointer (some ⟨r5, 0, none⟩))] : List Value), cellC r21 86 ([(.int .i64 (1)), (.int .i64 (3)), (.int .i64 (1)), (.map (some m22))] : List Value), mapC m22 (Value.int .i64) encX M480, denC M480, rowC 63 4 (.slice a482 O484.length c483) O484.length (O484.flatMap encDn), mapC b982 Value.bool (Value.int .i64) (putM [] true (1 : Int))] w1067)
     have S1069 := H1068.pick [0, 1, 2, 3, 4, 5, 8] (by decide)
     refine hK986 _ _ S1069 ?_
     clear hK986 K986
     refine hv0 5 S1069 112 (.map (some b982)) ?_
     refine h_do2 1 7 rfl rfl (by kernel_rfl) (wants0 rfl) (wants0 rfl) (fun K1070 hK1070 => ?_) (fun K1070 hK1070 => ?_)
     ·refine d_call (d := 109) rfl (by kernel_rfl) (rvOpenings_any w1067 r21 m22 1 3 1 M480 (H1068.at 5 rfl) (H1068.at 6 rfl) (by have q := congrArg List.length hk497; simp at q; omega) (hP496.i64 (by decide)) (H1068.at 7 rfl) hP496.pay) ?_
      rintro _ w1071 ⟨a1072, c1073, O1074, rfl, o1075, k1076, u1077, q1078⟩
      have H1079 : Sat w [restC w (fun _ => False), cellC b3 103 ([(.map (some m4))] : List Value), mapC m4 signedV (Value.int .i64) (marks N481), cellC r5 96 ([(.slice none 0 0)] : List Value), cellC b12 52 ([(pt b3 0), (pt r5 0)] : List Value), cellC r21 86 ([(.int .i64 (1)), (.int .i64 (3)), (.int .i64 (1)), (.map (some m22))] : List Value), mapC m22 (Value.int .i64) encX M480, denC M480, rowC 63 4 (.slice a482 O484.length c483) O484.length (O484.flatMap encDn), mapC b982 Value.bool (Value.int .i64) (putM [] true (1 : Int)), rowC 43 34 (.slice a1072 O1074.length c1073) O1074.length (O1074.flatMap encOp)] w1071 := H1068.addU u1077 k1076 q1078
      refine ⟨_, rfl, ?_⟩
      have hop : O1074.length = 0 := by rw [opens_one o1075 hk497 hX494, ha491]; rfl
      have S1090 := H1079.pick [0, 1, 2, 3, 4, 5, 8] (by decide)
      refine hK1070 _ _ S1090 ?_
      clear hK1070 K1070
      refine h_val 2 rfl (by kernel_rfl) (by kernel_rfl) (by kernel_rfl) (fun _ _ _ h => h) S1090 (wants0 rfl) (d := 110) (v := (.int .i64 ((O1074.length : Int)))) rfl (fun _ H' => (by kernel_rfl)) ?_
      refine h_do 7 rfl (by kernel_rfl) (wants0 rfl) (fun K1091 hK1091 => ?_)
      refine d_pure (d := 114) (v := (.int .i64 ((lookM (putM [] true (1 : Int)) (opn)).getD 0))) rfl (e_lookup (kt := 4) (et := 3) (KeyTy.bool (by kernel_rfl)) (by kernel_rfl) (fun w => by kernel_rfl) rfl (opn) rfl (H1079.at 9 rfl) (optD (Value.int .i64) _ _)) ?_
      have S1092 := H1079.pick [0, 1, 2, 3, 4, 5, 8] (by decide)
      refine hK1091 _ _ S1092 ?_
      clear hK1091 K1091
      refine hv0 8 S1092 115 (.bool (decide ((O1074.length : Int) = ((lookM (putM [] true (1 : Int)) (opn)).getD 0)))) ?_
      refine hv0 9 S1092 116 (.bool (decide ((O1074.length : Int) = ((lookM (putM [] true (1 : Int)) (opn)).getD 0)))) ?_
      have b1093 : (decide ((O1074.length : Int) = ((lookM (putM [] true (1 : Int)) (opn)).getD 0))) = true := by (rw [b82]; exact decide_eq_true (by rw [hop]; rfl))
      refine h_know 116 (.bool true) (congrArg Value.bool b1093) ?_
      have g1094 := of_decide_eq_true b1093
      refine h_val 10 rfl (by kernel_rfl) (by kernel_rfl) (by kernel_rfl) (fun _ _ _ h => h) S1092 (wantsY 9 116 true rfl (by kernel_rfl) rfl (by kernel_rfl)) (d := 117) (v := (pt r21 0)) rfl (fun _ H' => (by kernel_rfl)) ?_
      refine h_do 11 rfl (by kernel_rfl) (wantsY 9 116 true rfl (by kernel_rfl) rfl (by kernel_rfl)) (fun K1095 hK1095 => ?_)
      refine d_call (d := 118) rfl (by kernel_rfl) (rvForgetG_any w1071 r21 m22 1 3 1 M480 (H1079.fin [5, 6, 7] (by decide) rfl) (2 : Int)) ?_
      rintro _ w1096 ⟨rfl, T1097⟩
      have H1098 : Sat w [restC w (fun _ => False), cellC b3 103 ([(.map (some m4))] : List Value), mapC m4 signedV (Value.int .i64) (marks N481), cellC r5 96 ([(.slice none 0 0)] : List Value), cellC b12 52 ([(pt b3 0), (pt r5 0)] : List Value), cellC r21 86 ([(.int .i64 (1)), (.int .i64 (3)), (.int .i64 (1)), (.map (some m22))] : List Value), mapC m22 (Value.int .i64) encX (delM M480 (2 : Int)), denC (delM M480 (2 : Int)), rowC 63 4 (.slice a482 O484.length c483) O484.length (O484.flatMap encDn), mapC b982 Value.bool (Value.int .i64) (putM [] true (1 : Int)), rowC 43 34 (.slice a1072 O1074.length c1073) O1074.length (O1074.flatMap encOp)] w1096 := (Sat.turnL (L' := [cellC r21 86 ([(.int .i64 (1)), (.int .i64 (3)), (.int .i64 (1)), (.map (some m22))] : List Value), mapC m22 (Value.int .i64) encX (delM M480 (2 : Int)), denC (delM M480 (2 : Int))]) (R := [restC w (fun _ => False), cellC b3 103 ([(.map (some m4))] : List Value), mapC m4 signedV (Value.int .i64) (marks N481), cellC r5 96 ([(.slice none 0 0)] : List Value), cellC b12 52 ([(pt b3 0), (pt r5 0)] : List Value), rowC 63 4 (.slice a482 O484.length c483) O484.length (O484.flatMap encDn), mapC b982 Value.bool (Value.int .i64) (putM [] true (1 : Int)), rowC 43 34 (.slice a1072 O1074.length c1073) O1074.length (O1074.flatMap encOp)]) H1079 [5, 6, 7] [0, 1, 2, 3, 4, 8, 9, 10] (by decide) (by kernel_rfl) rfl T1097).pick [3, 4, 5, 6, 7, 0, 1, 2, 8, 9, 10] (by decide)
      refine ⟨_, rfl, ?_⟩
      have S1109 := H1098.pick [0, 1, 2, 3, 4, 5, 8] (by decide)
      refine hK1095 _ _ S1109 ?_
      clear hK1095 K1095
      refine hv0 12 S1109 119 (.bool ((lookM M480 (2 : Int)).isSome)) ?_
      refine hv0 13 S1109 120 (.bool ((lookM M480 (2 : Int)).isSome)) ?_
      have b1110 : ((lookM M480 (2 : Int)).isSome) = true := by (rw [hX494]; rfl)
      refine h_know 120 (.bool true) (congrArg Value.bool b1110) ?_
      refine h_val 14 rfl (by kernel_rfl) (by kernel_rfl) (by kernel_rfl) (fun _ _ _ h => h) S1109 (wantsY 13 120 true rfl (by kernel_rfl) rfl (by kernel_rfl)) (d := 121) (v := (pt r21 0)) rfl (fun _ H' => (by kernel_rfl)) ?_
      refine h_do 15 rfl (by kernel_rfl) (wantsY 13 120 true rfl (by kernel_rfl) rfl (by kernel_rfl)) (fun K1111 hK1111 => ?_)
      refine d_call (d := 122) rfl (by kernel_rfl) (rvForgetG_any w1096 r21 m22 1 3 1 (delM M480 (2 : Int)) (H1098.fin [5, 6, 7] (by decide) rfl) (2 : Int)) ?_
      rintro _ w1112 ⟨rfl, T1113⟩
      have H1114 : Sat w [restC w (fun _ => False), cellC b3 103 ([(.map (some m4))] : List Value), mapC m4 signedV (Value.int .i64) (marks N481), cellC r5 96 ([(.slice none 0 0)] : List Value), cellC b12 52 ([(pt b3 0), (pt r5 0)] : List Value), cellC r21 86 ([(.int .i64 (1)), (.int .i64 (3)), (.int .i64 (1)), (.map (some m22))] : List Value), mapC m22 (Value.int .i64) encX (delM (delM M480 (2 : Int)) (2 : Int)), denC (delM (delM M480 (2 : Int)) (2 : Int)), rowC 63 4 (.slice a482 O484.length c483) O484.length (O484.flatMap encDn), mapC b982 Value.bool (Value.int .i64) (putM [] true (1 : Int)), rowC 43 34 (.slice a1072 O1074.length c1073) O1074.length (O1074.flatMap encOp)] w1112 := (Sat.turnL (L' := [cellC r21 86 ([(.int .i64 (1)), (.int .i64 (3)), (.int .i64 (1)), (.map (some m22))] : List Value), mapC m22 (Value.int .i64) encX (delM (delM M480 (2 : Int)) (2 : Int)), denC (delM (delM M480 (2 : Int)) (2 : Int))]) (R := [restC w (fun _ => False), cellC b3 103 ([(.map (some m4))] : List Value), mapC m4 signedV (Value.int .i64) (marks N481), cellC r5 96 ([(.slice none 0 0)] : List Value), cellC b12 52 ([(pt b3 0), (pt r5 0)] : List Value), rowC 63 4 (.slice a482 O484.length c483) O484.length (O484.flatMap encDn), mapC b982 Value.bool (Value.int .i64) (putM [] true (1 : Int)), rowC 43 34 (.slice a1072 O1074.length c1073) O1074.length (O1074.flatMap encOp)]) H1098 [5, 6, 7] [0, 1, 2, 3, 4, 8, 9, 10] (by decide) (by kernel_rfl) rfl T1113).pick [3, 4, 5, 6, 7, 0, 1, 2, 8, 9, 10] (by decide)
      refine ⟨_, rfl, ?_⟩
      have S1125 := H1114.pick [0, 1, 2, 3, 4, 5, 8] (by decide)
      refine hK1111 _ _ S1125 ?_
      clear hK1111 K1111
      refine h_val 16 rfl (by kernel_rfl) (by kernel_rfl) (by kernel_rfl) (fun _ _ _ h => h) S1125 (wantsY 13 120 true rfl (by kernel_rfl) rfl (by kernel_rfl)) (d := 123) (v := (.bool (!((lookM (delM M480 (2 : Int)) (2 : Int)).isSome)))) rfl (fun _ H' => (by kernel_rfl)) ?_
      refine hv0 17 S1125 124 (.bool (!((lookM (delM M480 (2 : Int)) (2 : Int)).isSome))) ?_
      refine hv0 18 S1125 125 (.bool (!((lookM (delM M480 (2 : Int)) (2 : Int)).isSome))) ?_
      have b1126 : (!((lookM (delM M480 (2 : Int)) (2 : Int)).isSome)) = true := by (rw [gone_one hk497]; rfl)
      refine h_know 125 (.bool true) (congrArg Value.bool b1126) ?_
      have g1127 := bnot_true b1126
      refine h_val 19 rfl (by kernel_rfl) (by kernel_rfl) (by kernel_rfl) (fun _ _ _ h => h) S1125 (wantsY 18 125 true rfl (by kernel_rfl) rfl (by kernel_rfl)) (d := 126) (v := (pt r21 0)) rfl (fun _ H' => (by kernel_rfl)) ?_
      refine h_do 20 rfl (by kernel_rfl) (wantsY 18 125 true rfl (by kernel_rfl) rfl (by kernel_rfl)) (fun K1128 hK1128 => ?_)
      refine d_call (d := 127) rfl (by kernel_rfl) (rvAckedG_any w1112 r21 m22 1 3 1 (delM (delM M480 (2 : Int)) (2 : Int)) (H1114.at 5 rfl) (H1114.at 6 rfl) (2 : Int)) ?_
      rintro _ w1129 ⟨rfl, u1131⟩
      have H1130 := H1114.keepU u1131
      refine ⟨_, rfl, ?_⟩
      have S1132 := H1130.pick [0, 1, 2, 3, 4, 5, 8] (by decide)
      refine hK1128 _ _ S1132 ?_
      clear hK1128 K1128
      refine h_val 21 rfl (by kernel_rfl) (by kernel_rfl) (by kernel_rfl) (fun _ _ _ h => h) S1132 (wantsY 18 125 true rfl (by kernel_rfl) rfl (by kernel_rfl)) (d := 128) (v := (.bool (!(ackB (delM (delM M480 (2 : Int)) (2 : Int)) (2 : Int))))) rfl (fun _ H' => (by kernel_rfl)) ?_
      refine hv0 22 S1132 129 (.bool (!(ackB (delM (delM M480 (2 : Int)) (2 : Int)) (2 : Int)))) ?_
      refine hv0 23 S1132 130 (.bool (!(ackB (delM (delM M480 (2 : Int)) (2 : Int)) (2 : Int)))) ?_
      have b1133 : (!(ackB (delM (delM M480 (2 : Int)) (2 : Int)) (2 : Int))) = true := by (unfold ackB; rw [gone_two hk497]; rfl)
      refine h_know 130 (.bool true) (congrArg Value.bool b1133) ?_
      have g1134 := bnot_true b1133
      refine h_val 24 rfl (by kernel_rfl) (by kernel_rfl) (by kernel_rfl) (fun _ _ _ h => h) S1132 (wantsY 23 130 true rfl (by kernel_rfl) rfl (by kernel_rfl)) (d := 131) (v := (pt r21 0)) rfl (fun _ H' => (by kernel_rfl)) ?_
      refine h_do 25 rfl (by kernel_rfl) (wantsY 23 130 true rfl (by kernel_rfl) rfl (by kernel_rfl)) (fun K1135 hK1135 => ?_)
      refine d_call (d := 132) rfl (by kernel_rfl) (rvDeniedG_any w1129 r21 m22 1 3 1 (delM (delM M480 (2 : Int)) (2 : Int)) (H1130.at 5 rfl) (H1130.at 6 rfl) (2 : Int)) ?_
      rintro _ w1136 ⟨rfl, u1138⟩
      have H1137 := H1130.keepU u1138
      refine ⟨_, rfl, ?_⟩
      have S1139 := H1137.pick [0, 1, 2, 3, 4, 5, 8] (by decide)
      refine hK1135 _ _ S1139 ?_
      clear hK1135 K1135
      refine h_val 26 rfl (by kernel_rfl) (by kernel_rfl) (by kernel_rfl) (fun _ _ _ h => h) S1139 (wantsY 23 130 true rfl (by kernel_rfl) rfl (by kernel_rfl)) (d := 133) (v := (.bool (!(denB (delM (delM M480 (2 : Int)) (2 : Int)) (2 : Int))))) rfl (fun _ H' => (by kernel_rfl)) ?_
      refine hv0 27 S1139 134 (.bool (!(denB (delM (delM M480 (2 : Int)) (2 : Int)) (2 : Int)))) ?_
      refine hv0 28 S1139 135 (.bool (!(denB (delM (delM M480 (2 : Int)) (2 : Int)) (2 : Int)))) ?_
      have b1140 : (!(denB (delM (delM M480 (2 : Int)) (2 : Int)) (2 : Int))) = true := by (unfold denB; rw [gone_two hk497]; rfl)
      refine h_know 135 (.bool true) (congrArg Value.bool b1140) ?_
      have g1141 := bnot_true b1140
      refine h_do 29 rfl (by kernel_rfl) (wantsY 28 135 true rfl (by kernel_rfl) rfl (by kernel_rfl)) (fun K1142 hK1142 => ?_)
      refine d_call (d := 136) rfl (by kernel_rfl) (wakes_any w1136) ?_
      rintro _ w1143 ⟨rfl, u1145⟩
      have H1144 := H1137.keepU u1145
      refine ⟨_, rfl, ?_⟩
      have S1146 := H1144.pick [0, 1, 2, 3, 4, 5, 8] (by decide)
      refine hK1142 _ _ S1146 ?_
      clear hK1142 K1142
      refine hv0 30 S1146 137 (.bool true) ?_
      refine hv0 31 S1146 6 (.bool true) ?_
      refine h_fin (by kernel_rfl) ?_
      refine then_normal ?_
      refine w_ret ?_
      refine end1 rfl (res_tmp (v := (.bool true)) rfl) ?_
      exact ⟨rfl, H1144.upd 0 rfl [] (fun _ h => h.elim)⟩
     ·refine d_pure (d := 114) (v := (.int .i64 ((lookM (putM [] true (1 : Int)) (opn)).getD 0))) rfl (e_lookup (kt := 4) (et := 3) (KeyTy.bool (by kernel_rfl)) (by kernel_rfl) (fun w => by kernel_rfl) rfl (opn) rfl (H1068.at 9 rfl) (optD (Value.int .i64) _ _)) ?_
      have S1147 := H1068.pick [0, 1, 2, 3, 4, 5, 8] (by decide)
      refine hK1070 _ _ S1147 ?_
      clear hK1070 K1070
      refine h_do 1 rfl (by kernel_rfl) (wants0 rfl) (fun K1148 hK1148 => ?_)
      refine d_call (d := 109) rfl (by kernel_rfl) (rvOpenings_any w1067 r21 m22 1 3 1 M480 (H1068.at 5 rfl) (H1068.at 6 rfl) (by have q := congrArg List.length hk497; simp at q; omega) (hP496.i64 (by decide)) (H1068.at 7 rfl) hP496.pay) ?_
      rintro _ w1149 ⟨a1150, c1151, O1152, rfl, o1153, k1154, u1155, q1156⟩
      have H1157 : Sat w [restC w (fun _ => False), cellC b3 103 ([(.map (some m4))] : List Value), mapC m4 signedV (Value.int .i64) (marks N481), cellC r5 96 ([(.slice none 0 0)] : List Value), cellC b12 52 ([(pt b3 0), (pt r5 0)] : List Value), cellC r21 86 ([(.int .i64 (1)), (.int .i64 (3)), (.int .i64 (1)), (.map (some m22))] : List Value), mapC m22 (Value.int .i64) encX M480, denC M480, rowC 63 4 (.slice a482 O484.length c483) O484.length (O484.flatMap encDn), mapC b982 Value.bool (Value.int .i64) (putM [] true (1 : Int)), rowC 43 34 (.slice a1150 O1152.length c1151) O1152.length (O1152.flatMap encOp)] w1149 := H1068.addU u1155 k1154 q1156
      refine ⟨_, rfl, ?_⟩
      have hop : O1152.length = 0 := by rw [opens_one o1153 hk497 hX494, ha491]; rfl
      have S1168 := H1157.pick [0, 1, 2, 3, 4, 5, 8] (by decide)
      refine hK1148 _ _ S1168 ?_
      clear hK1148 K1148
      refine h_val 2 rfl (by kernel_rfl) (by kernel_rfl) (by kernel_rfl) (fun _ _ _ h => h) S1168 (wants0 rfl) (d := 110) (v := (.int .i64 ((O1152.length : Int)))) rfl (fun _ H' => (by kernel_rfl)) ?_
      refine hv0 8 S1168 115 (.bool (decide ((O1152.length : Int) = ((lookM (putM [] true (1 : Int)) (opn)).getD 0)))) ?_
      refine hv0 9 S1168 116 (.bool (decide ((O1152.length : Int) = ((lookM (putM [] true (1 : Int)) (opn)).getD 0)))) ?_
      have b1169 : (decide ((O1152.length : Int) = ((lookM (putM [] true (1 : Int)) (opn)).getD 0))) = true := by (rw [b82]; exact decide_eq_true (by rw [hop]; rfl))
      refine h_know 116 (.bool true) (congrArg Value.bool b1169) ?_
      have g1170 := of_decide_eq_true b1169
      refine h_val 10 rfl (by kernel_rfl) (by kernel_rfl) (by kernel_rfl) (fun _ _ _ h => h) S1168 (wantsY 9 116 true rfl (by kernel_rfl) rfl (by kernel_rfl)) (d := 117) (v := (pt r21 0)) rfl (fun _ H' => (by kernel_rfl)) ?_
      refine h_do 11 rfl (by kernel_rfl) (wantsY 9 116 true rfl (by kernel_rfl) rfl (by kernel_rfl)) (fun K1171 hK1171 => ?_)
      refine d_call (d := 118) rfl (by kernel_rfl) (rvForgetG_any w1149 r21 m22 1 3 1 M480 (H1157.fin [5, 6, 7] (by decide) rfl) (2 : Int)) ?_
      rintro _ w1172 ⟨rfl, T1173⟩
      have H1174 : Sat w [restC w (fun _ => False), cellC b3 103 ([(.map (some m4))] : List Value), mapC m4 signedV (Value.int .i64) (marks N481), cellC r5 96 ([(.slice none 0 0)] : List Value), cellC b12 52 ([(pt b3 0), (pt r5 0)] : List Value), cellC r21 86 ([(.int .i64 (1)), (.int .i64 (3)), (.int .i64 (1)), (.map (some m22))] : List Value), mapC m22 (Value.int .i64) encX (delM M480 (2 : Int)), denC (delM M480 (2 : Int)), rowC 63 4 (.slice a482 O484.length c483) O484.length (O484.flatMap encDn), mapC b982 Value.bool (Value.int .i64) (putM [] true (1 : Int)), rowC 43 34 (.slice a1150 O1152.length c1151) O1152.length (O1152.flatMap encOp)] w1172 := (Sat.turnL (L' := [cellC r21 86 ([(.int .i64 (1)), (.int .i64 (3)), (.int .i64 (1)), (.map (some m22))] : List Value), mapC m22 (Value.int .i64) encX (delM M480 (2 : Int)), denC (delM M480 (2 : Int))]) (R := [restC w (fun _ => False), cellC b3 103 ([(.map (some m4))] : List Value), mapC m4 signedV (Value.int .i64) (marks N481), cellC r5 96 ([(.slice none 0 0)] : List Value), cellC b12 52 ([(pt b3 0), (pt r5 0)] : List Value), rowC 63 4 (.slice a482 O484.length c483) O484.length (O484.flatMap encDn), mapC b982 Value.bool (Value.int .i64) (putM [] true (1 : Int)), rowC 43 34 (.slice a1150 O1152.length c1151) O1152.length (O1152.flatMap encOp)]) H1157 [5, 6, 7] [0, 1, 2, 3, 4, 8, 9, 10] (by decide) (by kernel_rfl) rfl T1173).pick [3, 4, 5, 6, 7, 0, 1, 2, 8, 9, 10] (by decide)
      refine ⟨_, rfl, ?_⟩
      have S1185 := H1174.pick [0, 1, 2, 3, 4, 5, 8] (by decide)
      refine hK1171 _ _ S1185 ?_
      clear hK1171 K1171
      refine hv0 12 S1185 119 (.bool ((lookM M480 (2 : Int)).isSome)) ?_
      refine hv0 13 S1185 120 (.bool ((lookM M480 (2 : Int)).isSome)) ?_
      have b1186 : ((lookM M480 (2 : Int)).isSome) = true := by (rw [hX494]; rfl)
      refine h_know 120 (.bool true) (congrArg Value.bool b1186) ?_
      refine h_val 14 rfl (by kernel_rfl) (by kernel_rfl) (by kernel_rfl) (fun _ _ _ h => h) S1185 (wantsY 13 120 true rfl (by kernel_rfl) rfl (by kernel_rfl)) (d := 121) (v := (pt r21 0)) rfl (fun _ H' => (by kernel_rfl)) ?_
      refine h_do 15 rfl (by kernel_rfl) (wantsY 13 120 true rfl (by kernel_rfl) rfl (by kernel_rfl)) (fun K1187 hK1187 => ?_)
      refine d_call (d := 122) rfl (by kernel_rfl) (rvForgetG_any w1172 r21 m22 1 3 1 (delM M480 (2 : Int)) (H1174.fin [5, 6, 7] (by decide) rfl) (2 : Int)) ?_
      rintro _ w1188 ⟨rfl, T1189⟩
      have H1190 : Sat w [restC w (fun _ => False), cellC b3 103 ([(.map (some m4))] : List Value), mapC m4 signedV (Value.int .i64) (marks N481), cellC r5 96 ([(.slice none 0 0)] : List Value), cellC b12 52 ([(pt b3 0), (pt r5 0)] : List Value), cellC r21 86 ([(.int .i64 (1)), (.int .i64 (3)), (.int .i64 (1)), (.map (some m22))] : List Value), mapC m22 (Value.int .i64) encX (delM (delM M480 (2 : Int)) (2 : Int)), denC (delM (delM M480 (2 : Int)) (2 : Int)), rowC 63 4 (.slice a482 O484.length c483) O484.length (O484.flatMap encDn), mapC b982 Value.bool (Value.int .i64) (putM [] true (1 : Int)), rowC 43 34 (.slice a1150 O1152.length c1151) O1152.length (O1152.flatMap encOp)] w1188 := (Sat.turnL (L' := [cellC r21 86 ([(.int .i64 (1)), (.int .i64 (3)), (.int .i64 (1)), (.map (some m22))] : List Value), mapC m22 (Value.int .i64) encX (delM (delM M480 (2 : Int)) (2 : Int)), denC (delM (delM M480 (2 : Int)) (2 : Int))]) (R := [restC w (fun _ => False), cellC b3 103 ([(.map (some m4))] : List Value), mapC m4 signedV (Value.int .i64) (marks N481), cellC r5 96 ([(.slice none 0 0)] : List Value), cellC b12 52 ([(pt b3 0), (pt r5 0)] : List Value), rowC 63 4 (.slice a482 O484.length c483) O484.length (O484.flatMap encDn), mapC b982 Value.bool (Value.int .i64) (putM [] true (1 : Int)), rowC 43 34 (.slice a1150 O1152.length c1151) O1152.length (O1152.flatMap encOp)]) H1174 [5, 6, 7] [0, 1, 2, 3, 4, 8, 9, 10] (by decide) (by kernel_rfl) rfl T1189).pick [3, 4, 5, 6, 7, 0, 1, 2, 8, 9, 10] (by decide)
      refine ⟨_, rfl, ?_⟩
      have S1201 := H1190.pick [0, 1, 2, 3, 4, 5, 8] (by decide)
      refine hK1187 _ _ S1201 ?_
      clear hK1187 K1187
      refine h_val 16 rfl (by kernel_rfl) (by kernel_rfl) (by kernel_rfl) (fun _ _ _ h => h) S1201 (wantsY 13 120 true rfl (by kernel_rfl) rfl (by kernel_rfl)) (d := 123) (v := (.bool (!((lookM (delM M480 (2 : Int)) (2 : Int)).isSome)))) rfl (fun _ H' => (by kernel_rfl)) ?_
      refine hv0 17 S1201 124 (.bool (!((lookM (delM M480 (2 : Int)) (2 : Int)).isSome))) ?_
      refine hv0 18 S1201 125 (.bool (!((lookM (delM M480 (2 : Int)) (2 : Int)).isSome))) ?_
      have b1202 : (!((lookM (delM M480 (2 : Int)) (2 : Int)).isSome)) = true := by (rw [gone_one hk497]; rfl)
      refine h_know 125 (.bool true) (congrArg Value.bool b1202) ?_
      have g1203 := bnot_true b1202
      refine h_val 19 rfl (by kernel_rfl) (by kernel_rfl) (by kernel_rfl) (fun _ _ _ h => h) S1201 (wantsY 18 125 true rfl (by kernel_rfl) rfl (by kernel_rfl)) (d := 126) (v := (pt r21 0)) rfl (fun _ H' => (by kernel_rfl)) ?_
      refine h_do 20 rfl (by kernel_rfl) (wantsY 18 125 true rfl (by kernel_rfl) rfl (by kernel_rfl)) (fun K1204 hK1204 => ?_)
      refine d_call (d := 127) rfl (by kernel_rfl) (rvAckedG_any w1188 r21 m22 1 3 1 (delM (delM M480 (2 : Int)) (2 : Int)) (H1190.at 5 rfl) (H1190.at 6 rfl) (2 : Int)) ?_
      rintro _ w1205 ⟨rfl, u1207⟩
      have H1206 := H1190.keepU u1207
      refine ⟨_, rfl, ?_⟩
      have S1208 := H1206.pick [0, 1, 2, 3, 4, 5, 8] (by decide)
      refine hK1204 _ _ S1208 ?_
      clear hK1204 K1204
      refine h_val 21 rfl (by kernel_rfl) (by kernel_rfl) (by kernel_rfl) (fun _ _ _ h => h) S1208 (wantsY 18 125 true rfl (by kernel_rfl) rfl (by kernel_rfl)) (d := 128) (v := (.bool (!(ackB (delM (delM M480 (2 : Int)) (2 : Int)) (2 : Int))))) rfl (fun _ H' => (by kernel_rfl)) ?_
      refine hv0 22 S1208 129 (.bool (!(ackB (delM (delM M480 (2 : Int)) (2 : Int)) (2 : Int)))) ?_
      refine hv0 23 S1208 130 (.bool (!(ackB (delM (delM M480 (2 : Int)) (2 : Int)) (2 : Int)))) ?_
      have b1209 : (!(ackB (delM (delM M480 (2 : Int)) (2 : Int)) (2 : Int))) = true := by (unfold ackB; rw [gone_two hk497]; rfl)
      refine h_know 130 (.bool true) (congrArg Value.bool b1209) ?_
      have g1210 := bnot_true b1209
      refine h_val 24 rfl (by kernel_rfl) (by kernel_rfl) (by kernel_rfl) (fun _ _ _ h => h) S1208 (wantsY 23 130 true rfl (by kernel_rfl) rfl (by kernel_rfl)) (d := 131) (v := (pt r21 0)) rfl (fun _ H' => (by kernel_rfl)) ?_
      refine h_do 25 rfl (by kernel_rfl) (wantsY 23 130 true rfl (by kernel_rfl) rfl (by kernel_rfl)) (fun K1211 hK1211 => ?_)
      refine d_call (d := 132) rfl (by kernel_rfl) (rvDeniedG_any w1205 r21 m22 1 3 1 (delM (delM M480 (2 : Int)) (2 : Int)) (H1206.at 5 rfl) (H1206.at 6 rfl) (2 : Int)) ?_
      rintro _ w1212 ⟨rfl, u1214⟩
      have H1213 := H1206.keepU u1214
      refine ⟨_, rfl, ?_⟩
      have S1215 := H1213.pick [0, 1, 2, 3, 4, 5, 8] (by decide)
      refine hK1211 _ _ S1215 ?_
      clear hK1211 K1211
      refine h_val 26 rfl (by kernel_rfl) (by kernel_rfl) (by kernel_rfl) (fun _ _ _ h => h) S1215 (wantsY 23 130 true rfl (by kernel_rfl) rfl (by kernel_rfl)) (d := 133) (v := (.bool (!(denB (delM (delM M480 (2 : Int)) (2 : Int)) (2 : Int))))) rfl (fun _ H' => (by kernel_rfl)) ?_
      refine hv0 27 S1215 134 (.bool (!(denB (delM (delM M480 (2 : Int)) (2 : Int)) (2 : Int)))) ?_
      refine hv0 28 S1215 135 (.bool (!(denB (delM (delM M480 (2 : Int)) (2 : Int)) (2 : Int)))) ?_
      have b1216 : (!(denB (delM (delM M480 (2 : Int)) (2 : Int)) (2 : Int))) = true := by (unfold denB; rw [gone_two hk497]; rfl)
      refine h_know 135 (.bool true) (congrArg Value.bool b1216) ?_
      have g1217 := bnot_true b1216
      refine h_do 29 rfl (by kernel_rfl) (wantsY 28 135 true rfl (by kernel_rfl) rfl (by kernel_rfl)) (fun K1218 hK1218 => ?_)
      refine d_call (d := 136) rfl (by kernel_rfl) (wakes_any w1212) ?_
      rintro _ w1219 ⟨rfl, u1221⟩
      have H1220 := H1213.keepU u1221
      refine ⟨_, rfl, ?_⟩
      have S1222 := H1220.pick [0, 1, 2, 3, 4, 5, 8] (by decide)
      refine hK1218 _ _ S1222 ?_
      clear hK1218 K1218
      refine hv0 30 S1222 137 (.bool true) ?_
      refine hv0 31 S1222 6 (.bool true) ?_
      refine h_fin (by kernel_rfl) ?_
      refine then_normal ?_
      refine w_ret ?_
      refine end1 rfl (res_tmp (v := (.bool true)) rfl) ?_
      exact ⟨rfl, H1220.upd 0 rfl [] (fun _ h => h.elim)⟩

end Go.Proofs.Ytoiplcicbjimlaa
