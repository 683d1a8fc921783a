/- WHAT IS PROVED: the entries of a batch, as the program makes them: a contract. Conditions: stated with each. -/
import Derived.Test.YtenihpghfdcpkaaEnA
import Derived.Test.YtenihpghfdcpkaaIter
namespace Go.Proofs.Ytenihpghfdcpkaa
open Go.RowKit

set_option maxRecDepth 100000 in
set_option maxHeartbeats 4000000 in
theorem wEntries_any (w : World) (last tm ep : Int) (vo vt : Value) (lb : Nat) (LM : List (NmD × Bool)) (hLM : MapAt w lb nmV Value.bool LM) (pa : Option Addr) (pc : Nat) (P : List PrR) (hP : ListAt encPr 6 w (.slice pa P.length pc) P) (hPo : ∀ i, i < P.length → PrOk w (P.getD i pr0)) (hsm : PSm P) (hlP : P.length ≤ 1000) (hlC : ∀ i, i < P.length → (P.getD i pr0).C.length ≤ 1000) :
    Calls Try.prog 8 #[(.int .u64 (last)), (.map (some lb)), (.agg ⟨([(.int .i64 (ep)), (.int .u64 (tm)), (.slice pa P.length pc), (vo), (vt)] : List Value)⟩)] w fun e w' => ∃ (oa : Option Addr) (oc : Nat) (O : List EntD), e = .returned (.slice oa O.length oc) ∧ O.Perm ((runE last tm (lgM LM) (P.flatMap (·.C))).map (·.2)) ∧ (O.Pairwise fun a b => ¬ ltEn b a) ∧ (rowC 50 35 (.slice oa O.length oc) O.length (O.flatMap encEn)).ok w' ∧ Upd [] w w' ∧ ∀ q_, (rowC 50 35 (.slice oa O.length oc) O.length (O.flatMap encEn)).fp q_ → w.heap.size ≤ q_ := by
  have H := Sat.start0 w
  obtain ⟨lg, hlg⟩ : ∃ lg, lg = lgM LM := ⟨_, rfl⟩
  refine calls_fr Try.func8 rfl 92 rfl (Nat.le_of_ble_eq_true rfl) ?_
  refine w_seq ?_
  refine w_lit ?_
  refine wl_do (wants0 rfl) (fun K1 hK1 => ?_)
  refine d_box (vs := ([(.int .i64 (ep)), (.int .u64 (tm)), (.slice pa P.length pc), (vo), (vt)] : List Value)) rfl H rfl rfl ?_
  intro b2 w3 (H4 : Sat w [restC w (fun _ => False), cellC b2 27 ([(.int .i64 (ep)), (.int .u64 (tm)), (.slice pa P.length pc), (vo), (vt)] : List Value)] w3)
  refine hK1 _ _ ?_
  clear hK1 K1
  refine wl_pure (wants0 rfl) (d := 6) (v := (.slice none 0 0)) rfl (by kernel_rfl) ?_
  refine w_nil ?_
  refine then_normal ?_
  refine w_seq ?_
  refine w_lit ?_
  refine wl_do (wants0 rfl) (fun K5 hK5 => ?_)
  refine d_makeMap nmV entV rfl H4 ?_
  intro b6 w7 (H8 : Sat w [restC w (fun _ => False), cellC b2 27 ([(.int .i64 (ep)), (.int .u64 (tm)), (.slice pa P.length pc), (vo), (vt)] : List Value), mapC b6 nmV entV []] w7)
  refine hK5 _ _ ?_
  clear hK5 K5
  refine wl_pure (wants0 rfl) (d := 7) (v := (.map (some b6))) rfl (by kernel_rfl) ?_
  refine w_nil ?_
  refine then_normal ?_
  refine w_seq ?_
  refine w_seq ?_
  refine w_lit ?_
  refine wl_pure (wants0 rfl) (d := 19) (v := (.pointer (some ⟨b2, 2, none⟩))) rfl (by kernel_rfl) ?_
  refine wl_pure (wants0 rfl) (d := 20) (v := (.slice pa P.length pc)) rfl (e_load1 rfl (by kernel_rfl) (H8.cell 1 rfl rfl)) ?_
  refine wl_pure (wants0 rfl) (d := 21) (v := (.int .i64 ((P.length : Int)))) rfl (by kernel_rfl) ?_
  refine wl_pure (wants0 rfl) (d := 22) (v := (.int .i64 (0))) rfl (by kernel_rfl) ?_
  refine w_nil ?_
  refine then_normal ?_
  refine w_block ?_
  refine wp_round [9, 11, 12, 13, 14, 22, 23, 24, 25, 26, 27, 28, 29, 30, 31, 32, 33, 34, 35, 36, 37, 38, 39, 40, 41, 42, 43, 44, 45, 46, 47, 48, 49, 50, 51, 52, 53, 54, 55, 56, 57, 58, 59, 60, 61, 62, 63, 64, 65, 66, 67, 68, 69, 70, 71, 72, 73, 74, 75, 76, 77, 78] (fun F_ W_ m_ => ∃ (i : Nat) (M : EMap), F_ 22 = (.int .i64 ((i : Int))) ∧ (i ≤ P.length) ∧ (M = runE last tm lg ((P.take i).flatMap (·.C))) ∧ Sat w [restC w (fun _ => False), cellC b2 27 ([(.int .i64 (ep)), (.int .u64 (tm)), (.slice pa P.length pc), (vo), (vt)] : List Value), mapC b6 nmV entV M] W_ ∧ m_ = P.length - i) _ ⟨0, [], (show ((.int .i64 (0)) : Value) = _ by first | rfl | go_num), (Nat.zero_le _), rfl, H8, rfl⟩ ?_
  rintro g9 w10 _ ⟨i, M, v12, hi, hM, H11, rfl⟩
  refine wp_know 22 _ v12 ?_
  refine w_seq ?_
  refine w_lit ?_
  refine wl_pure (wants0 rfl) (d := 23) (v := (.bool (decide ((i : Int) < (P.length : Int))))) rfl (by kernel_rfl) ?_
  refine w_nil ?_
  refine then_normal ?_
  refine w_seq ?_
  refine (bsplit (decide ((i : Int) < (P.length : Int)))).elim (fun b14 => ?_) (fun b14 => ?_)
  · have g15 := of_decide_eq_true b14
    refine wp_know 23 (.bool true) (congrArg Value.bool b14) ?_
    have g16 := of_decide_eq_true b14
    refine wp_ift rfl ?_
    refine w_skip ?_
    refine then_normal ?_
    refine w_seq ?_
    refine w_block ?_
    refine w_seq ?_
    refine w_lit ?_
    obtain ⟨g17, o18, c19, e20, R21⟩ := SliceOf.atD hP pr0 (show i < P.length by omega)
    refine wl_pure (wants0 rfl) (d := 24) (v := (.pointer (some ⟨g17, o18 + ((i : Int)).toNat * 6, none⟩))) rfl (e_indexAddrW (E := 33) (by kernel_rfl) (by kernel_rfl) (Nat.le_of_ble_eq_true rfl) rfl e20 rfl (by omega) (by omega)) ?_
    refine wl_pure (wants0 rfl) (d := 25) (v := (.agg ⟨([(.int .i64 ((P.getD i pr0).r)), (.int .i64 ((P.getD i pr0).e)), (.int .u64 ((P.getD i pr0).f)), (.slice (P.getD i pr0).ca ((P.getD i pr0).C).length (P.getD i pr0).cc), (.int .i64 ((P.getD i pr0).sb)), (.int .i64 ((P.getD i pr0).sm))] : List Value)⟩)) rfl (e_loadRun (vs := ([(.int .i64 ((P.getD i pr0).r)), (.int .i64 ((P.getD i pr0).e)), (.int .u64 ((P.getD i pr0).f)), (.slice (P.getD i pr0).ca ((P.getD i pr0).C).length (P.getD i pr0).cc), (.int .i64 ((P.getD i pr0).sb)), (.int .i64 ((P.getD i pr0).sm))] : List Value)) rfl (by kernel_rfl) (by kernel_rfl) (Nat.le_of_ble_eq_true (by kernel_rfl)) (H11.runR 0 rfl (cells_run R21 0 (by kernel_rfl) (show o18 + ((i : Int)).toNat * 6 = o18 + i * 6 + 0 by omega)) (fun h => h))) ?_
    refine wl_do (wants0 rfl) (fun K22 hK22 => ?_)
    refine d_alloc (zs := ([(.int .i64 (0)), (.int .i64 (0)), (.int .u64 (0)), (.slice none 0 0), (.int .i64 (0)), (.int .i64 (0))] : List Value)) (z := (.agg ⟨([(.int .i64 (0)), (.int .i64 (0)), (.int .u64 (0)), (.slice none 0 0), (.int .i64 (0)), (.int .i64 (0))] : List Value)⟩)) rfl H11 (by kernel_rfl) (by kernel_rfl) ?_
    intro b23 w24 (H25 : Sat w [restC w (fun _ => False), cellC b2 27 ([(.int .i64 (ep)), (.int .u64 (tm)), (.slice pa P.length pc), (vo), (vt)] : List Value), mapC b6 nmV entV M, cellC b23 33 ([(.int .i64 (0)), (.int .i64 (0)), (.int .u64 (0)), (.slice none 0 0), (.int .i64 (0)), (.int .i64 (0))] : List Value)] w24)
    refine hK22 _ _ ?_
    clear hK22 K22
    refine wl_do (wants0 rfl) (fun K26 hK26 => ?_)
    refine d_storeX (vs := ([(.int .i64 ((P.getD i pr0).r)), (.int .i64 ((P.getD i pr0).e)), (.int .u64 ((P.getD i pr0).f)), (.slice (P.getD i pr0).ca ((P.getD i pr0).C).length (P.getD i pr0).cc), (.int .i64 ((P.getD i pr0).sb)), (.int .i64 ((P.getD i pr0).sm))] : List Value)) (cs' := ([(.int .i64 ((P.getD i pr0).r)), (.int .i64 ((P.getD i pr0).e)), (.int .u64 ((P.getD i pr0).f)), (.slice (P.getD i pr0).ca ((P.getD i pr0).C).length (P.getD i pr0).cc), (.int .i64 ((P.getD i pr0).sb)), (.int .i64 ((P.getD i pr0).sm))] : List Value)) rfl H25 3 rfl rfl rfl rfl (by kernel_rfl) (Nat.le_of_ble_eq_true (by kernel_rfl)) (Nat.le_of_ble_eq_true (by kernel_rfl)) (by kernel_rfl) (by kernel_rfl) ?_
    intro w27 (H28 : Sat w [restC w (fun _ => False), cellC b2 27 ([(.int .i64 (ep)), (.int .u64 (tm)), (.slice pa P.length pc), (vo), (vt)] : List Value), mapC b6 nmV entV M, cellC b23 33 ([(.int .i64 ((P.getD i pr0).r)), (.int .i64 ((P.getD i pr0).e)), (.int .u64 ((P.getD i pr0).f)), (.slice (P.getD i pr0).ca ((P.getD i pr0).C).length (P.getD i pr0).cc), (.int .i64 ((P.getD i pr0).sb)), (.int .i64 ((P.getD i pr0).sm))] : List Value)] w27)
    refine hK26 _ _ ?_
    clear hK26 K26
    refine w_nil ?_
    refine then_normal ?_
    refine w_seq ?_
    refine w_lit ?_
    refine wl_pure (wants0 rfl) (d := 26) (v := (.pointer (some ⟨b23, 3, none⟩))) rfl (by kernel_rfl) ?_
    refine wl_pure (wants0 rfl) (d := 27) (v := (.slice (P.getD i pr0).ca ((P.getD i pr0).C).length (P.getD i pr0).cc)) rfl (e_load1 rfl (by kernel_rfl) (H28.cell 3 rfl rfl)) ?_
    refine wl_pure (wants0 rfl) (d := 28) (v := (.int .i64 ((((P.getD i pr0).C).length : Int)))) rfl (by kernel_rfl) ?_
    refine wl_pure (wants0 rfl) (d := 29) (v := (.int .i64 (0))) rfl (by kernel_rfl) ?_
    refine w_nil ?_
    refine then_normal ?_
    refine w_block ?_
    have hlCi := hlC i (by omega)
    refine wp_round [11, 12, 13, 14, 29, 30, 31, 32, 33, 34, 35, 36, 37, 38, 39, 40, 41, 42, 43, 44, 45, 46, 47, 48, 49, 50, 51, 52, 53, 54, 55, 56, 57, 58, 59, 60, 61, 62, 63, 64, 65, 66, 67, 68, 69, 70, 71, 72, 73, 74, 75, 76, 77] (fun F_ W_ m_ => ∃ (k : Nat) (M2 : EMap), F_ 29 = (.int .i64 ((k : Int))) ∧ (k ≤ (P.getD i pr0).C.length) ∧ (M2 = runE last tm lg ((P.take i).flatMap (·.C) ++ (P.getD i pr0).C.take k)) ∧ Sat w [restC w (fun _ => False), cellC b2 27 ([(.int .i64 (ep)), (.int .u64 (tm)), (.slice pa P.length pc), (vo), (vt)] : List Value), mapC b6 nmV entV M2, cellC b23 33 ([(.int .i64 ((P.getD i pr0).r)), (.int .i64 ((P.getD i pr0).e)), (.int .u64 ((P.getD i pr0).f)), (.slice (P.getD i pr0).ca ((P.getD i pr0).C).length (P.getD i pr0).cc), (.int .i64 ((P.getD i pr0).sb)), (.int .i64 ((P.getD i pr0).sm))] : List Value)] W_ ∧ m_ = (P.getD i pr0).C.length - k) _ ⟨0, M, (show ((.int .i64 (0)) : Value) = _ by first | rfl | go_num), (Nat.zero_le _), (by rw [hM, List.take_zero, List.append_nil]), H28, rfl⟩ ?_
    rintro g30 w31 _ ⟨k, M2, v33, hk, hM2, H32, rfl⟩
    refine wp_know 29 _ v33 ?_
    refine w_seq ?_
    refine w_lit ?_
    refine wl_pure (wants0 rfl) (d := 30) (v := (.bool (decide ((k : Int) < (((P.getD i pr0).C).length : Int))))) rfl (by kernel_rfl) ?_
    refine w_nil ?_
    refine then_normal ?_
    refine w_seq ?_
    refine (bsplit (decide ((k : Int) < (((P.getD i pr0).C).length : Int)))).elim (fun b35 => ?_) (fun b35 => ?_)
    · have g36 := of_decide_eq_true b35
      refine wp_know 30 (.bool true) (congrArg Value.bool b35) ?_
      have g37 := of_decide_eq_true b35
      refine wp_ift rfl ?_
      refine w_skip ?_
      refine then_normal ?_
      refine w_seq ?_
      refine w_block ?_
      refine w_seq ?_
      refine w_lit ?_
      obtain ⟨g38, o39, c40, e41, R42⟩ := SliceOf.atD (hPo i (by omega)).1 ce0 (show k < ((P.getD i pr0).C).length by omega)
      refine wl_pure (wants0 rfl) (d := 31) (v := (.pointer (some ⟨g38, o39 + ((k : Int)).toNat * 38, none⟩))) rfl (e_indexAddrW (E := 42) (by kernel_rfl) (by kernel_rfl) (Nat.le_of_ble_eq_true rfl) rfl e41 rfl (by omega) (by omega)) ?_
      refine wl_pure (wants0 rfl) (d := 32) (v := (.agg ⟨(([(.int .i64 ((((P.getD i pr0).C).getD k ce0).x.cl)), (.int .i64 ((((P.getD i pr0).C).getD k ce0).x.seq))] : List Value) ++ hc (((P.getD i pr0).C).getD k ce0).x.h ++ ([(.int .i64 ((((P.getD i pr0).C).getD k ce0).x.len)), (.int .i64 ((((P.getD i pr0).C).getD k ce0).x.sb)), (.int .i64 ((((P.getD i pr0).C).getD k ce0).x.sm)), (.slice (((P.getD i pr0).C).getD k ce0).sa ((((P.getD i pr0).C).getD k ce0).S).length (((P.getD i pr0).C).getD k ce0).sc)] : List Value))⟩)) rfl (e_loadRun (vs := (([(.int .i64 ((((P.getD i pr0).C).getD k ce0).x.cl)), (.int .i64 ((((P.getD i pr0).C).getD k ce0).x.seq))] : List Value) ++ hc (((P.getD i pr0).C).getD k ce0).x.h ++ ([(.int .i64 ((((P.getD i pr0).C).getD k ce0).x.len)), (.int .i64 ((((P.getD i pr0).C).getD k ce0).x.sb)), (.int .i64 ((((P.getD i pr0).C).getD k ce0).x.sm)), (.slice (((P.getD i pr0).C).getD k ce0).sa ((((P.getD i pr0).C).getD k ce0).S).length (((P.getD i pr0).C).getD k ce0).sc)] : List Value))) rfl (by kernel_rfl) (by kernel_rfl) (Nat.le_of_ble_eq_true (by kernel_rfl)) (H32.runR 0 rfl (cells_run R42 0 (by kernel_rfl) (show o39 + ((k : Int)).toNat * 38 = o39 + k * 38 + 0 by omega)) (fun h => h))) ?_
      refine wl_do (wants0 rfl) (fun K43 hK43 => ?_)
      refine d_alloc (zs := (([(.int .i64 (0)), (.int .i64 (0))] : List Value) ++ hc hash0 ++ ([(.int .i64 (0)), (.int .i64 (0)), (.int .i64 (0)), (.slice none 0 0)] : List Value))) (z := (.agg ⟨(([(.int .i64 (0)), (.int .i64 (0))] : List Value) ++ hc hash0 ++ ([(.int .i64 (0)), (.int .i64 (0)), (.int .i64 (0)), (.slice none 0 0)] : List Value))⟩)) rfl H32 (by kernel_rfl) (by kernel_rfl) ?_
      intro b44 w45 (H46 : Sat w [restC w (fun _ => False), cellC b2 27 ([(.int .i64 (ep)), (.int .u64 (tm)), (.slice pa P.length pc), (vo), (vt)] : List Value), mapC b6 nmV entV M2, cellC b23 33 ([(.int .i64 ((P.getD i pr0).r)), (.int .i64 ((P.getD i pr0).e)), (.int .u64 ((P.getD i pr0).f)), (.slice (P.getD i pr0).ca ((P.getD i pr0).C).length (P.getD i pr0).cc), (.int .i64 ((P.getD i pr0).sb)), (.int .i64 ((P.getD i pr0).sm))] : List Value), cellC b44 42 (([(.int .i64 (0)), (.int .i64 (0))] : List Value) ++ hc hash0 ++ ([(.int .i64 (0)), (.int .i64 (0)), (.int .i64 (0)), (.slice none 0 0)] : List Value))] w45)
      refine hK43 _ _ ?_
      clear hK43 K43
      refine wl_do (wants0 rfl) (fun K47 hK47 => ?_)
      refine d_storeX (vs := (([(.int .i64 ((((P.getD i pr0).C).getD k ce0).x.cl)), (.int .i64 ((((P.getD i pr0).C).getD k ce0).x.seq))] : List Value) ++ hc (((P.getD i pr0).C).getD k ce0).x.h ++ ([(.int .i64 ((((P.getD i pr0).C).getD k ce0).x.len)), (.int .i64 ((((P.getD i pr0).C).getD k ce0).x.sb)), (.int .i64 ((((P.getD i pr0).C).getD k ce0).x.sm)), (.slice (((P.getD i pr0).C).getD k ce0).sa ((((P.getD i pr0).C).getD k ce0).S).length (((P.getD i pr0).C).getD k ce0).sc)] : List Value))) (cs' := (([(.int .i64 ((((P.getD i pr0).C).getD k ce0).x.cl)), (.int .i64 ((((P.getD i pr0).C).getD k ce0).x.seq))] : List Value) ++ hc (((P.getD i pr0).C).getD k ce0).x.h ++ ([(.int .i64 ((((P.getD i pr0).C).getD k ce0).x.len)), (.int .i64 ((((P.getD i pr0).C).getD k ce0).x.sb)), (.int .i64 ((((P.getD i pr0).C).getD k ce0).x.sm)), (.slice (((P.getD i pr0).C).getD k ce0).sa ((((P.getD i pr0).C).getD k ce0).S).length (((P.getD i pr0).C).getD k ce0).sc)] : List Value))) rfl H46 4 rfl rfl rfl rfl (by kernel_rfl) (Nat.le_of_ble_eq_true (by kernel_rfl)) (Nat.le_of_ble_eq_true (by kernel_rfl)) (by kernel_rfl) (by kernel_rfl) ?_
      intro w48 (H49 : Sat w [restC w (fun _ => False), cellC b2 27 ([(.int .i64 (ep)), (.int .u64 (tm)), (.slice pa P.length pc), (vo), (vt)] : List Value), mapC b6 nmV entV M2, cellC b23 33 ([(.int .i64 ((P.getD i pr0).r)), (.int .i64 ((P.getD i pr0).e)), (.int .u64 ((P.getD i pr0).f)), (.slice (P.getD i pr0).ca ((P.getD i pr0).C).length (P.getD i pr0).cc), (.int .i64 ((P.getD i pr0).sb)), (.int .i64 ((P.getD i pr0).sm))] : List Value), cellC b44 42 (([(.int .i64 ((((P.getD i pr0).C).getD k ce0).x.cl)), (.int .i64 ((((P.getD i pr0).C).getD k ce0).x.seq))] : List Value) ++ hc (((P.getD i pr0).C).getD k ce0).x.h ++ ([(.int .i64 ((((P.getD i pr0).C).getD k ce0).x.len)), (.int .i64 ((((P.getD i pr0).C).getD k ce0).x.sb)), (.int .i64 ((((P.getD i pr0).C).getD k ce0).x.sm)), (.slice (((P.getD i pr0).C).getD k ce0).sa ((((P.getD i pr0).C).getD k ce0).S).length (((P.getD i pr0).C).getD k ce0).sc)] : List Value))] w48)
      refine hK47 _ _ ?_
      clear hK47 K47
      refine w_nil ?_
      refine then_normal ?_
      refine w_seq ?_
      refine h_start H49 [restC w (fun _ => False), cellC b2 27 ([(.int .i64 (ep)), (.int .u64 (tm)), (.slice pa P.length pc), (vo), (vt)] : List Value), mapC b6 nmV entV M2, cellC b23 33 ([(.int .i64 ((P.getD i pr0).r)), (.int .i64 ((P.getD i pr0).e)), (.int .u64 ((P.getD i pr0).f)), (.slice (P.getD i pr0).ca ((P.getD i pr0).C).length (P.getD i pr0).cc), (.int .i64 ((P.getD i pr0).sb)), (.int .i64 ((P.getD i pr0).sm))] : List Value), cellC b44 42 (([(.int .i64 ((((P.getD i pr0).C).getD k ce0).x.cl)), (.int .i64 ((((P.getD i pr0).C).getD k ce0).x.seq))] : List Value) ++ hc (((P.getD i pr0).C).getD k ce0).x.h ++ ([(.int .i64 ((((P.getD i pr0).C).getD k ce0).x.len)), (.int .i64 ((((P.getD i pr0).C).getD k ce0).x.sb)), (.int .i64 ((((P.getD i pr0).C).getD k ce0).x.sm)), (.slice (((P.getD i pr0).C).getD k ce0).sa ((((P.getD i pr0).C).getD k ce0).S).length (((P.getD i pr0).C).getD k ce0).sc)] : List Value))] 11 rfl (by kernel_rfl) (fun Hx => (Hx.pick [0, 1, 2, 3, 4] (by decide))) ?_
      intro w51 H52 S53
      refine h_val 0 rfl (by kernel_rfl) (by kernel_rfl) (by kernel_rfl) (fun _ _ _ h => h) S53 (wants0 rfl) (d := 33) (v := (.pointer (some ⟨b44, 0, none⟩))) rfl (fun _ H' => (by kernel_rfl)) ?_
      refine h_val 1 rfl (by kernel_rfl) (by kernel_rfl) (by kernel_rfl) (fun _ _ _ h => h) S53 (wants0 rfl) (d := 34) (v := (.pointer (some ⟨b44, 0, none⟩))) rfl (fun _ H' => (by kernel_rfl)) ?_
      refine h_val 2 rfl (by kernel_rfl) (by kernel_rfl) (by kernel_rfl) (fun _ _ _ h => h) S53 (wants0 rfl) (d := 35) (v := (.agg ⟨([(.int .i64 ((((P.getD i pr0).C).getD k ce0).x.cl)), (.int .i64 ((((P.getD i pr0).C).getD k ce0).x.seq))] : List Value)⟩)) rfl (fun _ H' => (e_loadN (vs := ([(.int .i64 ((((P.getD i pr0).C).getD k ce0).x.cl)), (.int .i64 ((((P.getD i pr0).C).getD k ce0).x.seq))] : List Value)) rfl (by kernel_rfl) (by kernel_rfl) (by exact Nat.le_of_ble_eq_true (by kernel_rfl)) (H'.at 4 rfl) (by kernel_rfl))) ?_
      refine h_val 3 rfl (by kernel_rfl) (by kernel_rfl) (by kernel_rfl) (fun _ _ _ h => h) S53 (wants0 rfl) (d := 36) (v := (.pointer (some ⟨b44, 0, none⟩))) rfl (fun _ H' => (by kernel_rfl)) ?_
      refine h_val 4 rfl (by kernel_rfl) (by kernel_rfl) (by kernel_rfl) (fun _ _ _ h => h) S53 (wants0 rfl) (d := 37) (v := (.pointer (some ⟨b44, 2, none⟩))) rfl (fun _ H' => (by kernel_rfl)) ?_
      refine h_val 5 rfl (by kernel_rfl) (by kernel_rfl) (by kernel_rfl) (fun _ _ _ h => h) S53 (wants0 rfl) (d := 38) (v := (.agg ⟨(hc (((P.getD i pr0).C).getD k ce0).x.h)⟩)) rfl (fun _ H' => (e_loadN (vs := (hc (((P.getD i pr0).C).getD k ce0).x.h)) rfl (by kernel_rfl) (by kernel_rfl) (by exact Nat.le_of_ble_eq_true (by kernel_rfl)) (H'.at 4 rfl) (by kernel_rfl))) ?_
      refine h_val 6 rfl (by kernel_rfl) (by kernel_rfl) (by kernel_rfl) (fun _ _ _ h => h) S53 (wants0 rfl) (d := 39) (v := (.agg ⟨(([(.int .i64 ((((P.getD i pr0).C).getD k ce0).x.cl)), (.int .i64 ((((P.getD i pr0).C).getD k ce0).x.seq))] : List Value) ++ hc (((P.getD i pr0).C).getD k ce0).x.h ++ ([(.int .i64 ((((P.getD i pr0).C).getD k ce0).x.len)), (.int .i64 ((((P.getD i pr0).C).getD k ce0).x.sb)), (.int .i64 ((((P.getD i pr0).C).getD k ce0).x.sm)), (.slice (((P.getD i pr0).C).getD k ce0).sa ((((P.getD i pr0).C).getD k ce0).S).length (((P.getD i pr0).C).getD k ce0).sc)] : List Value))⟩)) rfl (fun _ H' => (e_loadN (vs := (([(.int .i64 ((((P.getD i pr0).C).getD k ce0).x.cl)), (.int .i64 ((((P.getD i pr0).C).getD k ce0).x.seq))] : List Value) ++ hc (((P.getD i pr0).C).getD k ce0).x.h ++ ([(.int .i64 ((((P.getD i pr0).C).getD k ce0).x.len)), (.int .i64 ((((P.getD i pr0).C).getD k ce0).x.sb)), (.int .i64 ((((P.getD i pr0).C).getD k ce0).x.sm)), (.slice (((P.getD i pr0).C).getD k ce0).sa ((((P.getD i pr0).C).getD k ce0).S).length (((P.getD i pr0).C).getD k ce0).sc)] : List Value))) rfl (by kernel_rfl) (by kernel_rfl) (by exact Nat.le_of_ble_eq_true (by kernel_rfl)) (H'.at 4 rfl) (by kernel_rfl))) ?_
      refine h_do2 7 9 rfl rfl (by kernel_rfl) (wants0 rfl) (wants0 rfl) (fun K54 hK54 => ?_) (fun K54 hK54 => ?_)
      · refine d_call (d := 40) rfl (by kernel_rfl) (wTime_any w51 (((P.getD i pr0).C).getD k ce0).x (((P.getD i pr0).C).getD k ce0).sa (((P.getD i pr0).C).getD k ce0).sc ((((P.getD i pr0).C).getD k ce0).S) (ListAt.now H52 0 rfl (ceOk_at hPo (i := i) (k := k) (by omega) (by omega))) (hsm.at (i := i) (k := k) (by omega) (by omega)).2.1) ?_
        rintro _ w55 ⟨rfl, u57⟩
        have H56 := H52.keepU u57
        refine ⟨_, rfl, ?_⟩
        have S58 := H56.pick [0, 1, 2, 3, 4] (by decide)
        refine hK54 _ _ S58 ?_
        clear hK54 K54
        refine h_val 8 rfl (by kernel_rfl) (by kernel_rfl) (by kernel_rfl) (fun _ _ _ h => h) S58 (wants0 rfl) (d := 41) (v := (.agg ⟨(([(.int .i64 ((((P.getD i pr0).C).getD k ce0).x.cl)), (.int .i64 ((((P.getD i pr0).C).getD k ce0).x.seq))] : List Value) ++ hc (((P.getD i pr0).C).getD k ce0).x.h ++ ([(.int .u64 (timeD ((((P.getD i pr0).C).getD k ce0).S)))] : List Value))⟩)) rfl (fun _ H' => (by kernel_rfl)) ?_
        refine h_do 9 rfl (by kernel_rfl) (wants0 rfl) (fun K59 hK59 => ?_)
        refine d_alloc (zs := (([(.int .i64 (0)), (.int .i64 (0))] : List Value) ++ hc hash0 ++ ([(.int .u64 (0))] : List Value))) (z := (.agg ⟨(([(.int .i64 (0)), (.int .i64 (0))] : List Value) ++ hc hash0 ++ ([(.int .u64 (0))] : List Value))⟩)) rfl H56 (by kernel_rfl) (by kernel_rfl) ?_
        intro b60 w61 (H62 : Sat w [restC w (fun _ => False), cellC b2 27 ([(.int .i64 (ep)), (.int .u64 (tm)), (.slice pa P.length pc), (vo), (vt)] : List Value), mapC b6 nmV entV M2, cellC b23 33 ([(.int .i64 ((P.getD i pr0).r)), (.int .i64 ((P.getD i pr0).e)), (.int .u64 ((P.getD i pr0).f)), (.slice (P.getD i pr0).ca ((P.getD i pr0).C).length (P.getD i pr0).cc), (.int .i64 ((P.getD i pr0).sb)), (.int .i64 ((P.getD i pr0).sm))] : List Value), cellC b44 42 (([(.int .i64 ((((P.getD i pr0).C).getD k ce0).x.cl)), (.int .i64 ((((P.getD i pr0).C).getD k ce0).x.seq))] : List Value) ++ hc (((P.getD i pr0).C).getD k ce0).x.h ++ ([(.int .i64 ((((P.getD i pr0).C).getD k ce0).x.len)), (.int .i64 ((((P.getD i pr0).C).getD k ce0).x.sb)), (.int .i64 ((((P.getD i pr0).C).getD k ce0).x.sm)), (.slice (((P.getD i pr0).C).getD k ce0).sa ((((P.getD i pr0).C).getD k ce0).S).length (((P.getD i pr0).C).getD k ce0).sc)] : List Value)), cellC b60 50 (([(.int .i64 (0)), (.int .i64 (0))] : List Value) ++ hc hash0 ++ ([(.int .u64 (0))] : List Value))] w61)
        have S63 := H62.pick [0, 1, 2, 3, 4] (by decide)
        refine hK59 _ _ S63 ?_
        clear hK59 K59
        refine h_do 10 rfl (by kernel_rfl) (wants0 rfl) (fun K64 hK64 => ?_)
        refine d_storeX (vs := (([(.int .i64 ((((P.getD i pr0).C).getD k ce0).x.cl)), (.int .i64 ((((P.getD i pr0).C).getD k ce0).x.seq))] : List Value) ++ hc (((P.getD i pr0).C).getD k ce0).x.h ++ ([(.int .u64 (timeD ((((P.getD i pr0).C).getD k ce0).S)))] : List Value))) (cs' := (([(.int .i64 ((((P.getD i pr0).C).getD k ce0).x.cl)), (.int .i64 ((((P.getD i pr0).C).getD k ce0).x.seq))] : List Value) ++ hc (((P.getD i pr0).C).getD k ce0).x.h ++ ([(.int .u64 (timeD ((((P.getD i pr0).C).getD k ce0).S)))] : List Value))) rfl H62 5 rfl rfl rfl rfl (by kernel_rfl) (Nat.le_of_ble_eq_true (by kernel_rfl)) (Nat.le_of_ble_eq_true (by kernel_rfl)) (by kernel_rfl) (by kernel_rfl) ?_
        intro w65 (H66 : Sat w [restC w (fun _ => False), cellC b2 27 ([(.int .i64 (ep)), (.int .u64 (tm)), (.slice pa P.length pc), (vo), (vt)] : List Value), mapC b6 nmV entV M2, cellC b23 33 ([(.int .i64 ((P.getD i pr0).r)), (.int .i64 ((P.getD i pr0).e)), (.int .u64 ((P.getD i pr0).f)), (.slice (P.getD i pr0).ca ((P.getD i pr0).C).length (P.getD i pr0).cc), (.int .i64 ((P.getD i pr0).sb)), (.int .i64 ((P.getD i pr0).sm))] : List Value), cellC b44 42 (([(.int .i64 ((((P.getD i pr0).C).getD k ce0).x.cl)), (.int .i64 ((((P.getD i pr0).C).getD k ce0).x.seq))] : List Value) ++ hc (((P.getD i pr0).C).getD k ce0).x.h ++ ([(.int .i64 ((((P.getD i pr0).C).getD k ce0).x.len)), (.int .i64 ((((P.getD i pr0).C).getD k ce0).x.sb)), (.int .i64 ((((P.getD i pr0).C).getD k ce0).x.sm)), (.slice (((P.getD i pr0).C).getD k ce0).sa ((((P.getD i pr0).C).getD k ce0).S).length (((P.getD i pr0).C).getD k ce0).sc)] : List Value)), cellC b60 50 (([(.int .i64 ((((P.getD i pr0).C).getD k ce0).x.cl)), (.int .i64 ((((P.getD i pr0).C).getD k ce0).x.seq))] : List Value) ++ hc (((P.getD i pr0).C).getD k ce0).x.h ++ ([(.int .u64 (timeD ((((P.getD i pr0).C).getD k ce0).S)))] : List Value))] w65)
        have S68 := H66.pick [0, 1, 2, 3, 4] (by decide)
        refine hK64 _ _ S68 ?_
        clear hK64 K64
        refine h_fin (by kernel_rfl) ?_
        refine then_normal ?_
        refine w_seq ?_
        refine w_seq ?_
        refine w_lit ?_
        refine wl_pure (wants0 rfl) (d := 42) (v := (.pointer (some ⟨b60, 34, none⟩))) rfl (by kernel_rfl) ?_
        refine wl_pure (wants0 rfl) (d := 43) (v := (.int .u64 (timeD ((((P.getD i pr0).C).getD k ce0).S)))) rfl (e_load1 rfl (by kernel_rfl) (H66.cell 5 rfl (by kernel_rfl))) ?_
        refine wl_pure (wants0 rfl) (d := 44) (v := (.int .u64 (last))) rfl (by kernel_rfl) ?_
        refine wl_pure (wants0 rfl) (d := 45) (v := (.bool (decide ((timeD ((((P.getD i pr0).C).getD k ce0).S)) ≤ last)))) rfl (by kernel_rfl) ?_
        refine wl_pure (wants0 rfl) (d := 46) (v := (.bool (decide ((timeD ((((P.getD i pr0).C).getD k ce0).S)) ≤ last)))) rfl (by kernel_rfl) ?_
        refine (bsplit (decide ((timeD ((((P.getD i pr0).C).getD k ce0).S)) ≤ last))).elim (fun b69 => ?_) (fun b69 => ?_)
        · have g70 := of_decide_eq_true b69
          refine wl_know 46 (.bool true) (congrArg Value.bool b69) ?_
          have g71 := of_decide_eq_true b69
          refine wl_pass (wantsN 4 46 false rfl (by kernel_rfl) rfl (by kernel_rfl)) rfl ?_
          refine wl_pass (wantsN 4 46 false rfl (by kernel_rfl) rfl (by kernel_rfl)) rfl ?_
          refine wl_pass (wantsN 4 46 false rfl (by kernel_rfl) rfl (by kernel_rfl)) rfl ?_
          refine wl_pass (wantsN 4 46 false rfl (by kernel_rfl) rfl (by kernel_rfl)) rfl ?_
          refine wl_pass (wantsN 4 46 false rfl (by kernel_rfl) rfl (by kernel_rfl)) rfl ?_
          refine wl_pure (wants0 rfl) (d := 52) (v := (.bool true)) rfl (by kernel_rfl) ?_
          refine wl_pure (wants0 rfl) (d := 53) (v := (.bool true)) rfl (by kernel_rfl) ?_
          refine wl_pass (wantsN 11 53 false rfl (by kernel_rfl) rfl (by kernel_rfl)) rfl ?_
          refine wl_pass (wantsN 11 53 false rfl (by kernel_rfl) rfl (by kernel_rfl)) rfl ?_
          refine wl_pass (wantsN 11 53 false rfl (by kernel_rfl) rfl (by kernel_rfl)) rfl ?_
          refine wl_pass (wantsN 11 53 false rfl (by kernel_rfl) rfl (by kernel_rfl)) rfl ?_
          refine wl_pure (wants0 rfl) (d := 58) (v := (.bool true)) rfl (by kernel_rfl) ?_
          refine w_nil ?_
          refine then_normal ?_
          refine wp_ift rfl ?_
          refine w_exit ?_
          refine then_exit ?_
          refine blk_hit ?_
          refine then_normal ?_
          refine w_lit ?_
          refine wl_pure (wants0 rfl) (d := 77) (v := (.int .i64 ((k : Int) + 1))) rfl (e_int (z := (k : Int) + 1) (by kernel_rfl) (IntWalk.i64_in _ (by omega))) ?_
          refine wl_pure (wants0 rfl) (d := 29) (v := (.int .i64 ((k : Int) + 1))) rfl (by kernel_rfl) ?_
          refine w_nil ?_
          have H72 : Sat w [restC w (fun _ => False), cellC b2 27 ([(.int .i64 (ep)), (.int .u64 (tm)), (.slice pa P.length pc), (vo), (vt)] : List Value), mapC b6 nmV entV M2, cellC b23 33 ([(.int .i64 ((P.getD i pr0).r)), (.int .i64 ((P.getD i pr0).e)), (.int .u64 ((P.getD i pr0).f)), (.slice (P.getD i pr0).ca ((P.getD i pr0).C).length (P.getD i pr0).cc), (.int .i64 ((P.getD i pr0).sb)), (.int .i64 ((P.getD i pr0).sm))] : List Value)] w65 := H66.pick [0, 1, 2, 3] (by decide)
          refine round_back ?_ _ ⟨(k + 1), M2, (show ((.int .i64 ((k : Int) + 1)) : Value) = _ by first | rfl | go_num), (by omega), (runE_more hM2 (by omega) (stepE_skip (skip1 b69))), H72, rfl⟩ (by omega)
          exact (same_upd rfl (same_upd rfl (same_upd rfl (same_upd rfl (same_upd rfl (same_upd rfl (same_upd rfl (same_upd rfl (same_upd rfl (same_upd rfl (same_upd rfl (same_upd rfl (same_upd rfl (same_upd rfl (same_upd rfl (same_upd rfl (same_upd rfl (same_upd rfl (same_upd rfl (same_upd rfl (same_upd rfl (same_upd rfl (same_upd rfl (same_upd rfl (same_upd rfl (same_upd rfl (same_upd rfl (same_upd rfl (same_upd rfl (same_upd rfl (same_upd rfl (same_upd rfl (same_upd rfl (same_upd rfl (same_upd rfl (same_upd rfl (same_ovr)))))))))))))))))))))))))))))))))))))
        · have g73 := of_decide_eq_false b69
          refine wl_know 46 (.bool false) (congrArg Value.bool b69) ?_
          have g74 := of_decide_eq_false b69
          refine wl_pure (wantsY 4 46 false rfl (by kernel_rfl) rfl (by kernel_rfl)) (d := 47) (v := (.pointer (some ⟨b60, 34, none⟩))) rfl (by kernel_rfl) ?_
          refine wl_pure (wantsY 4 46 false rfl (by kernel_rfl) rfl (by kernel_rfl)) (d := 48) (v := (.int .u64 (timeD ((((P.getD i pr0).C).getD k ce0).S)))) rfl (e_load1 rfl (by kernel_rfl) (H66.cell 5 rfl (by kernel_rfl))) ?_
          refine wl_pure (wantsY 4 46 false rfl (by kernel_rfl) rfl (by kernel_rfl)) (d := 49) (v := (.pointer (some ⟨b2, 1, none⟩))) rfl (by kernel_rfl) ?_
          refine wl_pure (wantsY 4 46 false rfl (by kernel_rfl) rfl (by kernel_rfl)) (d := 50) (v := (.int .u64 (tm))) rfl (e_load1 rfl (by kernel_rfl) (H66.cell 1 rfl rfl)) ?_
          refine wl_pure (wantsY 4 46 false rfl (by kernel_rfl) rfl (by kernel_rfl)) (d := 51) (v := (.bool (decide ((timeD ((((P.getD i pr0).C).getD k ce0).S)) > tm)))) rfl (by kernel_rfl) ?_
          refine wl_pure (wants0 rfl) (d := 52) (v := (.bool (decide ((timeD ((((P.getD i pr0).C).getD k ce0).S)) > tm)))) rfl (by kernel_rfl) ?_
          refine wl_pure (wants0 rfl) (d := 53) (v := (.bool (decide ((timeD ((((P.getD i pr0).C).getD k ce0).S)) > tm)))) rfl (by kernel_rfl) ?_
          refine (bsplit (decide ((timeD ((((P.getD i pr0).C).getD k ce0).S)) > tm))).elim (fun b75 => ?_) (fun b75 => ?_)
          · have g76 := of_decide_eq_true b75
            refine wl_know 53 (.bool true) (congrArg Value.bool b75) ?_
            have g77 := of_decide_eq_true b75
            refine wl_pass (wantsN 11 53 false rfl (by kernel_rfl) rfl (by kernel_rfl)) rfl ?_
            refine wl_pass (wantsN 11 53 false rfl (by kernel_rfl) rfl (by kernel_rfl)) rfl ?_
            refine wl_pass (wantsN 11 53 false rfl (by kernel_rfl) rfl (by kernel_rfl)) rfl ?_
            refine wl_pass (wantsN 11 53 false rfl (by kernel_rfl) rfl (by kernel_rfl)) rfl ?_
            refine wl_pure (wants0 rfl) (d := 58) (v := (.bool true)) rfl (by kernel_rfl) ?_
            refine w_nil ?_
            refine then_normal ?_
            refine wp_ift rfl ?_
            refine w_exit ?_
            refine then_exit ?_
            refine blk_hit ?_
            refine then_normal ?_
            refine w_lit ?_
            refine wl_pure (wants0 rfl) (d := 77) (v := (.int .i64 ((k : Int) + 1))) rfl (e_int (z := (k : Int) + 1) (by kernel_rfl) (IntWalk.i64_in _ (by omega))) ?_
            refine wl_pure (wants0 rfl) (d := 29) (v := (.int .i64 ((k : Int) + 1))) rfl (by kernel_rfl) ?_
            refine w_nil ?_
            have H78 : Sat w [restC w (fun _ => False), cellC b2 27 ([(.int .i64 (ep)), (.int .u64 (tm)), (.slice pa P.length pc), (vo), (vt)] : List Value), mapC b6 nmV entV M2, cellC b23 33 ([(.int .i64 ((P.getD i pr0).r)), (.int .i64 ((P.getD i pr0).e)), (.int .u64 ((P.getD i pr0).f)), (.slice (P.getD i pr0).ca ((P.getD i pr0).C).length (P.getD i pr0).cc), (.int .i64 ((P.getD i pr0).sb)), (.int .i64 ((P.getD i pr0).sm))] : List Value)] w65 := H66.pick [0, 1, 2, 3] (by decide)
            refine round_back ?_ _ ⟨(k + 1), M2, (show ((.int .i64 ((k : Int) + 1)) : Value) = _ by first | rfl | go_num), (by omega), (runE_more hM2 (by omega) (stepE_skip (skip2 b75))), H78, rfl⟩ (by omega)
            exact (same_upd rfl (same_upd rfl (same_upd rfl (same_upd rfl (same_upd rfl (same_upd rfl (same_upd rfl (same_upd rfl (same_upd rfl (same_upd rfl (same_upd rfl (same_upd rfl (same_upd rfl (same_upd rfl (same_upd rfl (same_upd rfl (same_upd rfl (same_upd rfl (same_upd rfl (same_upd rfl (same_upd rfl (same_upd rfl (same_upd rfl (same_upd rfl (same_upd rfl (same_upd rfl (same_upd rfl (same_upd rfl (same_upd rfl (same_upd rfl (same_upd rfl (same_upd rfl (same_upd rfl (same_upd rfl (same_upd rfl (same_upd rfl (same_upd rfl (same_ovr))))))))))))))))))))))))))))))))))))))
          · have g79 := of_decide_eq_false b75
            refine wl_know 53 (.bool false) (congrArg Value.bool b75) ?_
            have g80 := of_decide_eq_false b75
            refine wl_pure (wantsY 11 53 false rfl (by kernel_rfl) rfl (by kernel_rfl)) (d := 54) (v := (.map (some lb))) rfl (by kernel_rfl) ?_
            refine wl_pure (wantsY 11 53 false rfl (by kernel_rfl) rfl (by kernel_rfl)) (d := 55) (v := (.pointer (some ⟨b60, 0, none⟩))) rfl (by kernel_rfl) ?_
            refine wl_pure (wantsY 11 53 false rfl (by kernel_rfl) rfl (by kernel_rfl)) (d := 56) (v := (.agg ⟨([(.int .i64 ((((P.getD i pr0).C).getD k ce0).x.cl)), (.int .i64 ((((P.getD i pr0).C).getD k ce0).x.seq))] : List Value)⟩)) rfl (e_loadN (vs := ([(.int .i64 ((((P.getD i pr0).C).getD k ce0).x.cl)), (.int .i64 ((((P.getD i pr0).C).getD k ce0).x.seq))] : List Value)) rfl (by kernel_rfl) (by kernel_rfl) (by exact Nat.le_of_ble_eq_true (by kernel_rfl)) (H66.at 5 rfl) (by kernel_rfl)) ?_
            refine wl_pure (wantsY 11 53 false rfl (by kernel_rfl) rfl (by kernel_rfl)) (d := 57) (v := (.bool ((lookM LM (⟨(((P.getD i pr0).C).getD k ce0).x.cl, (((P.getD i pr0).C).getD k ce0).x.seq⟩ : NmD)).getD false))) rfl (e_lookup (kt := 35) (et := 4) nmK (by kernel_rfl) (fun w => by kernel_rfl) rfl (⟨(((P.getD i pr0).C).getD k ce0).x.cl, (((P.getD i pr0).C).getD k ce0).x.seq⟩ : NmD) rfl (H66.roMap 0 rfl hLM (fun h => h)) (optD Value.bool _ _)) ?_
            refine wl_pure (wants0 rfl) (d := 58) (v := (.bool ((lookM LM (⟨(((P.getD i pr0).C).getD k ce0).x.cl, (((P.getD i pr0).C).getD k ce0).x.seq⟩ : NmD)).getD false))) rfl (by kernel_rfl) ?_
            refine w_nil ?_
            refine then_normal ?_
            refine (bsplit ((lookM LM (⟨(((P.getD i pr0).C).getD k ce0).x.cl, (((P.getD i pr0).C).getD k ce0).x.seq⟩ : NmD)).getD false)).elim (fun b81 => ?_) (fun b81 => ?_)
            · refine wp_know 58 (.bool true) (congrArg Value.bool b81) ?_
              refine wp_ift rfl ?_
              refine w_exit ?_
              refine then_exit ?_
              refine blk_hit ?_
              refine then_normal ?_
              refine w_lit ?_
              refine wl_pure (wants0 rfl) (d := 77) (v := (.int .i64 ((k : Int) + 1))) rfl (e_int (z := (k : Int) + 1) (by kernel_rfl) (IntWalk.i64_in _ (by omega))) ?_
              refine wl_pure (wants0 rfl) (d := 29) (v := (.int .i64 ((k : Int) + 1))) rfl (by kernel_rfl) ?_
              refine w_nil ?_
              have H82 : Sat w [restC w (fun _ => False), cellC b2 27 ([(.int .i64 (ep)), (.int .u64 (tm)), (.slice pa P.length pc), (vo), (vt)] : List Value), mapC b6 nmV entV M2, cellC b23 33 ([(.int .i64 ((P.getD i pr0).r)), (.int .i64 ((P.getD i pr0).e)), (.int .u64 ((P.getD i pr0).f)), (.slice (P.getD i pr0).ca ((P.getD i pr0).C).length (P.getD i pr0).cc), (.int .i64 ((P.getD i pr0).sb)), (.int .i64 ((P.getD i pr0).sm))] : List Value)] w65 := H66.pick [0, 1, 2, 3] (by decide)
              refine round_back ?_ _ ⟨(k + 1), M2, (show ((.int .i64 ((k : Int) + 1)) : Value) = _ by first | rfl | go_num), (by omega), (runE_more hM2 (by omega) (stepE_skip (skip3 hlg b81))), H82, rfl⟩ (by omega)
              exact (same_upd rfl (same_upd rfl (same_upd rfl (same_upd rfl (same_upd rfl (same_upd rfl (same_upd rfl (same_upd rfl (same_upd rfl (same_upd rfl (same_upd rfl (same_upd rfl (same_upd rfl (same_upd rfl (same_upd rfl (same_upd rfl (same_upd rfl (same_upd rfl (same_upd rfl (same_upd rfl (same_upd rfl (same_upd rfl (same_upd rfl (same_upd rfl (same_upd rfl (same_upd rfl (same_upd rfl (same_upd rfl (same_upd rfl (same_upd rfl (same_upd rfl (same_upd rfl (same_upd rfl (same_upd rfl (same_upd rfl (same_upd rfl (same_upd rfl (same_upd rfl (same_ovr)))))))))))))))))))))))))))))))))))))))
            · refine wp_know 58 (.bool false) (congrArg Value.bool b81) ?_
              refine wp_iff rfl ?_
              refine w_skip ?_
              refine then_normal ?_
              refine w_seq ?_
              refine w_lit ?_
              refine wl_pure (wants0 rfl) (d := 60) (v := (.map (some b6))) rfl (by kernel_rfl) ?_
              refine wl_pure (wants0 rfl) (d := 61) (v := (.pointer (some ⟨b60, 0, none⟩))) rfl (by kernel_rfl) ?_
              refine wl_pure (wants0 rfl) (d := 62) (v := (.agg ⟨([(.int .i64 ((((P.getD i pr0).C).getD k ce0).x.cl)), (.int .i64 ((((P.getD i pr0).C).getD k ce0).x.seq))] : List Value)⟩)) rfl (e_loadN (vs := ([(.int .i64 ((((P.getD i pr0).C).getD k ce0).x.cl)), (.int .i64 ((((P.getD i pr0).C).getD k ce0).x.seq))] : List Value)) rfl (by kernel_rfl) (by kernel_rfl) (by exact Nat.le_of_ble_eq_true (by kernel_rfl)) (H66.at 5 rfl) (by kernel_rfl)) ?_
              refine wl_pure (wants0 rfl) (d := 63) (v := (.tuple #[(.agg ⟨(([(.int .i64 (((lookM M2 (⟨(((P.getD i pr0).C).getD k ce0).x.cl, (((P.getD i pr0).C).getD k ce0).x.seq⟩ : NmD)).getD ent0).cl)), (.int .i64 (((lookM M2 (⟨(((P.getD i pr0).C).getD k ce0).x.cl, (((P.getD i pr0).C).getD k ce0).x.seq⟩ : NmD)).getD ent0).sq))] : List Value) ++ hc ((lookM M2 (⟨(((P.getD i pr0).C).getD k ce0).x.cl, (((P.getD i pr0).C).getD k ce0).x.seq⟩ : NmD)).getD ent0).h ++ ([(.int .u64 (((lookM M2 (⟨(((P.getD i pr0).C).getD k ce0).x.cl, (((P.getD i pr0).C).getD k ce0).x.seq⟩ : NmD)).getD ent0).t))] : List Value))⟩), (.bool ((lookM M2 (⟨(((P.getD i pr0).C).getD k ce0).x.cl, (((P.getD i pr0).C).getD k ce0).x.seq⟩ : NmD)).isSome))])) rfl (e_lookup2 (kt := 35) (et := 50) nmK (by kernel_rfl) zeroEn rfl (⟨(((P.getD i pr0).C).getD k ce0).x.cl, (((P.getD i pr0).C).getD k ce0).x.seq⟩ : NmD) rfl (H66.at 2 rfl) (optD entV _ _) rfl) ?_
              refine wl_pure (wants0 rfl) (d := 59) (v := (.tuple #[(.agg ⟨(([(.int .i64 (((lookM M2 (⟨(((P.getD i pr0).C).getD k ce0).x.cl, (((P.getD i pr0).C).getD k ce0).x.seq⟩ : NmD)).getD ent0).cl)), (.int .i64 (((lookM M2 (⟨(((P.getD i pr0).C).getD k ce0).x.cl, (((P.getD i pr0).C).getD k ce0).x.seq⟩ : NmD)).getD ent0).sq))] : List Value) ++ hc ((lookM M2 (⟨(((P.getD i pr0).C).getD k ce0).x.cl, (((P.getD i pr0).C).getD k ce0).x.seq⟩ : NmD)).getD ent0).h ++ ([(.int .u64 (((lookM M2 (⟨(((P.getD i pr0).C).getD k ce0).x.cl, (((P.getD i pr0).C).getD k ce0).x.seq⟩ : NmD)).getD ent0).t))] : List Value))⟩), (.bool ((lookM M2 (⟨(((P.getD i pr0).C).getD k ce0).x.cl, (((P.getD i pr0).C).getD k ce0).x.seq⟩ : NmD)).isSome))])) rfl (by kernel_rfl) ?_
              refine wl_pure (wants0 rfl) (d := 64) (v := (.agg ⟨(([(.int .i64 (((lookM M2 (⟨(((P.getD i pr0).C).getD k ce0).x.cl, (((P.getD i pr0).C).getD k ce0).x.seq⟩ : NmD)).getD ent0).cl)), (.int .i64 (((lookM M2 (⟨(((P.getD i pr0).C).getD k ce0).x.cl, (((P.getD i pr0).C).getD k ce0).x.seq⟩ : NmD)).getD ent0).sq))] : List Value) ++ hc ((lookM M2 (⟨(((P.getD i pr0).C).getD k ce0).x.cl, (((P.getD i pr0).C).getD k ce0).x.seq⟩ : NmD)).getD ent0).h ++ ([(.int .u64 (((lookM M2 (⟨(((P.getD i pr0).C).getD k ce0).x.cl, (((P.getD i pr0).C).getD k ce0).x.seq⟩ : NmD)).getD ent0).t))] : List Value))⟩)) rfl (by kernel_rfl) ?_
              refine wl_pure (wants0 rfl) (d := 65) (v := (.bool ((lookM M2 (⟨(((P.getD i pr0).C).getD k ce0).x.cl, (((P.getD i pr0).C).getD k ce0).x.seq⟩ : NmD)).isSome))) rfl (by kernel_rfl) ?_
              refine wl_do (wants0 rfl) (fun K83 hK83 => ?_)
              refine d_alloc (zs := (([(.int .i64 (0)), (.int .i64 (0))] : List Value) ++ hc hash0 ++ ([(.int .u64 (0))] : List Value))) (z := (.agg ⟨(([(.int .i64 (0)), (.int .i64 (0))] : List Value) ++ hc hash0 ++ ([(.int .u64 (0))] : List Value))⟩)) rfl H66 (by kernel_rfl) (by kernel_rfl) ?_
              intro b84 w85 (H86 : Sat w [restC w (fun _ => False), cellC b2 27 ([(.int .i64 (ep)), (.int .u64 (tm)), (.slice pa P.length pc), (vo), (vt)] : List Value), mapC b6 nmV entV M2, cellC b23 33 ([(.int .i64 ((P.getD i pr0).r)), (.int .i64 ((P.getD i pr0).e)), (.int .u64 ((P.getD i pr0).f)), (.slice (P.getD i pr0).ca ((P.getD i pr0).C).length (P.getD i pr0).cc), (.int .i64 ((P.getD i pr0).sb)), (.int .i64 ((P.getD i pr0).sm))] : List Value), cellC b44 42 (([(.int .i64 ((((P.getD i pr0).C).getD k ce0).x.cl)), (.int .i64 ((((P.getD i pr0).C).getD k ce0).x.seq))] : List Value) ++ hc (((P.getD i pr0).C).getD k ce0).x.h ++ ([(.int .i64 ((((P.getD i pr0).C).getD k ce0).x.len)), (.int .i64 ((((P.getD i pr0).C).getD k ce0).x.sb)), (.int .i64 ((((P.getD i pr0).C).getD k ce0).x.sm)), (.slice (((P.getD i pr0).C).getD k ce0).sa ((((P.getD i pr0).C).getD k ce0).S).length (((P.getD i pr0).C).getD k ce0).sc)] : List Value)), cellC b60 50 (([(.int .i64 ((((P.getD i pr0).C).getD k ce0).x.cl)), (.int .i64 ((((P.getD i pr0).C).getD k ce0).x.seq))] : List Value) ++ hc (((P.getD i pr0).C).getD k ce0).x.h ++ ([(.int .u64 (timeD ((((P.getD i pr0).C).getD k ce0).S)))] : List Value)), cellC b84 50 (([(.int .i64 (0)), (.int .i64 (0))] : List Value) ++ hc hash0 ++ ([(.int .u64 (0))] : List Value))] w85)
              refine hK83 _ _ ?_
              clear hK83 K83
              refine wl_do (wants0 rfl) (fun K87 hK87 => ?_)
              refine d_storeX (vs := (([(.int .i64 (((lookM M2 (⟨(((P.getD i pr0).C).getD k ce0).x.cl, (((P.getD i pr0).C).getD k ce0).x.seq⟩ : NmD)).getD ent0).cl)), (.int .i64 (((lookM M2 (⟨(((P.getD i pr0).C).getD k ce0).x.cl, (((P.getD i pr0).C).getD k ce0).x.seq⟩ : NmD)).getD ent0).sq))] : List Value) ++ hc ((lookM M2 (⟨(((P.getD i pr0).C).getD k ce0).x.cl, (((P.getD i pr0).C).getD k ce0).x.seq⟩ : NmD)).getD ent0).h ++ ([(.int .u64 (((lookM M2 (⟨(((P.getD i pr0).C).getD k ce0).x.cl, (((P.getD i pr0).C).getD k ce0).x.seq⟩ : NmD)).getD ent0).t))] : List Value))) (cs' := (([(.int .i64 (((lookM M2 (⟨(((P.getD i pr0).C).getD k ce0).x.cl, (((P.getD i pr0).C).getD k ce0).x.seq⟩ : NmD)).getD ent0).cl)), (.int .i64 (((lookM M2 (⟨(((P.getD i pr0).C).getD k ce0).x.cl, (((P.getD i pr0).C).getD k ce0).x.seq⟩ : NmD)).getD ent0).sq))] : List Value) ++ hc ((lookM M2 (⟨(((P.getD i pr0).C).getD k ce0).x.cl, (((P.getD i pr0).C).getD k ce0).x.seq⟩ : NmD)).getD ent0).h ++ ([(.int .u64 (((lookM M2 (⟨(((P.getD i pr0).C).getD k ce0).x.cl, (((P.getD i pr0).C).getD k ce0).x.seq⟩ : NmD)).getD ent0).t))] : List Value))) rfl H86 6 rfl rfl rfl rfl (by kernel_rfl) (Nat.le_of_ble_eq_true (by kernel_rfl)) (Nat.le_of_ble_eq_true (by kernel_rfl)) (by kernel_rfl) (by kernel_rfl) ?_
              intro w88 (H89 : Sat w [restC w (fun _ => False), cellC b2 27 ([(.int .i64 (ep)), (.int .u64 (tm)), (.slice pa P.length pc), (vo), (vt)] : List Value), mapC b6 nmV entV M2, cellC b23 33 ([(.int .i64 ((P.getD i pr0).r)), (.int .i64 ((P.getD i pr0).e)), (.int .u64 ((P.getD i pr0).f)), (.slice (P.getD i pr0).ca ((P.getD i pr0).C).length (P.getD i pr0).cc), (.int .i64 ((P.getD i pr0).sb)), (.int .i64 ((P.getD i pr0).sm))] : List Value), cellC b44 42 (([(.int .i64 ((((P.getD i pr0).C).getD k ce0).x.cl)), (.int .i64 ((((P.getD i pr0).C).getD k ce0).x.seq))] : List Value) ++ hc (((P.getD i pr0).C).getD k ce0).x.h ++ ([(.int .i64 ((((P.getD i pr0).C).getD k ce0).x.len)), (.int .i64 ((((P.getD i pr0).C).getD k ce0).x.sb)), (.int .i64 ((((P.getD i pr0).C).getD k ce0).x.sm)), (.slice (((P.getD i pr0).C).getD k ce0).sa ((((P.getD i pr0).C).getD k ce0).S).length (((P.getD i pr0).C).getD k ce0).sc)] : List Value)), cellC b60 50 (([(.int .i64 ((((P.getD i pr0).C).getD k ce0).x.cl)), (.int .i64 ((((P.getD i pr0).C).getD k ce0).x.seq))] : List Value) ++ hc (((P.getD i pr0).C).getD k ce0).x.h ++ ([(.int .u64 (timeD ((((P.getD i pr0).C).getD k ce0).S)))] : List Value)), cellC b84 50 (([(.int .i64 (((lookM M2 (⟨(((P.getD i pr0).C).getD k ce0).x.cl, (((P.getD i pr0).C).getD k ce0).x.seq⟩ : NmD)).getD ent0).cl)), (.int .i64 (((lookM M2 (⟨(((P.getD i pr0).C).getD k ce0).x.cl, (((P.getD i pr0).C).getD k ce0).x.seq⟩ : NmD)).getD ent0).sq))] : List Value) ++ hc ((lookM M2 (⟨(((P.getD i pr0).C).getD k ce0).x.cl, (((P.getD i pr0).C).getD k ce0).x.seq⟩ : NmD)).getD ent0).h ++ ([(.int .u64 (((lookM M2 (⟨(((P.getD i pr0).C).getD k ce0).x.cl, (((P.getD i pr0).C).getD k ce0).x.seq⟩ : NmD)).getD ent0).t))] : List Value))] w88)
              refine hK87 _ _ ?_
              clear hK87 K87
              refine wl_pure (wants0 rfl) (d := 14) (v := (.bool ((lookM M2 (⟨(((P.getD i pr0).C).getD k ce0).x.cl, (((P.getD i pr0).C).getD k ce0).x.seq⟩ : NmD)).isSome))) rfl (by kernel_rfl) ?_
              refine w_nil ?_
              refine then_normal ?_
              refine w_seq ?_
              refine w_lit ?_
              refine wl_pure (wants0 rfl) (d := 66) (v := (.bool ((lookM M2 (⟨(((P.getD i pr0).C).getD k ce0).x.cl, (((P.getD i pr0).C).getD k ce0).x.seq⟩ : NmD)).isSome))) rfl (by kernel_rfl) ?_
              refine wl_pure (wants0 rfl) (d := 67) (v := (.bool (!((lookM M2 (⟨(((P.getD i pr0).C).getD k ce0).x.cl, (((P.getD i pr0).C).getD k ce0).x.seq⟩ : NmD)).isSome)))) rfl (by kernel_rfl) ?_
              refine wl_pure (wants0 rfl) (d := 68) (v := (.bool (!((lookM M2 (⟨(((P.getD i pr0).C).getD k ce0).x.cl, (((P.getD i pr0).C).getD k ce0).x.seq⟩ : NmD)).isSome)))) rfl (by kernel_rfl) ?_
              refine (bsplit (!((lookM M2 (⟨(((P.getD i pr0).C).getD k ce0).x.cl, (((P.getD i pr0).C).getD k ce0).x.seq⟩ : NmD)).isSome))).elim (fun b91 => ?_) (fun b91 => ?_)
              · have g92 := bnot_true b91
                refine wl_know 68 (.bool true) (congrArg Value.bool b91) ?_
                have g93 := bnot_true b91
                refine wl_pass (wantsN 2 68 false rfl (by kernel_rfl) rfl (by kernel_rfl)) rfl ?_
                refine wl_pass (wantsN 2 68 false rfl (by kernel_rfl) rfl (by kernel_rfl)) rfl ?_
                refine wl_pass (wantsN 2 68 false rfl (by kernel_rfl) rfl (by kernel_rfl)) rfl ?_
                refine wl_pure (wants0 rfl) (d := 72) (v := (.bool true)) rfl (by kernel_rfl) ?_
                refine w_nil ?_
                refine then_normal ?_
                refine wp_ift rfl ?_
                refine w_lit ?_
                refine wl_pure (wants0 rfl) (d := 73) (v := (.map (some b6))) rfl (by kernel_rfl) ?_
                refine wl_pure (wants0 rfl) (d := 74) (v := (.pointer (some ⟨b60, 0, none⟩))) rfl (by kernel_rfl) ?_
                refine wl_pure (wants0 rfl) (d := 75) (v := (.agg ⟨([(.int .i64 ((((P.getD i pr0).C).getD k ce0).x.cl)), (.int .i64 ((((P.getD i pr0).C).getD k ce0).x.seq))] : List Value)⟩)) rfl (e_loadN (vs := ([(.int .i64 ((((P.getD i pr0).C).getD k ce0).x.cl)), (.int .i64 ((((P.getD i pr0).C).getD k ce0).x.seq))] : List Value)) rfl (by kernel_rfl) (by kernel_rfl) (by exact Nat.le_of_ble_eq_true (by kernel_rfl)) (H89.at 5 rfl) (by kernel_rfl)) ?_
                refine wl_pure (wants0 rfl) (d := 76) (v := (.agg ⟨(([(.int .i64 ((((P.getD i pr0).C).getD k ce0).x.cl)), (.int .i64 ((((P.getD i pr0).C).getD k ce0).x.seq))] : List Value) ++ hc (((P.getD i pr0).C).getD k ce0).x.h ++ ([(.int .u64 (timeD ((((P.getD i pr0).C).getD k ce0).S)))] : List Value))⟩)) rfl (e_loadN (vs := (([(.int .i64 ((((P.getD i pr0).C).getD k ce0).x.cl)), (.int .i64 ((((P.getD i pr0).C).getD k ce0).x.seq))] : List Value) ++ hc (((P.getD i pr0).C).getD k ce0).x.h ++ ([(.int .u64 (timeD ((((P.getD i pr0).C).getD k ce0).S)))] : List Value))) rfl (by kernel_rfl) (by kernel_rfl) (by exact Nat.le_of_ble_eq_true (by kernel_rfl)) (H89.at 5 rfl) (by kernel_rfl)) ?_
                refine wl_do (wants0 rfl) (fun K94 hK94 => ?_)
                refine d_mapUpdate (kt := 35) (et := 50) rfl H89 2 rfl nmK (by kernel_rfl) rfl (⟨(((P.getD i pr0).C).getD k ce0).x.cl, (((P.getD i pr0).C).getD k ce0).x.seq⟩ : NmD) rfl (⟨(((P.getD i pr0).C).getD k ce0).x.cl, (((P.getD i pr0).C).getD k ce0).x.seq, ((((P.getD i pr0).C).getD k ce0).x.h), timeD ((((P.getD i pr0).C).getD k ce0).S)⟩ : EntD) rfl ?_
                intro w95 (H96 : Sat w [restC w (fun _ => False), cellC b2 27 ([(.int .i64 (ep)), (.int .u64 (tm)), (.slice pa P.length pc), (vo), (vt)] : List Value), mapC b6 nmV entV (putM M2 (⟨(((P.getD i pr0).C).getD k ce0).x.cl, (((P.getD i pr0).C).getD k ce0).x.seq⟩ : NmD) (⟨(((P.getD i pr0).C).getD k ce0).x.cl, (((P.getD i pr0).C).getD k ce0).x.seq, ((((P.getD i pr0).C).getD k ce0).x.h), timeD ((((P.getD i pr0).C).getD k ce0).S)⟩ : EntD)), cellC b23 33 ([(.int .i64 ((P.getD i pr0).r)), (.int .i64 ((P.getD i pr0).e)), (.int .u64 ((P.getD i pr0).f)), (.slice (P.getD i pr0).ca ((P.getD i pr0).C).length (P.getD i pr0).cc), (.int .i64 ((P.getD i pr0).sb)), (.int .i64 ((P.getD i pr0).sm))] : List Value), cellC b44 42 (([(.int .i64 ((((P.getD i pr0).C).getD k ce0).x.cl)), (.int .i64 ((((P.getD i pr0).C).getD k ce0).x.seq))] : List Value) ++ hc (((P.getD i pr0).C).getD k ce0).x.h ++ ([(.int .i64 ((((P.getD i pr0).C).getD k ce0).x.len)), (.int .i64 ((((P.getD i pr0).C).getD k ce0).x.sb)), (.int .i64 ((((P.getD i pr0).C).getD k ce0).x.sm)), (.slice (((P.getD i pr0).C).getD k ce0).sa ((((P.getD i pr0).C).getD k ce0).S).length (((P.getD i pr0).C).getD k ce0).sc)] : List Value)), cellC b60 50 (([(.int .i64 ((((P.getD i pr0).C).getD k ce0).x.cl)), (.int .i64 ((((P.getD i pr0).C).getD k ce0).x.seq))] : List Value) ++ hc (((P.getD i pr0).C).getD k ce0).x.h ++ ([(.int .u64 (timeD ((((P.getD i pr0).C).getD k ce0).S)))] : List Value)), cellC b84 50 (([(.int .i64 (((lookM M2 (⟨(((P.getD i pr0).C).getD k ce0).x.cl, (((P.getD i pr0).C).getD k ce0).x.seq⟩ : NmD)).getD ent0).cl)), (.int .i64 (((lookM M2 (⟨(((P.getD i pr0).C).getD k ce0).x.cl, (((P.getD i pr0).C).getD k ce0).x.seq⟩ : NmD)).getD ent0).sq))] : List Value) ++ hc ((lookM M2 (⟨(((P.getD i pr0).C).getD k ce0).x.cl, (((P.getD i pr0).C).getD k ce0).x.seq⟩ : NmD)).getD ent0).h ++ ([(.int .u64 (((lookM M2 (⟨(((P.getD i pr0).C).getD k ce0).x.cl, (((P.getD i pr0).C).getD k ce0).x.seq⟩ : NmD)).getD ent0).t))] : List Value))] w95)
                refine hK94 _ _ ?_
                clear hK94 K94
                refine w_nil ?_
                refine blk_normal ?_
                refine then_normal ?_
                refine w_lit ?_
                refine wl_pure (wants0 rfl) (d := 77) (v := (.int .i64 ((k : Int) + 1))) rfl (e_int (z := (k : Int) + 1) (by kernel_rfl) (IntWalk.i64_in _ (by omega))) ?_
                refine wl_pure (wants0 rfl) (d := 29) (v := (.int .i64 ((k : Int) + 1))) rfl (by kernel_rfl) ?_
                refine w_nil ?_
                have H97 : Sat w [restC w (fun _ => False), cellC b2 27 ([(.int .i64 (ep)), (.int .u64 (tm)), (.slice pa P.length pc), (vo), (vt)] : List Value), mapC b6 nmV entV (putM M2 (⟨(((P.getD i pr0).C).getD k ce0).x.cl, (((P.getD i pr0).C).getD k ce0).x.seq⟩ : NmD) (⟨(((P.getD i pr0).C).getD k ce0).x.cl, (((P.getD i pr0).C).getD k ce0).x.seq, ((((P.getD i pr0).C).getD k ce0).x.h), timeD ((((P.getD i pr0).C).getD k ce0).S)⟩ : EntD)), cellC b23 33 ([(.int .i64 ((P.getD i pr0).r)), (.int .i64 ((P.getD i pr0).e)), (.int .u64 ((P.getD i pr0).f)), (.slice (P.getD i pr0).ca ((P.getD i pr0).C).length (P.getD i pr0).cc), (.int .i64 ((P.getD i pr0).sb)), (.int .i64 ((P.getD i pr0).sm))] : List Value)] w95 := H96.pick [0, 1, 2, 3] (by decide)
                refine round_back ?_ _ ⟨(k + 1), (putM M2 (⟨(((P.getD i pr0).C).getD k ce0).x.cl, (((P.getD i pr0).C).getD k ce0).x.seq⟩ : NmD) (⟨(((P.getD i pr0).C).getD k ce0).x.cl, (((P.getD i pr0).C).getD k ce0).x.seq, ((((P.getD i pr0).C).getD k ce0).x.h), timeD ((((P.getD i pr0).C).getD k ce0).S)⟩ : EntD)), (show ((.int .i64 ((k : Int) + 1)) : Value) = _ by first | rfl | go_num), (by omega), (runE_more hM2 (by omega) (stepE_new (skip0 hlg b69 b75 b81) (none_of (by have q := b91; simpa using q)))), H97, rfl⟩ (by omega)
                exact (same_upd rfl (same_upd rfl (same_upd rfl (same_upd rfl (same_upd rfl (same_upd rfl (same_upd rfl (same_upd rfl (same_upd rfl (same_upd rfl (same_upd rfl (same_upd rfl (same_upd rfl (same_upd rfl (same_upd rfl (same_upd rfl (same_upd rfl (same_upd rfl (same_upd rfl (same_upd rfl (same_upd rfl (same_upd rfl (same_upd rfl (same_upd rfl (same_upd rfl (same_upd rfl (same_upd rfl (same_upd rfl (same_upd rfl (same_upd rfl (same_upd rfl (same_upd rfl (same_upd rfl (same_upd rfl (same_upd rfl (same_upd rfl (same_upd rfl (same_upd rfl (same_upd rfl (same_upd rfl (same_upd rfl (same_upd rfl (same_upd rfl (same_upd rfl (same_upd rfl (same_upd rfl (same_upd rfl (same_upd rfl (same_upd rfl (same_upd rfl (same_upd rfl (same_upd rfl (same_upd rfl (same_upd rfl (same_upd rfl (same_upd rfl (same_upd rfl (same_upd rfl (same_upd rfl (same_ovr))))))))))))))))))))))))))))))))))))))))))))))))))))))))))))
              · have g98 := bnot_false b91
                refine wl_know 68 (.bool false) (congrArg Value.bool b91) ?_
                have g99 := bnot_false b91
                refine wl_pure (wantsY 2 68 false rfl (by kernel_rfl) rfl (by kernel_rfl)) (d := 69) (v := (.agg ⟨(([(.int .i64 ((((P.getD i pr0).C).getD k ce0).x.cl)), (.int .i64 ((((P.getD i pr0).C).getD k ce0).x.seq))] : List Value) ++ hc (((P.getD i pr0).C).getD k ce0).x.h ++ ([(.int .u64 (timeD ((((P.getD i pr0).C).getD k ce0).S)))] : List Value))⟩)) rfl (e_loadN (vs := (([(.int .i64 ((((P.getD i pr0).C).getD k ce0).x.cl)), (.int .i64 ((((P.getD i pr0).C).getD k ce0).x.seq))] : List Value) ++ hc (((P.getD i pr0).C).getD k ce0).x.h ++ ([(.int .u64 (timeD ((((P.getD i pr0).C).getD k ce0).S)))] : List Value))) rfl (by kernel_rfl) (by kernel_rfl) (by exact Nat.le_of_ble_eq_true (by kernel_rfl)) (H89.at 5 rfl) (by kernel_rfl)) ?_
                refine wl_pure (wantsY 2 68 false rfl (by kernel_rfl) rfl (by kernel_rfl)) (d := 70) (v := (.agg ⟨(([(.int .i64 (((lookM M2 (⟨(((P.getD i pr0).C).getD k ce0).x.cl, (((P.getD i pr0).C).getD k ce0).x.seq⟩ : NmD)).getD ent0).cl)), (.int .i64 (((lookM M2 (⟨(((P.getD i pr0).C).getD k ce0).x.cl, (((P.getD i pr0).C).getD k ce0).x.seq⟩ : NmD)).getD ent0).sq))] : List Value) ++ hc ((lookM M2 (⟨(((P.getD i pr0).C).getD k ce0).x.cl, (((P.getD i pr0).C).getD k ce0).x.seq⟩ : NmD)).getD ent0).h ++ ([(.int .u64 (((lookM M2 (⟨(((P.getD i pr0).C).getD k ce0).x.cl, (((P.getD i pr0).C).getD k ce0).x.seq⟩ : NmD)).getD ent0).t))] : List Value))⟩)) rfl (e_loadN (vs := (([(.int .i64 (((lookM M2 (⟨(((P.getD i pr0).C).getD k ce0).x.cl, (((P.getD i pr0).C).getD k ce0).x.seq⟩ : NmD)).getD ent0).cl)), (.int .i64 (((lookM M2 (⟨(((P.getD i pr0).C).getD k ce0).x.cl, (((P.getD i pr0).C).getD k ce0).x.seq⟩ : NmD)).getD ent0).sq))] : List Value) ++ hc ((lookM M2 (⟨(((P.getD i pr0).C).getD k ce0).x.cl, (((P.getD i pr0).C).getD k ce0).x.seq⟩ : NmD)).getD ent0).h ++ ([(.int .u64 (((lookM M2 (⟨(((P.getD i pr0).C).getD k ce0).x.cl, (((P.getD i pr0).C).getD k ce0).x.seq⟩ : NmD)).getD ent0).t))] : List Value))) rfl (by kernel_rfl) (by kernel_rfl) (by exact Nat.le_of_ble_eq_true (by kernel_rfl)) (H89.at 6 rfl) (by kernel_rfl)) ?_
                refine wl_do (wantsY 2 68 false rfl (by kernel_rfl) rfl (by kernel_rfl)) (fun K100 hK100 => ?_)
                refine d_call (d := 71) rfl (by kernel_rfl) (ahead_any w88 (⟨(((P.getD i pr0).C).getD k ce0).x.cl, (((P.getD i pr0).C).getD k ce0).x.seq, ((((P.getD i pr0).C).getD k ce0).x.h), timeD ((((P.getD i pr0).C).getD k ce0).S)⟩ : EntD) ((lookM M2 (⟨(((P.getD i pr0).C).getD k ce0).x.cl, (((P.getD i pr0).C).getD k ce0).x.seq⟩ : NmD)).getD ent0)) ?_
                rintro _ w101 ⟨rfl, u103⟩
                have H102 := H89.keepU u103
                refine ⟨_, rfl, ?_⟩
                refine hK100 _ _ ?_
                clear hK100 K100
                refine wl_pure (wants0 rfl) (d := 72) (v := (.bool (aheadE (⟨(((P.getD i pr0).C).getD k ce0).x.cl, (((P.getD i pr0).C).getD k ce0).x.seq, ((((P.getD i pr0).C).getD k ce0).x.h), timeD ((((P.getD i pr0).C).getD k ce0).S)⟩ : EntD) ((lookM M2 (⟨(((P.getD i pr0).C).getD k ce0).x.cl, (((P.getD i pr0).C).getD k ce0).x.seq⟩ : NmD)).getD ent0)))) rfl (by kernel_rfl) ?_
                refine w_nil ?_
                refine then_normal ?_
                refine (bsplit (aheadE (⟨(((P.getD i pr0).C).getD k ce0).x.cl, (((P.getD i pr0).C).getD k ce0).x.seq, ((((P.getD i pr0).C).getD k ce0).x.h), timeD ((((P.getD i pr0).C).getD k ce0).S)⟩ : EntD) ((lookM M2 (⟨(((P.getD i pr0).C).getD k ce0).x.cl, (((P.getD i pr0).C).getD k ce0).x.seq⟩ : NmD)).getD ent0))).elim (fun b104 => ?_) (fun b104 => ?_)
                · refine wp_know 72 (.bool true) (congrArg Value.bool b104) ?_
                  refine wp_ift rfl ?_
                  refine w_lit ?_
                  refine wl_pure (wants0 rfl) (d := 73) (v := (.map (some b6))) rfl (by kernel_rfl) ?_
                  refine wl_pure (wants0 rfl) (d := 74) (v := (.pointer (some ⟨b60, 0, none⟩))) rfl (by kernel_rfl) ?_
                  refine wl_pure (wants0 rfl) (d := 75) (v := (.agg ⟨([(.int .i64 ((((P.getD i pr0).C).getD k ce0).x.cl)), (.int .i64 ((((P.getD i pr0).C).getD k ce0).x.seq))] : List Value)⟩)) rfl (e_loadN (vs := ([(.int .i64 ((((P.getD i pr0).C).getD k ce0).x.cl)), (.int .i64 ((((P.getD i pr0).C).getD k ce0).x.seq))] : List Value)) rfl (by kernel_rfl) (by kernel_rfl) (by exact Nat.le_of_ble_eq_true (by kernel_rfl)) (H102.at 5 rfl) (by kernel_rfl)) ?_
                  refine wl_pure (wants0 rfl) (d := 76) (v := (.agg ⟨(([(.int .i64 ((((P.getD i pr0).C).getD k ce0).x.cl)), (.int .i64 ((((P.getD i pr0).C).getD k ce0).x.seq))] : List Value) ++ hc (((P.getD i pr0).C).getD k ce0).x.h ++ ([(.int .u64 (timeD ((((P.getD i pr0).C).getD k ce0).S)))] : List Value))⟩)) rfl (e_loadN (vs := (([(.int .i64 ((((P.getD i pr0).C).getD k ce0).x.cl)), (.int .i64 ((((P.getD i pr0).C).getD k ce0).x.seq))] : List Value) ++ hc (((P.getD i pr0).C).getD k ce0).x.h ++ ([(.int .u64 (timeD ((((P.getD i pr0).C).getD k ce0).S)))] : List Value))) rfl (by kernel_rfl) (by kernel_rfl) (by exact Nat.le_of_ble_eq_true (by kernel_rfl)) (H102.at 5 rfl) (by kernel_rfl)) ?_
                  refine wl_do (wants0 rfl) (fun K105 hK105 => ?_)
                  refine d_mapUpdate (kt := 35) (et := 50) rfl H102 2 rfl nmK (by kernel_rfl) rfl (⟨(((P.getD i pr0).C).getD k ce0).x.cl, (((P.getD i pr0).C).getD k ce0).x.seq⟩ : NmD) rfl (⟨(((P.getD i pr0).C).getD k ce0).x.cl, (((P.getD i pr0).C).getD k ce0).x.seq, ((((P.getD i pr0).C).getD k ce0).x.h), timeD ((((P.getD i pr0).C).getD k ce0).S)⟩ : EntD) rfl ?_
                  intro w106 (H107 : Sat w [restC w (fun _ => False), cellC b2 27 ([(.int .i64 (ep)), (.int .u64 (tm)), (.slice pa P.length pc), (vo), (vt)] : List Value), mapC b6 nmV entV (putM M2 (⟨(((P.getD i pr0).C).getD k ce0).x.cl, (((P.getD i pr0).C).getD k ce0).x.seq⟩ : NmD) (⟨(((P.getD i pr0).C).getD k ce0).x.cl, (((P.getD i pr0).C).getD k ce0).x.seq, ((((P.getD i pr0).C).getD k ce0).x.h), timeD ((((P.getD i pr0).C).getD k ce0).S)⟩ : EntD)), cellC b23 33 ([(.int .i64 ((P.getD i pr0).r)), (.int .i64 ((P.getD i pr0).e)), (.int .u64 ((P.getD i pr0).f)), (.slice (P.getD i pr0).ca ((P.getD i pr0).C).length (P.getD i pr0).cc), (.int .i64 ((P.getD i pr0).sb)), (.int .i64 ((P.getD i pr0).sm))] : List Value), cellC b44 42 (([(.int .i64 ((((P.getD i pr0).C).getD k ce0).x.cl)), (.int .i64 ((((P.getD i pr0).C).getD k ce0).x.seq))] : List Value) ++ hc (((P.getD i pr0).C).getD k ce0).x.h ++ ([(.int .i64 ((((P.getD i pr0).C).getD k ce0).x.len)), (.int .i64 ((((P.getD i pr0).C).getD k ce0).x.sb)), (.int .i64 ((((P.getD i pr0).C).getD k ce0).x.sm)), (.slice (((P.getD i pr0).C).getD k ce0).sa ((((P.getD i pr0).C).getD k ce0).S).length (((P.getD i pr0).C).getD k ce0).sc)] : List Value)), cellC b60 50 (([(.int .i64 ((((P.getD i pr0).C).getD k ce0).x.cl)), (.int .i64 ((((P.getD i pr0).C).getD k ce0).x.seq))] : List Value) ++ hc (((P.getD i pr0).C).getD k ce0).x.h ++ ([(.int .u64 (timeD ((((P.getD i pr0).C).getD k ce0).S)))] : List Value)), cellC b84 50 (([(.int .i64 (((lookM M2 (⟨(((P.getD i pr0).C).getD k ce0).x.cl, (((P.getD i pr0).C).getD k ce0).x.seq⟩ : NmD)).getD ent0).cl)), (.int .i64 (((lookM M2 (⟨(((P.getD i pr0).C).getD k ce0).x.cl, (((P.getD i pr0).C).getD k ce0).x.seq⟩ : NmD)).getD ent0).sq))] : List Value) ++ hc ((lookM M2 (⟨(((P.getD i pr0).C).getD k ce0).x.cl, (((P.getD i pr0).C).getD k ce0).x.seq⟩ : NmD)).getD ent0).h ++ ([(.int .u64 (((lookM M2 (⟨(((P.getD i pr0).C).getD k ce0).x.cl, (((P.getD i pr0).C).getD k ce0).x.seq⟩ : NmD)).getD ent0).t))] : List Value))] w106)
                  refine hK105 _ _ ?_
                  clear hK105 K105
                  refine w_nil ?_
                  refine blk_normal ?_
                  refine then_normal ?_
                  refine w_lit ?_
                  refine wl_pure (wants0 rfl) (d := 77) (v := (.int .i64 ((k : Int) + 1))) rfl (e_int (z := (k : Int) + 1) (by kernel_rfl) (IntWalk.i64_in _ (by omega))) ?_
                  refine wl_pure (wants0 rfl) (d := 29) (v := (.int .i64 ((k : Int) + 1))) rfl (by kernel_rfl) ?_
                  refine w_nil ?_
                  have H108 : Sat w [restC w (fun _ => False), cellC b2 27 ([(.int .i64 (ep)), (.int .u64 (tm)), (.slice pa P.length pc), (vo), (vt)] : List Value), mapC b6 nmV entV (putM M2 (⟨(((P.getD i pr0).C).getD k ce0).x.cl, (((P.getD i pr0).C).getD k ce0).x.seq⟩ : NmD) (⟨(((P.getD i pr0).C).getD k ce0).x.cl, (((P.getD i pr0).C).getD k ce0).x.seq, ((((P.getD i pr0).C).getD k ce0).x.h), timeD ((((P.getD i pr0).C).getD k ce0).S)⟩ : EntD)), cellC b23 33 ([(.int .i64 ((P.getD i pr0).r)), (.int .i64 ((P.getD i pr0).e)), (.int .u64 ((P.getD i pr0).f)), (.slice (P.getD i pr0).ca ((P.getD i pr0).C).length (P.getD i pr0).cc), (.int .i64 ((P.getD i pr0).sb)), (.int .i64 ((P.getD i pr0).sm))] : List Value)] w106 := H107.pick [0, 1, 2, 3] (by decide)
                  refine round_back ?_ _ ⟨(k + 1), (putM M2 (⟨(((P.getD i pr0).C).getD k ce0).x.cl, (((P.getD i pr0).C).getD k ce0).x.seq⟩ : NmD) (⟨(((P.getD i pr0).C).getD k ce0).x.cl, (((P.getD i pr0).C).getD k ce0).x.seq, ((((P.getD i pr0).C).getD k ce0).x.h), timeD ((((P.getD i pr0).C).getD k ce0).S)⟩ : EntD)), (show ((.int .i64 ((k : Int) + 1)) : Value) = _ by first | rfl | go_num), (by omega), (runE_more hM2 (by omega) (step_yes (skip0 hlg b69 b75 b81) (by have q := b91; simpa using q) b104)), H108, rfl⟩ (by omega)
                  exact (same_upd rfl (same_upd rfl (same_upd rfl (same_upd rfl (same_upd rfl (same_upd rfl (same_upd rfl (same_upd rfl (same_upd rfl (same_upd rfl (same_upd rfl (same_upd rfl (same_upd rfl (same_upd rfl (same_upd rfl (same_upd rfl (same_upd rfl (same_upd rfl (same_upd rfl (same_upd rfl (same_upd rfl (same_upd rfl (same_upd rfl (same_upd rfl (same_upd rfl (same_upd rfl (same_upd rfl (same_upd rfl (same_upd rfl (same_upd rfl (same_upd rfl (same_upd rfl (same_upd rfl (same_upd rfl (same_upd rfl (same_upd rfl (same_upd rfl (same_upd rfl (same_upd rfl (same_upd rfl (same_upd rfl (same_upd rfl (same_upd rfl (same_upd rfl (same_upd rfl (same_upd rfl (same_upd rfl (same_upd rfl (same_upd rfl (same_upd rfl (same_upd rfl (same_upd rfl (same_upd rfl (same_upd rfl (same_upd rfl (same_upd rfl (same_upd rfl (same_upd rfl (same_upd rfl (same_upd rfl (same_ovr)))))))))))))))))))))))))))))))))))))))))))))))))))))))))))))
                · refine wp_know 72 (.bool false) (congrArg Value.bool b104) ?_
                  refine wp_iff rfl ?_
                  refine w_skip ?_
                  refine blk_normal ?_
                  refine then_normal ?_
                  refine w_lit ?_
                  refine wl_pure (wants0 rfl) (d := 77) (v := (.int .i64 ((k : Int) + 1))) rfl (e_int (z := (k : Int) + 1) (by kernel_rfl) (IntWalk.i64_in _ (by omega))) ?_
                  refine wl_pure (wants0 rfl) (d := 29) (v := (.int .i64 ((k : Int) + 1))) rfl (by kernel_rfl) ?_
                  refine w_nil ?_
                  have H109 : Sat w [restC w (fun _ => False), cellC b2 27 ([(.int .i64 (ep)), (.int .u64 (tm)), (.slice pa P.length pc), (vo), (vt)] : List Value), mapC b6 nmV entV M2, cellC b23 33 ([(.int .i64 ((P.getD i pr0).r)), (.int .i64 ((P.getD i pr0).e)), (.int .u64 ((P.getD i pr0).f)), (.slice (P.getD i pr0).ca ((P.getD i pr0).C).length (P.getD i pr0).cc), (.int .i64 ((P.getD i pr0).sb)), (.int .i64 ((P.getD i pr0).sm))] : List Value)] w101 := H102.pick [0, 1, 2, 3] (by decide)
                  refine round_back ?_ _ ⟨(k + 1), M2, (show ((.int .i64 ((k : Int) + 1)) : Value) = _ by first | rfl | go_num), (by omega), (runE_more hM2 (by omega) (step_no (skip0 hlg b69 b75 b81) (by have q := b91; simpa using q) b104)), H109, rfl⟩ (by omega)
                  exact (same_upd rfl (same_upd rfl (same_upd rfl (same_upd rfl (same_upd rfl (same_upd rfl (same_upd rfl (same_upd rfl (same_upd rfl (same_upd rfl (same_upd rfl (same_upd rfl (same_upd rfl (same_upd rfl (same_upd rfl (same_upd rfl (same_upd rfl (same_upd rfl (same_upd rfl (same_upd rfl (same_upd rfl (same_upd rfl (same_upd rfl (same_upd rfl (same_upd rfl (same_upd rfl (same_upd rfl (same_upd rfl (same_upd rfl (same_upd rfl (same_upd rfl (same_upd rfl (same_upd rfl (same_upd rfl (same_upd rfl (same_upd rfl (same_upd rfl (same_upd rfl (same_upd rfl (same_upd rfl (same_upd rfl (same_upd rfl (same_upd rfl (same_upd rfl (same_upd rfl (same_upd rfl (same_upd rfl (same_upd rfl (same_upd rfl (same_upd rfl (same_upd rfl (same_upd rfl (same_upd rfl (same_upd rfl (same_upd rfl (same_upd rfl (same_ovr)))))))))))))))))))))))))))))))))))))))))))))))))))))))))
      · refine d_alloc (zs := (([(.int .i64 (0)), (.int .i64 (0))] : List Value) ++ hc hash0 ++ ([(.int .u64 (0))] : List Value))) (z := (.agg ⟨(([(.int .i64 (0)), (.int .i64 (0))] : List Value) ++ hc hash0 ++ ([(.int .u64 (0))] : List Value))⟩)) rfl H52 (by kernel_rfl) (by kernel_rfl) ?_
        intro b110 w111 (H112 : Sat w [restC w (fun _ => False), cellC b2 27 ([(.int .i64 (ep)), (.int .u64 (tm)), (.slice pa P.length pc), (vo), (vt)] : List Value), mapC b6 nmV entV M2, cellC b23 33 ([(.int .i64 ((P.getD i pr0).r)), (.int .i64 ((P.getD i pr0).e)), (.int .u64 ((P.getD i pr0).f)), (.slice (P.getD i pr0).ca ((P.getD i pr0).C).length (P.getD i pr0).cc), (.int .i64 ((P.getD i pr0).sb)), (.int .i64 ((P.getD i pr0).sm))] : List Value), cellC b44 42 (([(.int .i64 ((((P.getD i pr0).C).getD k ce0).x.cl)), (.int .i64 ((((P.getD i pr0).C).getD k ce0).x.seq))] : List Value) ++ hc (((P.getD i pr0).C).getD k ce0).x.h ++ ([(.int .i64 ((((P.getD i pr0).C).getD k ce0).x.len)), (.int .i64 ((((P.getD i pr0).C).getD k ce0).x.sb)), (.int .i64 ((((P.getD i pr0).C).getD k ce0).x.sm)), (.slice (((P.getD i pr0).C).getD k ce0).sa ((((P.getD i pr0).C).getD k ce0).S).length (((P.getD i pr0).C).getD k ce0).sc)] : List Value)), cellC b110 50 (([(.int .i64 (0)), (.int .i64 (0))] : List Value) ++ hc hash0 ++ ([(.int .u64 (0))] : List Value))] w111)
        have S113 := H112.pick [0, 1, 2, 3, 4] (by decide)
        refine hK54 _ _ S113 ?_
        clear hK54 K54
        refine h_do 7 rfl (by kernel_rfl) (wants0 rfl) (fun K114 hK114 => ?_)
        refine d_call (d := 40) rfl (by kernel_rfl) (wTime_any w111 (((P.getD i pr0).C).getD k ce0).x (((P.getD i pr0).C).getD k ce0).sa (((P.getD i pr0).C).getD k ce0).sc ((((P.getD i pr0).C).getD k ce0).S) (ListAt.now H112 0 rfl (ceOk_at hPo (i := i) (k := k) (by omega) (by omega))) (hsm.at (i := i) (k := k) (by omega) (by omega)).2.1) ?_
        rintro _ w115 ⟨rfl, u117⟩
        have H116 := H112.keepU u117
        refine ⟨_, rfl, ?_⟩
        have S118 := H116.pick [0, 1, 2, 3, 4] (by decide)
        refine hK114 _ _ S118 ?_
        clear hK114 K114
        refine h_val 8 rfl (by kernel_rfl) (by kernel_rfl) (by kernel_rfl) (fun _ _ _ h => h) S118 (wants0 rfl) (d := 41) (v := (.agg ⟨(([(.int .i64 ((((P.getD i pr0).C).getD k ce0).x.cl)), (.int .i64 ((((P.getD i pr0).C).getD k ce0).x.seq))] : List Value) ++ hc (((P.getD i pr0).C).getD k ce0).x.h ++ ([(.int .u64 (timeD ((((P.getD i pr0).C).getD k ce0).S)))] : List Value))⟩)) rfl (fun _ H' => (by kernel_rfl)) ?_
        refine h_do 10 rfl (by kernel_rfl) (wants0 rfl) (fun K119 hK119 => ?_)
        refine d_storeX (vs := (([(.int .i64 ((((P.getD i pr0).C).getD k ce0).x.cl)), (.int .i64 ((((P.getD i pr0).C).getD k ce0).x.seq))] : List Value) ++ hc (((P.getD i pr0).C).getD k ce0).x.h ++ ([(.int .u64 (timeD ((((P.getD i pr0).C).getD k ce0).S)))] : List Value))) (cs' := (([(.int .i64 ((((P.getD i pr0).C).getD k ce0).x.cl)), (.int .i64 ((((P.getD i pr0).C).getD k ce0).x.seq))] : List Value) ++ hc (((P.getD i pr0).C).getD k ce0).x.h ++ ([(.int .u64 (timeD ((((P.getD i pr0).C).getD k ce0).S)))] : List Value))) rfl H116 5 rfl rfl rfl rfl (by kernel_rfl) (Nat.le_of_ble_eq_true (by kernel_rfl)) (Nat.le_of_ble_eq_true (by kernel_rfl)) (by kernel_rfl) (by kernel_rfl) ?_
        intro w120 (H121 : Sat w [restC w (fun _ => False), cellC b2 27 ([(.int .i64 (ep)), (.int .u64 (tm)), (.slice pa P.length pc), (vo), (vt)] : List Value), mapC b6 nmV entV M2, cellC b23 33 ([(.int .i64 ((P.getD i pr0).r)), (.int .i64 ((P.getD i pr0).e)), (.int .u64 ((P.getD i pr0).f)), (.slice (P.getD i pr0).ca ((P.getD i pr0).C).length (P.getD i pr0).cc), (.int .i64 ((P.getD i pr0).sb)), (.int .i64 ((P.getD i pr0).sm))] : List Value), cellC b44 42 (([(.int .i64 ((((P.getD i pr0).C).getD k ce0).x.cl)), (.int .i64 ((((P.getD i pr0).C).getD k ce0).x.seq))] : List Value) ++ hc (((P.getD i pr0).C).getD k ce0).x.h ++ ([(.int .i64 ((((P.getD i pr0).C).getD k ce0).x.len)), (.int .i64 ((((P.getD i pr0).C).getD k ce0).x.sb)), (.int .i64 ((((P.getD i pr0).C).getD k ce0).x.sm)), (.slice (((P.getD i pr0).C).getD k ce0).sa ((((P.getD i pr0).C).getD k ce0).S).length (((P.getD i pr0).C).getD k ce0).sc)] : List Value)), cellC b110 50 (([(.int .i64 ((((P.getD i pr0).C).getD k ce0).x.cl)), (.int .i64 ((((P.getD i pr0).C).getD k ce0).x.seq))] : List Value) ++ hc (((P.getD i pr0).C).getD k ce0).x.h ++ ([(.int .u64 (timeD ((((P.getD i pr0).C).getD k ce0).S)))] : List Value))] w120)
        have S123 := H121.pick [0, 1, 2, 3, 4] (by decide)
        refine hK119 _ _ S123 ?_
        clear hK119 K119
        refine h_fin (by kernel_rfl) ?_
        refine then_normal ?_
        refine w_seq ?_
        refine w_seq ?_
        refine w_lit ?_
        refine wl_pure (wants0 rfl) (d := 42) (v := (.pointer (some ⟨b110, 34, none⟩))) rfl (by kernel_rfl) ?_
        refine wl_pure (wants0 rfl) (d := 43) (v := (.int .u64 (timeD ((((P.getD i pr0).C).getD k ce0).S)))) rfl (e_load1 rfl (by kernel_rfl) (H121.cell 5 rfl (by kernel_rfl))) ?_
        refine wl_pure (wants0 rfl) (d := 44) (v := (.int .u64 (last))) rfl (by kernel_rfl) ?_
        refine wl_pure (wants0 rfl) (d := 45) (v := (.bool (decide ((timeD ((((P.getD i pr0).C).getD k ce0).S)) ≤ last)))) rfl (by kernel_rfl) ?_
        refine wl_pure (wants0 rfl) (d := 46) (v := (.bool (decide ((timeD ((((P.getD i pr0).C).getD k ce0).S)) ≤ last)))) rfl (by kernel_rfl) ?_
        refine (bsplit (decide ((timeD ((((P.getD i pr0).C).getD k ce0).S)) ≤ last))).elim (fun b124 => ?_) (fun b124 => ?_)
        · have g125 := of_decide_eq_true b124
          refine wl_know 46 (.bool true) (congrArg Value.bool b124) ?_
          have g126 := of_decide_eq_true b124
          refine wl_pass (wantsN 4 46 false rfl (by kernel_rfl) rfl (by kernel_rfl)) rfl ?_
          refine wl_pass (wantsN 4 46 false rfl (by kernel_rfl) rfl (by kernel_rfl)) rfl ?_
          refine wl_pass (wantsN 4 46 false rfl (by kernel_rfl) rfl (by kernel_rfl)) rfl ?_
          refine wl_pass (wantsN 4 46 false rfl (by kernel_rfl) rfl (by kernel_rfl)) rfl ?_
          refine wl_pass (wantsN 4 46 false rfl (by kernel_rfl) rfl (by kernel_rfl)) rfl ?_
          refine wl_pure (wants0 rfl) (d := 52) (v := (.bool true)) rfl (by kernel_rfl) ?_
          refine wl_pure (wants0 rfl) (d := 53) (v := (.bool true)) rfl (by kernel_rfl) ?_
          refine wl_pass (wantsN 11 53 false rfl (by kernel_rfl) rfl (by kernel_rfl)) rfl ?_
          refine wl_pass (wantsN 11 53 false rfl (by kernel_rfl) rfl (by kernel_rfl)) rfl ?_
          refine wl_pass (wantsN 11 53 false rfl (by kernel_rfl) rfl (by kernel_rfl)) rfl ?_
          refine wl_pass (wantsN 11 53 false rfl (by kernel_rfl) rfl (by kernel_rfl)) rfl ?_
          refine wl_pure (wants0 rfl) (d := 58) (v := (.bool true)) rfl (by kernel_rfl) ?_
          refine w_nil ?_
          refine then_normal ?_
          refine wp_ift rfl ?_
          refine w_exit ?_
          refine then_exit ?_
          refine blk_hit ?_
          refine then_normal ?_
          refine w_lit ?_
          refine wl_pure (wants0 rfl) (d := 77) (v := (.int .i64 ((k : Int) + 1))) rfl (e_int (z := (k : Int) + 1) (by kernel_rfl) (IntWalk.i64_in _ (by omega))) ?_
          refine wl_pure (wants0 rfl) (d := 29) (v := (.int .i64 ((k : Int) + 1))) rfl (by kernel_rfl) ?_
          refine w_nil ?_
          have H127 : Sat w [restC w (fun _ => False), cellC b2 27 ([(.int .i64 (ep)), (.int .u64 (tm)), (.slice pa P.length pc), (vo), (vt)] : List Value), mapC b6 nmV entV M2, cellC b23 33 ([(.int .i64 ((P.getD i pr0).r)), (.int .i64 ((P.getD i pr0).e)), (.int .u64 ((P.getD i pr0).f)), (.slice (P.getD i pr0).ca ((P.getD i pr0).C).length (P.getD i pr0).cc), (.int .i64 ((P.getD i pr0).sb)), (.int .i64 ((P.getD i pr0).sm))] : List Value)] w120 := H121.pick [0, 1, 2, 3] (by decide)
          refine round_back ?_ _ ⟨(k + 1), M2, (show ((.int .i64 ((k : Int) + 1)) : Value) = _ by first | rfl | go_num), (by omega), (runE_more hM2 (by omega) (stepE_skip (skip1 b124))), H127, rfl⟩ (by omega)
          exact (same_upd rfl (same_upd rfl (same_upd rfl (same_upd rfl (same_upd rfl (same_upd rfl (same_upd rfl (same_upd rfl (same_upd rfl (same_upd rfl (same_upd rfl (same_upd rfl (same_upd rfl (same_upd rfl (same_upd rfl (same_upd rfl (same_upd rfl (same_upd rfl (same_upd rfl (same_upd rfl (same_upd rfl (same_upd rfl (same_upd rfl (same_upd rfl (same_upd rfl (same_upd rfl (same_upd rfl (same_upd rfl (same_upd rfl (same_upd rfl (same_upd rfl (same_upd rfl (same_upd rfl (same_upd rfl (same_upd rfl (same_upd rfl (same_ovr)))))))))))))))))))))))))))))))))))))
        · have g128 := of_decide_eq_false b124
          refine wl_know 46 (.bool false) (congrArg Value.bool b124) ?_
          have g129 := of_decide_eq_false b124
          refine wl_pure (wantsY 4 46 false rfl (by kernel_rfl) rfl (by kernel_rfl)) (d := 47) (v := (.pointer (some ⟨b110, 34, none⟩))) rfl (by kernel_rfl) ?_
          refine wl_pure (wantsY 4 46 false rfl (by kernel_rfl) rfl (by kernel_rfl)) (d := 48) (v := (.int .u64 (timeD ((((P.getD i pr0).C).getD k ce0).S)))) rfl (e_load1 rfl (by kernel_rfl) (H121.cell 5 rfl (by kernel_rfl))) ?_
          refine wl_pure (wantsY 4 46 false rfl (by kernel_rfl) rfl (by kernel_rfl)) (d := 49) (v := (.pointer (some ⟨b2, 1, none⟩))) rfl (by kernel_rfl) ?_
          refine wl_pure (wantsY 4 46 false rfl (by kernel_rfl) rfl (by kernel_rfl)) (d := 50) (v := (.int .u64 (tm))) rfl (e_load1 rfl (by kernel_rfl) (H121.cell 1 rfl rfl)) ?_
          refine wl_pure (wantsY 4 46 false rfl (by kernel_rfl) rfl (by kernel_rfl)) (d := 51) (v := (.bool (decide ((timeD ((((P.getD i pr0).C).getD k ce0).S)) > tm)))) rfl (by kernel_rfl) ?_
          refine wl_pure (wants0 rfl) (d := 52) (v := (.bool (decide ((timeD ((((P.getD i pr0).C).getD k ce0).S)) > tm)))) rfl (by kernel_rfl) ?_
          refine wl_pure (wants0 rfl) (d := 53) (v := (.bool (decide ((timeD ((((P.getD i pr0).C).getD k ce0).S)) > tm)))) rfl (by kernel_rfl) ?_
          refine (bsplit (decide ((timeD ((((P.getD i pr0).C).getD k ce0).S)) > tm))).elim (fun b130 => ?_) (fun b130 => ?_)
          · have g131 := of_decide_eq_true b130
            refine wl_know 53 (.bool true) (congrArg Value.bool b130) ?_
            have g132 := of_decide_eq_true b130
            refine wl_pass (wantsN 11 53 false rfl (by kernel_rfl) rfl (by kernel_rfl)) rfl ?_
            refine wl_pass (wantsN 11 53 false rfl (by kernel_rfl) rfl (by kernel_rfl)) rfl ?_
            refine wl_pass (wantsN 11 53 false rfl (by kernel_rfl) rfl (by kernel_rfl)) rfl ?_
            refine wl_pass (wantsN 11 53 false rfl (by kernel_rfl) rfl (by kernel_rfl)) rfl ?_
            refine wl_pure (wants0 rfl) (d := 58) (v := (.bool true)) rfl (by kernel_rfl) ?_
            refine w_nil ?_
            refine then_normal ?_
            refine wp_ift rfl ?_
            refine w_exit ?_
            refine then_exit ?_
            refine blk_hit ?_
            refine then_normal ?_
            refine w_lit ?_
            refine wl_pure (wants0 rfl) (d := 77) (v := (.int .i64 ((k : Int) + 1))) rfl (e_int (z := (k : Int) + 1) (by kernel_rfl) (IntWalk.i64_in _ (by omega))) ?_
            refine wl_pure (wants0 rfl) (d := 29) (v := (.int .i64 ((k : Int) + 1))) rfl (by kernel_rfl) ?_
            refine w_nil ?_
            have H133 : Sat w [restC w (fun _ => False), cellC b2 27 ([(.int .i64 (ep)), (.int .u64 (tm)), (.slice pa P.length pc), (vo), (vt)] : List Value), mapC b6 nmV entV M2, cellC b23 33 ([(.int .i64 ((P.getD i pr0).r)), (.int .i64 ((P.getD i pr0).e)), (.int .u64 ((P.getD i pr0).f)), (.slice (P.getD i pr0).ca ((P.getD i pr0).C).length (P.getD i pr0).cc), (.int .i64 ((P.getD i pr0).sb)), (.int .i64 ((P.getD i pr0).sm))] : List Value)] w120 := H121.pick [0, 1, 2, 3] (by decide)
            refine round_back ?_ _ ⟨(k + 1), M2, (show ((.int .i64 ((k : Int) + 1)) : Value) = _ by first | rfl | go_num), (by omega), (runE_more hM2 (by omega) (stepE_skip (skip2 b130))), H133, rfl⟩ (by omega)
            exact (same_upd rfl (same_upd rfl (same_upd rfl (same_upd rfl (same_upd rfl (same_upd rfl (same_upd rfl (same_upd rfl (same_upd rfl (same_upd rfl (same_upd rfl (same_upd rfl (same_upd rfl (same_upd rfl (same_upd rfl (same_upd rfl (same_upd rfl (same_upd rfl (same_upd rfl (same_upd rfl (same_upd rfl (same_upd rfl (same_upd rfl (same_upd rfl (same_upd rfl (same_upd rfl (same_upd rfl (same_upd rfl (same_upd rfl (same_upd rfl (same_upd rfl (same_upd rfl (same_upd rfl (same_upd rfl (same_upd rfl (same_upd rfl (same_upd rfl (same_ovr))))))))))))))))))))))))))))))))))))))
          · have g134 := of_decide_eq_false b130
            refine wl_know 53 (.bool false) (congrArg Value.bool b130) ?_
            have g135 := of_decide_eq_false b130
            refine wl_pure (wantsY 11 53 false rfl (by kernel_rfl) rfl (by kernel_rfl)) (d := 54) (v := (.map (some lb))) rfl (by kernel_rfl) ?_
            refine wl_pure (wantsY 11 53 false rfl (by kernel_rfl) rfl (by kernel_rfl)) (d := 55) (v := (.pointer (some ⟨b110, 0, none⟩))) rfl (by kernel_rfl) ?_
            refine wl_pure (wantsY 11 53 false rfl (by kernel_rfl) rfl (by kernel_rfl)) (d := 56) (v := (.agg ⟨([(.int .i64 ((((P.getD i pr0).C).getD k ce0).x.cl)), (.int .i64 ((((P.getD i pr0).C).getD k ce0).x.seq))] : List Value)⟩)) rfl (e_loadN (vs := ([(.int .i64 ((((P.getD i pr0).C).getD k ce0).x.cl)), (.int .i64 ((((P.getD i pr0).C).getD k ce0).x.seq))] : List Value)) rfl (by kernel_rfl) (by kernel_rfl) (by exact Nat.le_of_ble_eq_true (by kernel_rfl)) (H121.at 5 rfl) (by kernel_rfl)) ?_
            refine wl_pure (wantsY 11 53 false rfl (by kernel_rfl) rfl (by kernel_rfl)) (d := 57) (v := (.bool ((lookM LM (⟨(((P.getD i pr0).C).getD k ce0).x.cl, (((P.getD i pr0).C).getD k ce0).x.seq⟩ : NmD)).getD false))) rfl (e_lookup (kt := 35) (et := 4) nmK (by kernel_rfl) (fun w => by kernel_rfl) rfl (⟨(((P.getD i pr0).C).getD k ce0).x.cl, (((P.getD i pr0).C).getD k ce0).x.seq⟩ : NmD) rfl (H121.roMap 0 rfl hLM (fun h => h)) (optD Value.bool _ _)) ?_
            refine wl_pure (wants0 rfl) (d := 58) (v := (.bool ((lookM LM (⟨(((P.getD i pr0).C).getD k ce0).x.cl, (((P.getD i pr0).C).getD k ce0).x.seq⟩ : NmD)).getD false))) rfl (by kernel_rfl) ?_
            refine w_nil ?_
            refine then_normal ?_
            refine (bsplit ((lookM LM (⟨(((P.getD i pr0).C).getD k ce0).x.cl, (((P.getD i pr0).C).getD k ce0).x.seq⟩ : NmD)).getD false)).elim (fun b136 => ?_) (fun b136 => ?_)
            · refine wp_know 58 (.bool true) (congrArg Value.bool b136) ?_
              refine wp_ift rfl ?_
              refine w_exit ?_
              refine then_exit ?_
              refine blk_hit ?_
              refine then_normal ?_
              refine w_lit ?_
              refine wl_pure (wants0 rfl) (d := 77) (v := (.int .i64 ((k : Int) + 1))) rfl (e_int (z := (k : Int) + 1) (by kernel_rfl) (IntWalk.i64_in _ (by omega))) ?_
              refine wl_pure (wants0 rfl) (d := 29) (v := (.int .i64 ((k : Int) + 1))) rfl (by kernel_rfl) ?_
              refine w_nil ?_
              have H137 : Sat w [restC w (fun _ => False), cellC b2 27 ([(.int .i64 (ep)), (.int .u64 (tm)), (.slice pa P.length pc), (vo), (vt)] : List Value), mapC b6 nmV entV M2, cellC b23 33 ([(.int .i64 ((P.getD i pr0).r)), (.int .i64 ((P.getD i pr0).e)), (.int .u64 ((P.getD i pr0).f)), (.slice (P.getD i pr0).ca ((P.getD i pr0).C).length (P.getD i pr0).cc), (.int .i64 ((P.getD i pr0).sb)), (.int .i64 ((P.getD i pr0).sm))] : List Value)] w120 := H121.pick [0, 1, 2, 3] (by decide)
              refine round_back ?_ _ ⟨(k + 1), M2, (show ((.int .i64 ((k : Int) + 1)) : Value) = _ by first | rfl | go_num), (by omega), (runE_more hM2 (by omega) (stepE_skip (skip3 hlg b136))), H137, rfl⟩ (by omega)
              exact (same_upd rfl (same_upd rfl (same_upd rfl (same_upd rfl (same_upd rfl (same_upd rfl (same_upd rfl (same_upd rfl (same_upd rfl (same_upd rfl (same_upd rfl (same_upd rfl (same_upd rfl (same_upd rfl (same_upd rfl (same_upd rfl (same_upd rfl (same_upd rfl (same_upd rfl (same_upd rfl (same_upd rfl (same_upd rfl (same_upd rfl (same_upd rfl (same_upd rfl (same_upd rfl (same_upd rfl (same_upd rfl (same_upd rfl (same_upd rfl (same_upd rfl (same_upd rfl (same_upd rfl (same_upd rfl (same_upd rfl (same_upd rfl (same_upd rfl (same_upd rfl (same_ovr)))))))))))))))))))))))))))))))))))))))
            · refine wp_know 58 (.bool false) (congrArg Value.bool b136) ?_
              refine wp_iff rfl ?_
              refine w_skip ?_
              refine then_normal ?_
              refine w_seq ?_
              refine w_lit ?_
              refine wl_pure (wants0 rfl) (d := 60) (v := (.map (some b6))) rfl (by kernel_rfl) ?_
              refine wl_pure (wants0 rfl) (d := 61) (v := (.pointer (some ⟨b110, 0, none⟩))) rfl (by kernel_rfl) ?_
              refine wl_pure (wants0 rfl) (d := 62) (v := (.agg ⟨([(.int .i64 ((((P.getD i pr0).C).getD k ce0).x.cl)), (.int .i64 ((((P.getD i pr0).C).getD k ce0).x.seq))] : List Value)⟩)) rfl (e_loadN (vs := ([(.int .i64 ((((P.getD i pr0).C).getD k ce0).x.cl)), (.int .i64 ((((P.getD i pr0).C).getD k ce0).x.seq))] : List Value)) rfl (by kernel_rfl) (by kernel_rfl) (by exact Nat.le_of_ble_eq_true (by kernel_rfl)) (H121.at 5 rfl) (by kernel_rfl)) ?_
              refine wl_pure (wants0 rfl) (d := 63) (v := (.tuple #[(.agg ⟨(([(.int .i64 (((lookM M2 (⟨(((P.getD i pr0).C).getD k ce0).x.cl, (((P.getD i pr0).C).getD k ce0).x.seq⟩ : NmD)).getD ent0).cl)), (.int .i64 (((lookM M2 (⟨(((P.getD i pr0).C).getD k ce0).x.cl, (((P.getD i pr0).C).getD k ce0).x.seq⟩ : NmD)).getD ent0).sq))] : List Value) ++ hc ((lookM M2 (⟨(((P.getD i pr0).C).getD k ce0).x.cl, (((P.getD i pr0).C).getD k ce0).x.seq⟩ : NmD)).getD ent0).h ++ ([(.int .u64 (((lookM M2 (⟨(((P.getD i pr0).C).getD k ce0).x.cl, (((P.getD i pr0).C).getD k ce0).x.seq⟩ : NmD)).getD ent0).t))] : List Value))⟩), (.bool ((lookM M2 (⟨(((P.getD i pr0).C).getD k ce0).x.cl, (((P.getD i pr0).C).getD k ce0).x.seq⟩ : NmD)).isSome))])) rfl (e_lookup2 (kt := 35) (et := 50) nmK (by kernel_rfl) zeroEn rfl (⟨(((P.getD i pr0).C).getD k ce0).x.cl, (((P.getD i pr0).C).getD k ce0).x.seq⟩ : NmD) rfl (H121.at 2 rfl) (optD entV _ _) rfl) ?_
              refine wl_pure (wants0 rfl) (d := 59) (v := (.tuple #[(.agg ⟨(([(.int .i64 (((lookM M2 (⟨(((P.getD i pr0).C).getD k ce0).x.cl, (((P.getD i pr0).C).getD k ce0).x.seq⟩ : NmD)).getD ent0).cl)), (.int .i64 (((lookM M2 (⟨(((P.getD i pr0).C).getD k ce0).x.cl, (((P.getD i pr0).C).getD k ce0).x.seq⟩ : NmD)).getD ent0).sq))] : List Value) ++ hc ((lookM M2 (⟨(((P.getD i pr0).C).getD k ce0).x.cl, (((P.getD i pr0).C).getD k ce0).x.seq⟩ : NmD)).getD ent0).h ++ ([(.int .u64 (((lookM M2 (⟨(((P.getD i pr0).C).getD k ce0).x.cl, (((P.getD i pr0).C).getD k ce0).x.seq⟩ : NmD)).getD ent0).t))] : List Value))⟩), (.bool ((lookM M2 (⟨(((P.getD i pr0).C).getD k ce0).x.cl, (((P.getD i pr0).C).getD k ce0).x.seq⟩ : NmD)).isSome))])) rfl (by kernel_rfl) ?_
              refine wl_pure (wants0 rfl) (d := 64) (v := (.agg ⟨(([(.int .i64 (((lookM M2 (⟨(((P.getD i pr0).C).getD k ce0).x.cl, (((P.getD i pr0).C).getD k ce0).x.seq⟩ : NmD)).getD ent0).cl)), (.int .i64 (((lookM M2 (⟨(((P.getD i pr0).C).getD k ce0).x.cl, (((P.getD i pr0).C).getD k ce0).x.seq⟩ : NmD)).getD ent0).sq))] : List Value) ++ hc ((lookM M2 (⟨(((P.getD i pr0).C).getD k ce0).x.cl, (((P.getD i pr0).C).getD k ce0).x.seq⟩ : NmD)).getD ent0).h ++ ([(.int .u64 (((lookM M2 (⟨(((P.getD i pr0).C).getD k ce0).x.cl, (((P.getD i pr0).C).getD k ce0).x.seq⟩ : NmD)).getD ent0).t))] : List Value))⟩)) rfl (by kernel_rfl) ?_
              refine wl_pure (wants0 rfl) (d := 65) (v := (.bool ((lookM M2 (⟨(((P.getD i pr0).C).getD k ce0).x.cl, (((P.getD i pr0).C).getD k ce0).x.seq⟩ : NmD)).isSome))) rfl (by kernel_rfl) ?_
              refine wl_do (wants0 rfl) (fun K138 hK138 => ?_)
              refine d_alloc (zs := (([(.int .i64 (0)), (.int .i64 (0))] : List Value) ++ hc hash0 ++ ([(.int .u64 (0))] : List Value))) (z := (.agg ⟨(([(.int .i64 (0)), (.int .i64 (0))] : List Value) ++ hc hash0 ++ ([(.int .u64 (0))] : List Value))⟩)) rfl H121 (by kernel_rfl) (by kernel_rfl) ?_
              intro b139 w140 (H141 : Sat w [restC w (fun _ => False), cellC b2 27 ([(.int .i64 (ep)), (.int .u64 (tm)), (.slice pa P.length pc), (vo), (vt)] : List Value), mapC b6 nmV entV M2, cellC b23 33 ([(.int .i64 ((P.getD i pr0).r)), (.int .i64 ((P.getD i pr0).e)), (.int .u64 ((P.getD i pr0).f)), (.slice (P.getD i pr0).ca ((P.getD i pr0).C).length (P.getD i pr0).cc), (.int .i64 ((P.getD i pr0).sb)), (.int .i64 ((P.getD i pr0).sm))] : List Value), cellC b44 42 (([(.int .i64 ((((P.getD i pr0).C).getD k ce0).x.cl)), (.int .i64 ((((P.getD i pr0).C).getD k ce0).x.seq))] : List Value) ++ hc (((P.getD i pr0).C).getD k ce0).x.h ++ ([(.int .i64 ((((P.getD i pr0).C).getD k ce0).x.len)), (.int .i64 ((((P.getD i pr0).C).getD k ce0).x.sb)), (.int .i64 ((((P.getD i pr0).C).getD k ce0).x.sm)), (.slice (((P.getD i pr0).C).getD k ce0).sa ((((P.getD i pr0).C).getD k ce0).S).length (((P.getD i pr0).C).getD k ce0).sc)] : List Value)), cellC b110 50 (([(.int .i64 ((((P.getD i pr0).C).getD k ce0).x.cl)), (.int .i64 ((((P.getD i pr0).C).getD k ce0).x.seq))] : List Value) ++ hc (((P.getD i pr0).C).getD k ce0).x.h ++ ([(.int .u64 (timeD ((((P.getD i pr0).C).getD k ce0).S)))] : List Value)), cellC b139 50 (([(.int .i64 (0)), (.int .i64 (0))] : List Value) ++ hc hash0 ++ ([(.int .u64 (0))] : List Value))] w140)
              refine hK138 _ _ ?_
              clear hK138 K138
              refine wl_do (wants0 rfl) (fun K142 hK142 => ?_)
              refine d_storeX (vs := (([(.int .i64 (((lookM M2 (⟨(((P.getD i pr0).C).getD k ce0).x.cl, (((P.getD i pr0).C).getD k ce0).x.seq⟩ : NmD)).getD ent0).cl)), (.int .i64 (((lookM M2 (⟨(((P.getD i pr0).C).getD k ce0).x.cl, (((P.getD i pr0).C).getD k ce0).x.seq⟩ : NmD)).getD ent0).sq))] : List Value) ++ hc ((lookM M2 (⟨(((P.getD i pr0).C).getD k ce0).x.cl, (((P.getD i pr0).C).getD k ce0).x.seq⟩ : NmD)).getD ent0).h ++ ([(.int .u64 (((lookM M2 (⟨(((P.getD i pr0).C).getD k ce0).x.cl, (((P.getD i pr0).C).getD k ce0).x.seq⟩ : NmD)).getD ent0).t))] : List Value))) (cs' := (([(.int .i64 (((lookM M2 (⟨(((P.getD i pr0).C).getD k ce0).x.cl, (((P.getD i pr0).C).getD k ce0).x.seq⟩ : NmD)).getD ent0).cl)), (.int .i64 (((lookM M2 (⟨(((P.getD i pr0).C).getD k ce0).x.cl, (((P.getD i pr0).C).getD k ce0).x.seq⟩ : NmD)).getD ent0).sq))] : List Value) ++ hc ((lookM M2 (⟨(((P.getD i pr0).C).getD k ce0).x.cl, (((P.getD i pr0).C).getD k ce0).x.seq⟩ : NmD)).getD ent0).h ++ ([(.int .u64 (((lookM M2 (⟨(((P.getD i pr0).C).getD k ce0).x.cl, (((P.getD i pr0).C).getD k ce0).x.seq⟩ : NmD)).getD ent0).t))] : List Value))) rfl H141 6 rfl rfl rfl rfl (by kernel_rfl) (Nat.le_of_ble_eq_true (by kernel_rfl)) (Nat.le_of_ble_eq_true (by kernel_rfl)) (by kernel_rfl) (by kernel_rfl) ?_
              intro w143 (H144 : Sat w [restC w (fun _ => False), cellC b2 27 ([(.int .i64 (ep)), (.int .u64 (tm)), (.slice pa P.length pc), (vo), (vt)] : List Value), mapC b6 nmV entV M2, cellC b23 33 ([(.int .i64 ((P.getD i pr0).r)), (.int .i64 ((P.getD i pr0).e)), (.int .u64 ((P.getD i pr0).f)), (.slice (P.getD i pr0).ca ((P.getD i pr0).C).length (P.getD i pr0).cc), (.int .i64 ((P.getD i pr0).sb)), (.int .i64 ((P.getD i pr0).sm))] : List Value), cellC b44 42 (([(.int .i64 ((((P.getD i pr0).C).getD k ce0).x.cl)), (.int .i64 ((((P.getD i pr0).C).getD k ce0).x.seq))] : List Value) ++ hc (((P.getD i pr0).C).getD k ce0).x.h ++ ([(.int .i64 ((((P.getD i pr0).C).getD k ce0).x.len)), (.int .i64 ((((P.getD i pr0).C).getD k ce0).x.sb)), (.int .i64 ((((P.getD i pr0).C).getD k ce0).x.sm)), (.slice (((P.getD i pr0).C).getD k ce0).sa ((((P.getD i pr0).C).getD k ce0).S).length (((P.getD i pr0).C).getD k ce0).sc)] : List Value)), cellC b110 50 (([(.int .i64 ((((P.getD i pr0).C).getD k ce0).x.cl)), (.int .i64 ((((P.getD i pr0).C).getD k ce0).x.seq))] : List Value) ++ hc (((P.getD i pr0).C).getD k ce0).x.h ++ ([(.int .u64 (timeD ((((P.getD i pr0).C).getD k ce0).S)))] : List Value)), cellC b139 50 (([(.int .i64 (((lookM M2 (⟨(((P.getD i pr0).C).getD k ce0).x.cl, (((P.getD i pr0).C).getD k ce0).x.seq⟩ : NmD)).getD ent0).cl)), (.int .i64 (((lookM M2 (⟨(((P.getD i pr0).C).getD k ce0).x.cl, (((P.getD i pr0).C).getD k ce0).x.seq⟩ : NmD)).getD ent0).sq))] : List Value) ++ hc ((lookM M2 (⟨(((P.getD i pr0).C).getD k ce0).x.cl, (((P.getD i pr0).C).getD k ce0).x.seq⟩ : NmD)).getD ent0).h ++ ([(.int .u64 (((lookM M2 (⟨(((P.getD i pr0).C).getD k ce0).x.cl, (((P.getD i pr0).C).getD k ce0).x.seq⟩ : NmD)).getD ent0).t))] : List Value))] w143)
              refine hK142 _ _ ?_
              clear hK142 K142
              refine wl_pure (wants0 rfl) (d := 14) (v := (.bool ((lookM M2 (⟨(((P.getD i pr0).C).getD k ce0).x.cl, (((P.getD i pr0).C).getD k ce0).x.seq⟩ : NmD)).isSome))) rfl (by kernel_rfl) ?_
              refine w_nil ?_
              refine then_normal ?_
              refine w_seq ?_
              refine w_lit ?_
              refine wl_pure (wants0 rfl) (d := 66) (v := (.bool ((lookM M2 (⟨(((P.getD i pr0).C).getD k ce0).x.cl, (((P.getD i pr0).C).getD k ce0).x.seq⟩ : NmD)).isSome))) rfl (by kernel_rfl) ?_
              refine wl_pure (wants0 rfl) (d := 67) (v := (.bool (!((lookM M2 (⟨(((P.getD i pr0).C).getD k ce0).x.cl, (((P.getD i pr0).C).getD k ce0).x.seq⟩ : NmD)).isSome)))) rfl (by kernel_rfl) ?_
              refine wl_pure (wants0 rfl) (d := 68) (v := (.bool (!((lookM M2 (⟨(((P.getD i pr0).C).getD k ce0).x.cl, (((P.getD i pr0).C).getD k ce0).x.seq⟩ : NmD)).isSome)))) rfl (by kernel_rfl) ?_
              refine (bsplit (!((lookM M2 (⟨(((P.getD i pr0).C).getD k ce0).x.cl, (((P.getD i pr0).C).getD k ce0).x.seq⟩ : NmD)).isSome))).elim (fun b146 => ?_) (fun b146 => ?_)
              · have g147 := bnot_true b146
                refine wl_know 68 (.bool true) (congrArg Value.bool b146) ?_
                have g148 := bnot_true b146
                refine wl_pass (wantsN 2 68 false rfl (by kernel_rfl) rfl (by kernel_rfl)) rfl ?_
                refine wl_pass (wantsN 2 68 false rfl (by kernel_rfl) rfl (by kernel_rfl)) rfl ?_
                refine wl_pass (wantsN 2 68 false rfl (by kernel_rfl) rfl (by kernel_rfl)) rfl ?_
                refine wl_pure (wants0 rfl) (d := 72) (v := (.bool true)) rfl (by kernel_rfl) ?_
                refine w_nil ?_
                refine then_normal ?_
                refine wp_ift rfl ?_
                refine w_lit ?_
                refine wl_pure (wants0 rfl) (d := 73) (v := (.map (some b6))) rfl (by kernel_rfl) ?_
                refine wl_pure (wants0 rfl) (d := 74) (v := (.pointer (some ⟨b110, 0, none⟩))) rfl (by kernel_rfl) ?_
                refine wl_pure (wants0 rfl) (d := 75) (v := (.agg ⟨([(.int .i64 ((((P.getD i pr0).C).getD k ce0).x.cl)), (.int .i64 ((((P.getD i pr0).C).getD k ce0).x.seq))] : List Value)⟩)) rfl (e_loadN (vs := ([(.int .i64 ((((P.getD i pr0).C).getD k ce0).x.cl)), (.int .i64 ((((P.getD i pr0).C).getD k ce0).x.seq))] : List Value)) rfl (by kernel_rfl) (by kernel_rfl) (by exact Nat.le_of_ble_eq_true (by kernel_rfl)) (H144.at 5 rfl) (by kernel_rfl)) ?_
                refine wl_pure (wants0 rfl) (d := 76) (v := (.agg ⟨(([(.int .i64 ((((P.getD i pr0).C).getD k ce0).x.cl)), (.int .i64 ((((P.getD i pr0).C).getD k ce0).x.seq))] : List Value) ++ hc (((P.getD i pr0).C).getD k ce0).x.h ++ ([(.int .u64 (timeD ((((P.getD i pr0).C).getD k ce0).S)))] : List Value))⟩)) rfl (e_loadN (vs := (([(.int .i64 ((((P.getD i pr0).C).getD k ce0).x.cl)), (.int .i64 ((((P.getD i pr0).C).getD k ce0).x.seq))] : List Value) ++ hc (((P.getD i pr0).C).getD k ce0).x.h ++ ([(.int .u64 (timeD ((((P.getD i pr0).C).getD k ce0).S)))] : List Value))) rfl (by kernel_rfl) (by kernel_rfl) (by exact Nat.le_of_ble_eq_true (by kernel_rfl)) (H144.at 5 rfl) (by kernel_rfl)) ?_
                refine wl_do (wants0 rfl) (fun K149 hK149 => ?_)
                refine d_mapUpdate (kt := 35) (et := 50) rfl H144 2 rfl nmK (by kernel_rfl) rfl (⟨(((P.getD i pr0).C).getD k ce0).x.cl, (((P.getD i pr0).C).getD k ce0).x.seq⟩ : NmD) rfl (⟨(((P.getD i pr0).C).getD k ce0).x.cl, (((P.getD i pr0).C).getD k ce0).x.seq, ((((P.getD i pr0).C).getD k ce0).x.h), timeD ((((P.getD i pr0).C).getD k ce0).S)⟩ : EntD) rfl ?_
                intro w150 (H151 : Sat w [restC w (fun _ => False), cellC b2 27 ([(.int .i64 (ep)), (.int .u64 (tm)), (.slice pa P.length pc), (vo), (vt)] : List Value), mapC b6 nmV entV (putM M2 (⟨(((P.getD i pr0).C).getD k ce0).x.cl, (((P.getD i pr0).C).getD k ce0).x.seq⟩ : NmD) (⟨(((P.getD i pr0).C).getD k ce0).x.cl, (((P.getD i pr0).C).getD k ce0).x.seq, ((((P.getD i pr0).C).getD k ce0).x.h), timeD ((((P.getD i pr0).C).getD k ce0).S)⟩ : EntD)), cellC b23 33 ([(.int .i64 ((P.getD i pr0).r)), (.int .i64 ((P.getD i pr0).e)), (.int .u64 ((P.getD i pr0).f)), (.slice (P.getD i pr0).ca ((P.getD i pr0).C).length (P.getD i pr0).cc), (.int .i64 ((P.getD i pr0).sb)), (.int .i64 ((P.getD i pr0).sm))] : List Value), cellC b44 42 (([(.int .i64 ((((P.getD i pr0).C).getD k ce0).x.cl)), (.int .i64 ((((P.getD i pr0).C).getD k ce0).x.seq))] : List Value) ++ hc (((P.getD i pr0).C).getD k ce0).x.h ++ ([(.int .i64 ((((P.getD i pr0).C).getD k ce0).x.len)), (.int .i64 ((((P.getD i pr0).C).getD k ce0).x.sb)), (.int .i64 ((((P.getD i pr0).C).getD k ce0).x.sm)), (.slice (((P.getD i pr0).C).getD k ce0).sa ((((P.getD i pr0).C).getD k ce0).S).length (((P.getD i pr0).C).getD k ce0).sc)] : List Value)), cellC b110 50 (([(.int .i64 ((((P.getD i pr0).C).getD k ce0).x.cl)), (.int .i64 ((((P.getD i pr0).C).getD k ce0).x.seq))] : List Value) ++ hc (((P.getD i pr0).C).getD k ce0).x.h ++ ([(.int .u64 (timeD ((((P.getD i pr0).C).getD k ce0).S)))] : List Value)), cellC b139 50 (([(.int .i64 (((lookM M2 (⟨(((P.getD i pr0).C).getD k ce0).x.cl, (((P.getD i pr0).C).getD k ce0).x.seq⟩ : NmD)).getD ent0).cl)), (.int .i64 (((lookM M2 (⟨(((P.getD i pr0).C).getD k ce0).x.cl, (((P.getD i pr0).C).getD k ce0).x.seq⟩ : NmD)).getD ent0).sq))] : List Value) ++ hc ((lookM M2 (⟨(((P.getD i pr0).C).getD k ce0).x.cl, (((P.getD i pr0).C).getD k ce0).x.seq⟩ : NmD)).getD ent0).h ++ ([(.int .u64 (((lookM M2 (⟨(((P.getD i pr0).C).getD k ce0).x.cl, (((P.getD i pr0).C).getD k ce0).x.seq⟩ : NmD)).getD ent0).t))] : List Value))] w150)
                refine hK149 _ _ ?_
                clear hK149 K149
                refine w_nil ?_
                refine blk_normal ?_
                refine then_normal ?_
                refine w_lit ?_
                refine wl_pure (wants0 rfl) (d := 77) (v := (.int .i64 ((k : Int) + 1))) rfl (e_int (z := (k : Int) + 1) (by kernel_rfl) (IntWalk.i64_in _ (by omega))) ?_
                refine wl_pure (wants0 rfl) (d := 29) (v := (.int .i64 ((k : Int) + 1))) rfl (by kernel_rfl) ?_
                refine w_nil ?_
                have H152 : Sat w [restC w (fun _ => False), cellC b2 27 ([(.int .i64 (ep)), (.int .u64 (tm)), (.slice pa P.length pc), (vo), (vt)] : List Value), mapC b6 nmV entV (putM M2 (⟨(((P.getD i pr0).C).getD k ce0).x.cl, (((P.getD i pr0).C).getD k ce0).x.seq⟩ : NmD) (⟨(((P.getD i pr0).C).getD k ce0).x.cl, (((P.getD i pr0).C).getD k ce0).x.seq, ((((P.getD i pr0).C).getD k ce0).x.h), timeD ((((P.getD i pr0).C).getD k ce0).S)⟩ : EntD)), cellC b23 33 ([(.int .i64 ((P.getD i pr0).r)), (.int .i64 ((P.getD i pr0).e)), (.int .u64 ((P.getD i pr0).f)), (.slice (P.getD i pr0).ca ((P.getD i pr0).C).length (P.getD i pr0).cc), (.int .i64 ((P.getD i pr0).sb)), (.int .i64 ((P.getD i pr0).sm))] : List Value)] w150 := H151.pick [0, 1, 2, 3] (by decide)
                refine round_back ?_ _ ⟨(k + 1), (putM M2 (⟨(((P.getD i pr0).C).getD k ce0).x.cl, (((P.getD i pr0).C).getD k ce0).x.seq⟩ : NmD) (⟨(((P.getD i pr0).C).getD k ce0).x.cl, (((P.getD i pr0).C).getD k ce0).x.seq, ((((P.getD i pr0).C).getD k ce0).x.h), timeD ((((P.getD i pr0).C).getD k ce0).S)⟩ : EntD)), (show ((.int .i64 ((k : Int) + 1)) : Value) = _ by first | rfl | go_num), (by omega), (runE_more hM2 (by omega) (stepE_new (skip0 hlg b124 b130 b136) (none_of (by have q := b146; simpa using q)))), H152, rfl⟩ (by omega)
                exact (same_upd rfl (same_upd rfl (same_upd rfl (same_upd rfl (same_upd rfl (same_upd rfl (same_upd rfl (same_upd rfl (same_upd rfl (same_upd rfl (same_upd rfl (same_upd rfl (same_upd rfl (same_upd rfl (same_upd rfl (same_upd rfl (same_upd rfl (same_upd rfl (same_upd rfl (same_upd rfl (same_upd rfl (same_upd rfl (same_upd rfl (same_upd rfl (same_upd rfl (same_upd rfl (same_upd rfl (same_upd rfl (same_upd rfl (same_upd rfl (same_upd rfl (same_upd rfl (same_upd rfl (same_upd rfl (same_upd rfl (same_upd rfl (same_upd rfl (same_upd rfl (same_upd rfl (same_upd rfl (same_upd rfl (same_upd rfl (same_upd rfl (same_upd rfl (same_upd rfl (same_upd rfl (same_upd rfl (same_upd rfl (same_upd rfl (same_upd rfl (same_upd rfl (same_upd rfl (same_upd rfl (same_upd rfl (same_upd rfl (same_upd rfl (same_upd rfl (same_upd rfl (same_upd rfl (same_ovr))))))))))))))))))))))))))))))))))))))))))))))))))))))))))))
              · have g153 := bnot_false b146
                refine wl_know 68 (.bool false) (congrArg Value.bool b146) ?_
                have g154 := bnot_false b146
                refine wl_pure (wantsY 2 68 false rfl (by kernel_rfl) rfl (by kernel_rfl)) (d := 69) (v := (.agg ⟨(([(.int .i64 ((((P.getD i pr0).C).getD k ce0).x.cl)), (.int .i64 ((((P.getD i pr0).C).getD k ce0).x.seq))] : List Value) ++ hc (((P.getD i pr0).C).getD k ce0).x.h ++ ([(.int .u64 (timeD ((((P.getD i pr0).C).getD k ce0).S)))] : List Value))⟩)) rfl (e_loadN (vs := (([(.int .i64 ((((P.getD i pr0).C).getD k ce0).x.cl)), (.int .i64 ((((P.getD i pr0).C).getD k ce0).x.seq))] : List Value) ++ hc (((P.getD i pr0).C).getD k ce0).x.h ++ ([(.int .u64 (timeD ((((P.getD i pr0).C).getD k ce0).S)))] : List Value))) rfl (by kernel_rfl) (by kernel_rfl) (by exact Nat.le_of_ble_eq_true (by kernel_rfl)) (H144.at 5 rfl) (by kernel_rfl)) ?_
                refine wl_pure (wantsY 2 68 false rfl (by kernel_rfl) rfl (by kernel_rfl)) (d := 70) (v := (.agg ⟨(([(.int .i64 (((lookM M2 (⟨(((P.getD i pr0).C).getD k ce0).x.cl, (((P.getD i pr0).C).getD k ce0).x.seq⟩ : NmD)).getD ent0).cl)), (.int .i64 (((lookM M2 (⟨(((P.getD i pr0).C).getD k ce0).x.cl, (((P.getD i pr0).C).getD k ce0).x.seq⟩ : NmD)).getD ent0).sq))] : List Value) ++ hc ((lookM M2 (⟨(((P.getD i pr0).C).getD k ce0).x.cl, (((P.getD i pr0).C).getD k ce0).x.seq⟩ : NmD)).getD ent0).h ++ ([(.int .u64 (((lookM M2 (⟨(((P.getD i pr0).C).getD k ce0).x.cl, (((P.getD i pr0).C).getD k ce0).x.seq⟩ : NmD)).getD ent0).t))] : List Value))⟩)) rfl (e_loadN (vs := (([(.int .i64 (((lookM M2 (⟨(((P.getD i pr0).C).getD k ce0).x.cl, (((P.getD i pr0).C).getD k ce0).x.seq⟩ : NmD)).getD ent0).cl)), (.int .i64 (((lookM M2 (⟨(((P.getD i pr0).C).getD k ce0).x.cl, (((P.getD i pr0).C).getD k ce0).x.seq⟩ : NmD)).getD ent0).sq))] : List Value) ++ hc ((lookM M2 (⟨(((P.getD i pr0).C).getD k ce0).x.cl, (((P.getD i pr0).C).getD k ce0).x.seq⟩ : NmD)).getD ent0).h ++ ([(.int .u64 (((lookM M2 (⟨(((P.getD i pr0).C).getD k ce0).x.cl, (((P.getD i pr0).C).getD k ce0).x.seq⟩ : NmD)).getD ent0).t))] : List Value))) rfl (by kernel_rfl) (by kernel_rfl) (by exact Nat.le_of_ble_eq_true (by kernel_rfl)) (H144.at 6 rfl) (by kernel_rfl)) ?_
                refine wl_do (wantsY 2 68 false rfl (by kernel_rfl) rfl (by kernel_rfl)) (fun K155 hK155 => ?_)
                refine d_call (d := 71) rfl (by kernel_rfl) (ahead_any w143 (⟨(((P.getD i pr0).C).getD k ce0).x.cl, (((P.getD i pr0).C).getD k ce0).x.seq, ((((P.getD i pr0).C).getD k ce0).x.h), timeD ((((P.getD i pr0).C).getD k ce0).S)⟩ : EntD) ((lookM M2 (⟨(((P.getD i pr0).C).getD k ce0).x.cl, (((P.getD i pr0).C).getD k ce0).x.seq⟩ : NmD)).getD ent0)) ?_
                rintro _ w156 ⟨rfl, u158⟩
                have H157 := H144.keepU u158
                refine ⟨_, rfl, ?_⟩
                refine hK155 _ _ ?_
                clear hK155 K155
                refine wl_pure (wants0 rfl) (d := 72) (v := (.bool (aheadE (⟨(((P.getD i pr0).C).getD k ce0).x.cl, (((P.getD i pr0).C).getD k ce0).x.seq, ((((P.getD i pr0).C).getD k ce0).x.h), timeD ((((P.getD i pr0).C).getD k ce0).S)⟩ : EntD) ((lookM M2 (⟨(((P.getD i pr0).C).getD k ce0).x.cl, (((P.getD i pr0).C).getD k ce0).x.seq⟩ : NmD)).getD ent0)))) rfl (by kernel_rfl) ?_
                refine w_nil ?_
                refine then_normal ?_
                refine (bsplit (aheadE (⟨(((P.getD i pr0).C).getD k ce0).x.cl, (((P.getD i pr0).C).getD k ce0).x.seq, ((((P.getD i pr0).C).getD k ce0).x.h), timeD ((((P.getD i pr0).C).getD k ce0).S)⟩ : EntD) ((lookM M2 (⟨(((P.getD i pr0).C).getD k ce0).x.cl, (((P.getD i pr0).C).getD k ce0).x.seq⟩ : NmD)).getD ent0))).elim (fun b159 => ?_) (fun b159 => ?_)
                · refine wp_know 72 (.bool true) (congrArg Value.bool b159) ?_
                  refine wp_ift rfl ?_
                  refine w_lit ?_
                  refine wl_pure (wants0 rfl) (d := 73) (v := (.map (some b6))) rfl (by kernel_rfl) ?_
                  refine wl_pure (wants0 rfl) (d := 74) (v := (.pointer (some ⟨b110, 0, none⟩))) rfl (by kernel_rfl) ?_
                  refine wl_pure (wants0 rfl) (d := 75) (v := (.agg ⟨([(.int .i64 ((((P.getD i pr0).C).getD k ce0).x.cl)), (.int .i64 ((((P.getD i pr0).C).getD k ce0).x.seq))] : List Value)⟩)) rfl (e_loadN (vs := ([(.int .i64 ((((P.getD i pr0).C).getD k ce0).x.cl)), (.int .i64 ((((P.getD i pr0).C).getD k ce0).x.seq))] : List Value)) rfl (by kernel_rfl) (by kernel_rfl) (by exact Nat.le_of_ble_eq_true (by kernel_rfl)) (H157.at 5 rfl) (by kernel_rfl)) ?_
                  refine wl_pure (wants0 rfl) (d := 76) (v := (.agg ⟨(([(.int .i64 ((((P.getD i pr0).C).getD k ce0).x.cl)), (.int .i64 ((((P.getD i pr0).C).getD k ce0).x.seq))] : List Value) ++ hc (((P.getD i pr0).C).getD k ce0).x.h ++ ([(.int .u64 (timeD ((((P.getD i pr0).C).getD k ce0).S)))] : List Value))⟩)) rfl (e_loadN (vs := (([(.int .i64 ((((P.getD i pr0).C).getD k ce0).x.cl)), (.int .i64 ((((P.getD i pr0).C).getD k ce0).x.seq))] : List Value) ++ hc (((P.getD i pr0).C).getD k ce0).x.h ++ ([(.int .u64 (timeD ((((P.getD i pr0).C).getD k ce0).S)))] : List Value))) rfl (by kernel_rfl) (by kernel_rfl) (by exact Nat.le_of_ble_eq_true (by kernel_rfl)) (H157.at 5 rfl) (by kernel_rfl)) ?_
                  refine wl_do (wants0 rfl) (fun K160 hK160 => ?_)
                  refine d_mapUpdate (kt := 35) (et := 50) rfl H157 2 rfl nmK (by kernel_rfl) rfl (⟨(((P.getD i pr0).C).getD k ce0).x.cl, (((P.getD i pr0).C).getD k ce0).x.seq⟩ : NmD) rfl (⟨(((P.getD i pr0).C).getD k ce0).x.cl, (((P.getD i pr0).C).getD k ce0).x.seq, ((((P.getD i pr0).C).getD k ce0).x.h), timeD ((((P.getD i pr0).C).getD k ce0).S)⟩ : EntD) rfl ?_
                  intro w161 (H162 : Sat w [restC w (fun _ => False), cellC b2 27 ([(.int .i64 (ep)), (.int .u64 (tm)), (.slice pa P.length pc), (vo), (vt)] : List Value), mapC b6 nmV entV (putM M2 (⟨(((P.getD i pr0).C).getD k ce0).x.cl, (((P.getD i pr0).C).getD k ce0).x.seq⟩ : NmD) (⟨(((P.getD i pr0).C).getD k ce0).x.cl, (((P.getD i pr0).C).getD k ce0).x.seq, ((((P.getD i pr0).C).getD k ce0).x.h), timeD ((((P.getD i pr0).C).getD k ce0).S)⟩ : EntD)), cellC b23 33 ([(.int .i64 ((P.getD i pr0).r)), (.int .i64 ((P.getD i pr0).e)), (.int .u64 ((P.getD i pr0).f)), (.slice (P.getD i pr0).ca ((P.getD i pr0).C).length (P.getD i pr0).cc), (.int .i64 ((P.getD i pr0).sb)), (.int .i64 ((P.getD i pr0).sm))] : List Value), cellC b44 42 (([(.int .i64 ((((P.getD i pr0).C).getD k ce0).x.cl)), (.int .i64 ((((P.getD i pr0).C).getD k ce0).x.seq))] : List Value) ++ hc (((P.getD i pr0).C).getD k ce0).x.h ++ ([(.int .i64 ((((P.getD i pr0).C).getD k ce0).x.len)), (.int .i64 ((((P.getD i pr0).C).getD k ce0).x.sb)), (.int .i64 ((((P.getD i pr0).C).getD k ce0).x.sm)), (.slice (((P.getD i pr0).C).getD k ce0).sa ((((P.getD i pr0).C).getD k ce0).S).length (((P.getD i pr0).C).getD k ce0).sc)] : List Value)), cellC b110 50 (([(.int .i64 ((((P.getD i pr0).C).getD k ce0).x.cl)), (.int .i64 ((((P.getD i pr0).C).getD k ce0).x.seq))] : List Value) ++ hc (((P.getD i pr0).C).getD k ce0).x.h ++ ([(.int .u64 (timeD ((((P.getD i pr0).C).getD k ce0).S)))] : List Value)), cellC b139 50 (([(.int .i64 (((lookM M2 (⟨(((P.getD i pr0).C).getD k ce0).x.cl, (((P.getD i pr0).C).getD k ce0).x.seq⟩ : NmD)).getD ent0).cl)), (.int .i64 (((lookM M2 (⟨(((P.getD i pr0).C).getD k ce0).x.cl, (((P.getD i pr0).C).getD k ce0).x.seq⟩ : NmD)).getD ent0).sq))] : List Value) ++ hc ((lookM M2 (⟨(((P.getD i pr0).C).getD k ce0).x.cl, (((P.getD i pr0).C).getD k ce0).x.seq⟩ : NmD)).getD ent0).h ++ ([(.int .u64 (((lookM M2 (⟨(((P.getD i pr0).C).getD k ce0).x.cl, (((P.getD i pr0).C).getD k ce0).x.seq⟩ : NmD)).getD ent0).t))] : List Value))] w161)
                  refine hK160 _ _ ?_
                  clear hK160 K160
                  refine w_nil ?_
                  refine blk_normal ?_
                  refine then_normal ?_
                  refine w_lit ?_
                  refine wl_pure (wants0 rfl) (d := 77) (v := (.int .i64 ((k : Int) + 1))) rfl (e_int (z := (k : Int) + 1) (by kernel_rfl) (IntWalk.i64_in _ (by omega))) ?_
                  refine wl_pure (wants0 rfl) (d := 29) (v := (.int .i64 ((k : Int) + 1))) rfl (by kernel_rfl) ?_
                  refine w_nil ?_
                  have H163 : Sat w [restC w (fun _ => False), cellC b2 27 ([(.int .i64 (ep)), (.int .u64 (tm)), (.slice pa P.length pc), (vo), (vt)] : List Value), mapC b6 nmV entV (putM M2 (⟨(((P.getD i pr0).C).getD k ce0).x.cl, (((P.getD i pr0).C).getD k ce0).x.seq⟩ : NmD) (⟨(((P.getD i pr0).C).getD k ce0).x.cl, (((P.getD i pr0).C).getD k ce0).x.seq, ((((P.getD i pr0).C).getD k ce0).x.h), timeD ((((P.getD i pr0).C).getD k ce0).S)⟩ : EntD)), cellC b23 33 ([(.int .i64 ((P.getD i pr0).r)), (.int .i64 ((P.getD i pr0).e)), (.int .u64 ((P.getD i pr0).f)), (.slice (P.getD i pr0).ca ((P.getD i pr0).C).length (P.getD i pr0).cc), (.int .i64 ((P.getD i pr0).sb)), (.int .i64 ((P.getD i pr0).sm))] : List Value)] w161 := H162.pick [0, 1, 2, 3] (by decide)
                  refine round_back ?_ _ ⟨(k + 1), (putM M2 (⟨(((P.getD i pr0).C).getD k ce0).x.cl, (((P.getD i pr0).C).getD k ce0).x.seq⟩ : NmD) (⟨(((P.getD i pr0).C).getD k ce0).x.cl, (((P.getD i pr0).C).getD k ce0).x.seq, ((((P.getD i pr0).C).getD k ce0).x.h), timeD ((((P.getD i pr0).C).getD k ce0).S)⟩ : EntD)), (show ((.int .i64 ((k : Int) + 1)) : Value) = _ by first | rfl | go_num), (by omega), (runE_more hM2 (by omega) (step_yes (skip0 hlg b124 b130 b136) (by have q := b146; simpa using q) b159)), H163, rfl⟩ (by omega)
                  exact (same_upd rfl (same_upd rfl (same_upd rfl (same_upd rfl (same_upd rfl (same_upd rfl (same_upd rfl (same_upd rfl (same_upd rfl (same_upd rfl (same_upd rfl (same_upd rfl (same_upd rfl (same_upd rfl (same_upd rfl (same_upd rfl (same_upd rfl (same_upd rfl (same_upd rfl (same_upd rfl (same_upd rfl (same_upd rfl (same_upd rfl (same_upd rfl (same_upd rfl (same_upd rfl (same_upd rfl (same_upd rfl (same_upd rfl (same_upd rfl (same_upd rfl (same_upd rfl (same_upd rfl (same_upd rfl (same_upd rfl (same_upd rfl (same_upd rfl (same_upd rfl (same_upd rfl (same_upd rfl (same_upd rfl (same_upd rfl (same_upd rfl (same_upd rfl (same_upd rfl (same_upd rfl (same_upd rfl (same_upd rfl (same_upd rfl (same_upd rfl (same_upd rfl (same_upd rfl (same_upd rfl (same_upd rfl (same_upd rfl (same_upd rfl (same_upd rfl (same_upd rfl (same_upd rfl (same_upd rfl (same_ovr)))))))))))))))))))))))))))))))))))))))))))))))))))))))))))))
                · refine wp_know 72 (.bool false) (congrArg Value.bool b159) ?_
                  refine wp_iff rfl ?_
                  refine w_skip ?_
                  refine blk_normal ?_
                  refine then_normal ?_
                  refine w_lit ?_
                  refine wl_pure (wants0 rfl) (d := 77) (v := (.int .i64 ((k : Int) + 1))) rfl (e_int (z := (k : Int) + 1) (by kernel_rfl) (IntWalk.i64_in _ (by omega))) ?_
                  refine wl_pure (wants0 rfl) (d := 29) (v := (.int .i64 ((k : Int) + 1))) rfl (by kernel_rfl) ?_
                  refine w_nil ?_
                  have H164 : Sat w [restC w (fun _ => False), cellC b2 27 ([(.int .i64 (ep)), (.int .u64 (tm)), (.slice pa P.length pc), (vo), (vt)] : List Value), mapC b6 nmV entV M2, cellC b23 33 ([(.int .i64 ((P.getD i pr0).r)), (.int .i64 ((P.getD i pr0).e)), (.int .u64 ((P.getD i pr0).f)), (.slice (P.getD i pr0).ca ((P.getD i pr0).C).length (P.getD i pr0).cc), (.int .i64 ((P.getD i pr0).sb)), (.int .i64 ((P.getD i pr0).sm))] : List Value)] w156 := H157.pick [0, 1, 2, 3] (by decide)
                  refine round_back ?_ _ ⟨(k + 1), M2, (show ((.int .i64 ((k : Int) + 1)) : Value) = _ by first | rfl | go_num), (by omega), (runE_more hM2 (by omega) (step_no (skip0 hlg b124 b130 b136) (by have q := b146; simpa using q) b159)), H164, rfl⟩ (by omega)
                  exact (same_upd rfl (same_upd rfl (same_upd rfl (same_upd rfl (same_upd rfl (same_upd rfl (same_upd rfl (same_upd rfl (same_upd rfl (same_upd rfl (same_upd rfl (same_upd rfl (same_upd rfl (same_upd rfl (same_upd rfl (same_upd rfl (same_upd rfl (same_upd rfl (same_upd rfl (same_upd rfl (same_upd rfl (same_upd rfl (same_upd rfl (same_upd rfl (same_upd rfl (same_upd rfl (same_upd rfl (same_upd rfl (same_upd rfl (same_upd rfl (same_upd rfl (same_upd rfl (same_upd rfl (same_upd rfl (same_upd rfl (same_upd rfl (same_upd rfl (same_upd rfl (same_upd rfl (same_upd rfl (same_upd rfl (same_upd rfl (same_upd rfl (same_upd rfl (same_upd rfl (same_upd rfl (same_upd rfl (same_upd rfl (same_upd rfl (same_upd rfl (same_upd rfl (same_upd rfl (same_upd rfl (same_upd rfl (same_upd rfl (same_upd rfl (same_ovr)))))))))))))))))))))))))))))))))))))))))))))))))))))))))
    · have g165 := of_decide_eq_false b35
      refine wp_know 30 (.bool false) (congrArg Value.bool b35) ?_
      have g166 := of_decide_eq_false b35
      refine wp_iff rfl ?_
      refine w_exit ?_
      refine then_exit ?_
      refine back_exit ?_
      refine blk_hit ?_
      refine blk_normal ?_
      refine then_normal ?_
      refine w_lit ?_
      refine wl_pure (wants0 rfl) (d := 78) (v := (.int .i64 ((i : Int) + 1))) rfl (e_int (z := (i : Int) + 1) (by kernel_rfl) (IntWalk.i64_in _ (by omega))) ?_
      refine wl_pure (wants0 rfl) (d := 22) (v := (.int .i64 ((i : Int) + 1))) rfl (by kernel_rfl) ?_
      refine w_nil ?_
      have H167 : Sat w [restC w (fun _ => False), cellC b2 27 ([(.int .i64 (ep)), (.int .u64 (tm)), (.slice pa P.length pc), (vo), (vt)] : List Value), mapC b6 nmV entV M2] w31 := H32.pick [0, 1, 2] (by decide)
      refine round_back ?_ _ ⟨(i + 1), M2, (show ((.int .i64 ((i : Int) + 1)) : Value) = _ by first | rfl | go_num), (by omega), (by rw [pre_succ (by omega), hM2, List.take_of_length_le (l := (P.getD i pr0).C) (by omega)]), H167, rfl⟩ (by omega)
      exact (same_upd rfl (same_upd rfl (same_upd rfl (same_upd rfl (same_upd rfl (same_ovr2 rfl (same_upd rfl (same_upd rfl (same_upd rfl (same_upd rfl (same_upd rfl (same_upd rfl (same_upd rfl (same_upd rfl (same_upd rfl (same_upd rfl (same_ovr)))))))))))))))))
  · have g168 := of_decide_eq_false b14
    refine wp_know 23 (.bool false) (congrArg Value.bool b14) ?_
    have g169 := of_decide_eq_false b14
    refine wp_iff rfl ?_
    refine w_exit ?_
    refine then_exit ?_
    refine back_exit ?_
    refine blk_hit ?_
    refine then_normal ?_
    refine w_seq ?_
    have hiP : i = P.length := by omega
    have hMf : M = runE last tm lg (P.flatMap (·.C)) := by rw [hM, hiP, List.take_length]
    have hok : EOk M := by rw [hMf]; exact runE_ok hsm.all
    have hlM := hok.len
    refine w_lit ?_
    refine wl_pure (wants0 rfl) (d := 15) (v := (.slice none 0 0)) rfl (by kernel_rfl) ?_
    refine w_nil ?_
    refine then_normal ?_
    refine w_seq ?_
    refine w_seq ?_
    refine w_lit ?_
    refine wl_pure (wants0 rfl) (d := 79) (v := (.map (some b6))) rfl (by kernel_rfl) ?_
    refine wl_do (wants0 rfl) (fun K170 hK170 => ?_)
    refine d_range (kt := 35) (et := 50) rfl H11 2 rfl (by kernel_rfl) rfl ?_
    intro r171 w172 (H173 : Sat w [restC w (fun _ => False), cellC b2 27 ([(.int .i64 (ep)), (.int .u64 (tm)), (.slice pa P.length pc), (vo), (vt)] : List Value), iterC r171 b6 nmV entV M []] w172)
    refine hK170 _ _ ?_
    clear hK170 K170
    refine w_nil ?_
    refine then_normal ?_
    refine w_block ?_
    have H174 := H173.addNil 50 35
    refine wp_round [15, 17, 81, 82, 83, 84, 85, 86, 87, 88] (fun F_ W_ m_ => ∃ (seen rest : EMap) (oa : Option Addr) (oc : Nat) (O : List EntD), F_ 15 = (.slice oa O.length oc) ∧ (M.Perm (seen ++ rest)) ∧ (O = seen.map (·.2)) ∧ Sat w [restC w (fun _ => False), cellC b2 27 ([(.int .i64 (ep)), (.int .u64 (tm)), (.slice pa P.length pc), (vo), (vt)] : List Value), iterC r171 b6 nmV entV M seen, rowC 50 35 (.slice oa O.length oc) O.length (O.flatMap encEn)] W_ ∧ m_ = rest.length) _ ⟨[], M, none, 0, [], (by first | rfl | go_num), (List.Perm.refl _), rfl, H174, rfl⟩ ?_
    rintro g175 w176 _ ⟨seen, rest, oa, oc, O, v178, hperm, hO, H177, rfl⟩
    refine wp_know 15 _ v178 ?_
    have hsl : seen.length ≤ 12 := by have h1 := hperm.length_eq; rw [List.length_append] at h1; omega
    have hsm2 : O.length ≤ 12 := by rw [hO, List.length_map]; exact hsl
    refine w_seq ?_
    refine w_lit ?_
    refine wl_do (wants0 rfl) (fun K180 hK180 => ?_)
    refine d_next rfl H177 2 rfl rfl ?_ ?_
    · intro p181
      refine hK180 _ _ ?_
      clear hK180 K180
      refine wl_pure (wants0 rfl) (d := 82) (v := (.bool false)) rfl (by kernel_rfl) ?_
      refine w_nil ?_
      refine then_normal ?_
      refine w_seq ?_
      refine wp_iff rfl ?_
      refine w_exit ?_
      refine then_exit ?_
      refine back_exit ?_
      refine blk_hit ?_
      refine then_normal ?_
      refine w_seq ?_
      refine w_lit ?_
      refine wl_pure (wants0 rfl) (d := 89) (v := (.slice oa O.length oc)) rfl (by kernel_rfl) ?_
      refine wl_do (wants0 rfl) (fun K182 hK182 => ?_)
      refine d_call (d := 90) rfl (by kernel_rfl) (sortRow_any w176 oa oc O (H177.fin [3] (by decide) rfl) (by omega)) ?_
      rintro _ w183 ⟨D184, rfl, p185, s186, T187⟩
      have H188 : Sat w [restC w (fun _ => False), cellC b2 27 ([(.int .i64 (ep)), (.int .u64 (tm)), (.slice pa P.length pc), (vo), (vt)] : List Value), iterC r171 b6 nmV entV M seen, rowC 50 35 (.slice oa D184.length oc) D184.length (D184.flatMap encEn)] w183 := (Sat.turnL (L' := [rowC 50 35 (.slice oa D184.length oc) D184.length (D184.flatMap encEn)]) (R := [restC w (fun _ => False), cellC b2 27 ([(.int .i64 (ep)), (.int .u64 (tm)), (.slice pa P.length pc), (vo), (vt)] : List Value), iterC r171 b6 nmV entV M seen]) H177 [3] [0, 1, 2] (by decide) (by kernel_rfl) rfl T187).pick [1, 2, 3, 0] (by decide)
      refine ⟨_, rfl, ?_⟩
      refine hK182 _ _ ?_
      clear hK182 K182
      refine w_nil ?_
      refine then_normal ?_
      refine w_seq ?_
      refine wp_know 15 (.slice oa D184.length oc) (show ((.slice oa O.length oc) : Value) = _ by rw [p185.length_eq]) ?_
      refine w_lit ?_
      refine wl_pure (wants0 rfl) (d := 91) (v := (.slice oa D184.length oc)) rfl (by kernel_rfl) ?_
      refine wl_pure (wants0 rfl) (d := 6) (v := (.slice oa D184.length oc)) rfl (by kernel_rfl) ?_
      refine w_nil ?_
      refine then_normal ?_
      refine w_ret ?_
      refine end1 rfl (res_tmp (v := (.slice oa D184.length oc)) rfl) ?_
      exact ⟨oa, oc, D184, rfl, by rw [← hlg, ← hMf]; exact (hO ▸ p185).trans (p181.map _).symm, s186, H188.at 3 rfl, H188.upd 0 rfl [] (fun _ h => h.elim), H188.fresh 0 rfl (fun _ h => h) 3 rfl rfl⟩
    · intro y189 t190 w191 p192 (H193 : Sat w [restC w (fun _ => False), cellC b2 27 ([(.int .i64 (ep)), (.int .u64 (tm)), (.slice pa P.length pc), (vo), (vt)] : List Value), iterC r171 b6 nmV entV M (seen ++ [y189]), rowC 50 35 (.slice oa O.length oc) O.length (O.flatMap encEn)] w191)
      refine hK180 _ _ ?_
      clear hK180 K180
      refine wl_pure (wants0 rfl) (d := 82) (v := (.bool true)) rfl (by kernel_rfl) ?_
      refine w_nil ?_
      refine then_normal ?_
      refine w_seq ?_
      refine wp_ift rfl ?_
      refine w_skip ?_
      refine then_normal ?_
      refine w_block ?_
      refine w_seq ?_
      refine w_lit ?_
      refine wl_pure (wants0 rfl) (d := 83) (v := (.tuple #[(.agg ⟨([(.int .i64 (y189.1.cl)), (.int .i64 (y189.1.sq))] : List Value)⟩), (.agg ⟨(([(.int .i64 (y189.2.cl)), (.int .i64 (y189.2.sq))] : List Value) ++ hc y189.2.h ++ ([(.int .u64 (y189.2.t))] : List Value))⟩)])) rfl (e_entry (H193.at 2 rfl) rfl) ?_
      refine wl_pure (wants0 rfl) (d := 84) (v := (.agg ⟨(([(.int .i64 (y189.2.cl)), (.int .i64 (y189.2.sq))] : List Value) ++ hc y189.2.h ++ ([(.int .u64 (y189.2.t))] : List Value))⟩)) rfl (by kernel_rfl) ?_
      refine wl_do (wants0 rfl) (fun K194 hK194 => ?_)
      refine d_alloc (zs := (([(.int .i64 (0)), (.int .i64 (0))] : List Value) ++ hc hash0 ++ ([(.int .u64 (0))] : List Value))) (z := (.agg ⟨(([(.int .i64 (0)), (.int .i64 (0))] : List Value) ++ hc hash0 ++ ([(.int .u64 (0))] : List Value))⟩)) rfl H193 (by kernel_rfl) (by kernel_rfl) ?_
      intro b195 w196 (H197 : Sat w [restC w (fun _ => False), cellC b2 27 ([(.int .i64 (ep)), (.int .u64 (tm)), (.slice pa P.length pc), (vo), (vt)] : List Value), iterC r171 b6 nmV entV M (seen ++ [y189]), rowC 50 35 (.slice oa O.length oc) O.length (O.flatMap encEn), cellC b195 50 (([(.int .i64 (0)), (.int .i64 (0))] : List Value) ++ hc hash0 ++ ([(.int .u64 (0))] : List Value))] w196)
      refine hK194 _ _ ?_
      clear hK194 K194
      refine wl_do (wants0 rfl) (fun K198 hK198 => ?_)
      refine d_storeX (vs := (([(.int .i64 (y189.2.cl)), (.int .i64 (y189.2.sq))] : List Value) ++ hc y189.2.h ++ ([(.int .u64 (y189.2.t))] : List Value))) (cs' := (([(.int .i64 (y189.2.cl)), (.int .i64 (y189.2.sq))] : List Value) ++ hc y189.2.h ++ ([(.int .u64 (y189.2.t))] : List Value))) rfl H197 4 rfl rfl rfl rfl (by kernel_rfl) (Nat.le_of_ble_eq_true (by kernel_rfl)) (Nat.le_of_ble_eq_true (by kernel_rfl)) (by kernel_rfl) (by kernel_rfl) ?_
      intro w199 (H200 : Sat w [restC w (fun _ => False), cellC b2 27 ([(.int .i64 (ep)), (.int .u64 (tm)), (.slice pa P.length pc), (vo), (vt)] : List Value), iterC r171 b6 nmV entV M (seen ++ [y189]), rowC 50 35 (.slice oa O.length oc) O.length (O.flatMap encEn), cellC b195 50 (([(.int .i64 (y189.2.cl)), (.int .i64 (y189.2.sq))] : List Value) ++ hc y189.2.h ++ ([(.int .u64 (y189.2.t))] : List Value))] w199)
      refine hK198 _ _ ?_
      clear hK198 K198
      refine w_nil ?_
      refine then_normal ?_
      refine w_lit ?_
      refine wl_pure (wants0 rfl) (d := 85) (v := (.slice oa O.length oc)) rfl (by kernel_rfl) ?_
      refine wl_pure (wants0 rfl) (d := 86) (v := (.agg ⟨(([(.int .i64 (y189.2.cl)), (.int .i64 (y189.2.sq))] : List Value) ++ hc y189.2.h ++ ([(.int .u64 (y189.2.t))] : List Value))⟩)) rfl (e_loadN (vs := (([(.int .i64 (y189.2.cl)), (.int .i64 (y189.2.sq))] : List Value) ++ hc y189.2.h ++ ([(.int .u64 (y189.2.t))] : List Value))) rfl (by kernel_rfl) (by kernel_rfl) (by exact Nat.le_of_ble_eq_true (by kernel_rfl)) (H200.at 4 rfl) (by kernel_rfl)) ?_
      refine wl_do (wants0 rfl) (fun K202 hK202 => ?_)
      refine d_buildSlice (e := 50) (size := 35) (bytes := 56) (z := (.agg ⟨(([(.int .i64 (0)), (.int .i64 (0))] : List Value) ++ hc hash0 ++ ([(.int .u64 (0))] : List Value))⟩)) (pvs := [(0, (.agg ⟨(([(.int .i64 (y189.2.cl)), (.int .i64 (y189.2.sq))] : List Value) ++ hc y189.2.h ++ ([(.int .u64 (y189.2.t))] : List Value))⟩))]) (vs := (([(.int .i64 (y189.2.cl)), (.int .i64 (y189.2.sq))] : List Value) ++ hc y189.2.h ++ ([(.int .u64 (y189.2.t))] : List Value))) rfl H200 (by kernel_rfl) (by kernel_rfl) (by kernel_rfl) (by kernel_rfl) (by kernel_rfl) rfl rfl ?_
      intro b203 w204 (H205 : Sat w [restC w (fun _ => False), cellC b2 27 ([(.int .i64 (ep)), (.int .u64 (tm)), (.slice pa P.length pc), (vo), (vt)] : List Value), iterC r171 b6 nmV entV M (seen ++ [y189]), rowC 50 35 (.slice oa O.length oc) O.length (O.flatMap encEn), cellC b195 50 (([(.int .i64 (y189.2.cl)), (.int .i64 (y189.2.sq))] : List Value) ++ hc y189.2.h ++ ([(.int .u64 (y189.2.t))] : List Value)), rowC 50 35 (.slice (some ⟨b203, 0, none⟩) 1 1) 1 (([(.int .i64 (y189.2.cl)), (.int .i64 (y189.2.sq))] : List Value) ++ hc y189.2.h ++ ([(.int .u64 (y189.2.t))] : List Value))] w204)
      have H206 : Sat w [restC w (fun _ => False), cellC b2 27 ([(.int .i64 (ep)), (.int .u64 (tm)), (.slice pa P.length pc), (vo), (vt)] : List Value), iterC r171 b6 nmV entV M (seen ++ [y189]), rowC 50 35 (.slice oa O.length oc) O.length (O.flatMap encEn), cellC b195 50 (([(.int .i64 (y189.2.cl)), (.int .i64 (y189.2.sq))] : List Value) ++ hc y189.2.h ++ ([(.int .u64 (y189.2.t))] : List Value)), rowC 50 35 (.slice (some ⟨b203, 0, none⟩) 1 1) 1 ([y189.2].flatMap encEn)] w204 := H205.cast (by rw [(show ((([(.int .i64 (y189.2.cl)), (.int .i64 (y189.2.sq))] : List Value) ++ hc y189.2.h ++ ([(.int .u64 (y189.2.t))] : List Value)) : List Value) = [y189.2].flatMap encEn by kernel_rfl)])
      refine hK202 _ _ ?_
      clear hK202 K202
      refine wl_do (wants0 rfl) (fun K207 hK207 => ?_)
      refine d_append (T := 51) (e := 50) (size := 35) (bytes := 56) rfl H206 (by kernel_rfl) 3 5 rfl rfl rfl rfl (flat_one encEn encEn_one [y189.2]) (by omega) (by omega) ?_
      intro v208 w209 (H210 : Sat w [restC w (fun _ => False), cellC b2 27 ([(.int .i64 (ep)), (.int .u64 (tm)), (.slice pa P.length pc), (vo), (vt)] : List Value), iterC r171 b6 nmV entV M (seen ++ [y189]), rowC 50 35 v208 (O.length + 1) ((O.flatMap encEn) ++ ([y189.2].flatMap encEn)), cellC b195 50 (([(.int .i64 (y189.2.cl)), (.int .i64 (y189.2.sq))] : List Value) ++ hc y189.2.h ++ ([(.int .u64 (y189.2.t))] : List Value)), rowC 50 35 (.slice (some ⟨b203, 0, none⟩) 1 1) 1 ([y189.2].flatMap encEn)] w209)
      have H213 : Sat w [restC w (fun _ => False), cellC b2 27 ([(.int .i64 (ep)), (.int .u64 (tm)), (.slice pa P.length pc), (vo), (vt)] : List Value), iterC r171 b6 nmV entV M (seen ++ [y189]), rowC 50 35 v208 ((O ++ [y189.2]).length) ((O ++ [y189.2]).flatMap encEn), cellC b195 50 (([(.int .i64 (y189.2.cl)), (.int .i64 (y189.2.sq))] : List Value) ++ hc y189.2.h ++ ([(.int .u64 (y189.2.t))] : List Value)), rowC 50 35 (.slice (some ⟨b203, 0, none⟩) 1 1) 1 ([y189.2].flatMap encEn)] w209 := H210.cast (by simp only [List.length_append, List.flatMap_append] <;> rfl)
      obtain ⟨a211, c212, rfl⟩ := ownsRow_shape (H213.at 3 rfl)
      refine hK207 _ _ ?_
      clear hK207 K207
      refine wl_pure (wants0 rfl) (d := 15) (v := (.slice a211 ((O ++ [y189.2]).length) c212)) rfl (by kernel_rfl) ?_
      refine w_nil ?_
      refine blk_normal ?_
      have H214 : Sat w [restC w (fun _ => False), cellC b2 27 ([(.int .i64 (ep)), (.int .u64 (tm)), (.slice pa P.length pc), (vo), (vt)] : List Value), iterC r171 b6 nmV entV M (seen ++ [y189]), rowC 50 35 (.slice a211 ((O ++ [y189.2]).length) c212) ((O ++ [y189.2]).length) ((O ++ [y189.2]).flatMap encEn)] w209 := H213.pick [0, 1, 2, 3] (by decide)
      refine round_back ?_ _ ⟨(seen ++ [y189]), t190, a211, c212, (O ++ [y189.2]), (show ((.slice a211 ((O ++ [y189.2]).length) c212) : Value) = _ by first | rfl | go_num), p192, (by rw [hO, List.map_append]; rfl), H214, rfl⟩ (by have h1 := hperm.length_eq; have h2 := p192.length_eq; simp only [List.length_append, List.length_cons, List.length_nil] at h1 h2; omega)
      exact (same_upd rfl (same_upd rfl (same_upd rfl (same_upd rfl (same_upd rfl (same_upd rfl (same_upd rfl (same_upd rfl (same_upd rfl (same_upd rfl (same_upd rfl (same_ovr))))))))))))

end Go.Proofs.Ytenihpghfdcpkaa
