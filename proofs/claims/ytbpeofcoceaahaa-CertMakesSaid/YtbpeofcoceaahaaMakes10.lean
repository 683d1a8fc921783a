/- WHAT IS PROVED: the walk of CertMakes. Conditions: stated with each. -/
import Derived.Test.YtbpeofcoceaahaaMk10
import Derived.Test.YtbpeofcoceaahaaSm10
import Derived.Test.YtbpeofcoceaahaaIns
namespace Go.Proofs.Ytbpeofcoceaahaa
open Go.RowKit

theorem ListAt.takeN {α : Type} {enc : α → List Value} {sz : Nat} {w : World} {a : Option Addr} {n c Q : Nat} {xs : List α} (h : ListAt enc sz w (.slice a n c) xs) (hQ : Q ≤ xs.length) : ListAt enc sz w (.slice a Q c) (xs.take Q) := ListAt.take h (by obtain ⟨_, _, e⟩ := SliceOf.len h; simp only [Value.slice.injEq] at e; omega)
theorem ListAt.lenN {α : Type} {enc : α → List Value} {sz : Nat} {w : World} {a : Option Addr} {n c Q : Nat} {xs : List α} (e : n = Q) (h : ListAt enc sz w (.slice a n c) xs) : ListAt enc sz w (.slice a Q c) xs := e ▸ h

set_option maxRecDepth 100000 in
set_option maxHeartbeats 2000000 in
theorem makes10_walk (w : World) (f same : Int) (x : CommitD) (sa : Option Addr) (sc : Nat) (S : List StampD) (hS : ListAt encSt 38 w (.slice sa S.length sc) S) (ra : Option Addr) (rc : Nat) (R : List Int) (hR : IntsAt w (.slice ra R.length rc) R) :
    Calls Try.prog 8 #[(.int .i64 (f)), (.agg ⟨(([(.int .i64 (x.cl)), (.int .i64 (x.seq))] : List Value) ++ hc x.h ++ ([(.int .i64 (x.len)), (.int .i64 (x.sb)), (.int .i64 (x.sm))] : List Value))⟩), (.slice sa S.length sc), (.slice ra R.length rc), (.int .i64 (same))] w fun e w' => e = .returned (.bool true) ∧ Upd [] w w' := by
  have hwf := within_lim f 3 (by omega)
  have H := Sat.start0 w
  refine calls_fr Try.func8 rfl 102 rfl (Nat.le_of_ble_eq_true rfl) ?_
  refine w_seq ?_
  refine w_lit ?_
  refine wl_do (wants0 rfl) (fun K1 hK1 => ?_)
  refine d_box (vs := (([(.int .i64 (x.cl)), (.int .i64 (x.seq))] : List Value) ++ hc x.h ++ ([(.int .i64 (x.len)), (.int .i64 (x.sb)), (.int .i64 (x.sm))] : List Value))) rfl H rfl rfl ?_
  intro b2 w3 (H4 : Sat w [restC w (fun _ => False), cellC b2 44 (([(.int .i64 (x.cl)), (.int .i64 (x.seq))] : List Value) ++ hc x.h ++ ([(.int .i64 (x.len)), (.int .i64 (x.sb)), (.int .i64 (x.sm))] : List Value))] w3)
  refine hK1 _ _ ?_
  clear hK1 K1
  refine wl_pure (wants0 rfl) (d := 10) (v := (.bool false)) rfl (by kernel_rfl) ?_
  refine w_nil ?_
  refine then_normal ?_
  refine w_seq ?_
  refine w_lit ?_
  refine wl_pure (wants0 rfl) (d := 19) (v := (.int .i64 (f))) rfl (by kernel_rfl) ?_
  refine wl_do (wants0 rfl) (fun K5 hK5 => ?_)
  refine d_call (d := 20) rfl (by kernel_rfl) (within_any w3 f 3 (by omega)) ?_
  rintro _ w6 ⟨rfl, u8⟩
  have H7 := H4.keepU u8
  refine ⟨_, rfl, ?_⟩
  refine hK5 _ _ ?_
  clear hK5 K5
  refine wl_pure (wants0 rfl) (d := 21) (v := (.int .i64 (1 + (withinV f 3)))) rfl (e_int (z := 1 + (withinV f 3)) (by kernel_rfl) (IntWalk.i64_in _ (by omega))) ?_
  refine wl_pure (wants0 rfl) (d := 22) (v := (.agg ⟨([(.int .i64 (1 + (withinV f 3))), (.int .i64 (3))] : List Value)⟩)) rfl (by kernel_rfl) ?_
  refine wl_do (wants0 rfl) (fun K9 hK9 => ?_)
  refine d_alloc (zs := ([(.int .i64 (0)), (.int .i64 (0))] : List Value)) (z := (.agg ⟨([(.int .i64 (0)), (.int .i64 (0))] : List Value)⟩)) rfl H7 (by kernel_rfl) (by kernel_rfl) ?_
  intro b10 w11 (H12 : Sat w [restC w (fun _ => False), cellC b2 44 (([(.int .i64 (x.cl)), (.int .i64 (x.seq))] : List Value) ++ hc x.h ++ ([(.int .i64 (x.len)), (.int .i64 (x.sb)), (.int .i64 (x.sm))] : List Value)), cellC b10 36 ([(.int .i64 (0)), (.int .i64 (0))] : List Value)] w11)
  refine hK9 _ _ ?_
  clear hK9 K9
  refine wl_do (wants0 rfl) (fun K13 hK13 => ?_)
  refine d_storeX (vs := ([(.int .i64 (1 + (withinV f 3))), (.int .i64 (3))] : List Value)) (cs' := ([(.int .i64 (1 + (withinV f 3))), (.int .i64 (3))] : List Value)) rfl H12 2 rfl rfl rfl rfl (by kernel_rfl) (Nat.le_of_ble_eq_true (by kernel_rfl)) (Nat.le_of_ble_eq_true (by kernel_rfl)) (by kernel_rfl) (by kernel_rfl) ?_
  intro w14 (H15 : Sat w [restC w (fun _ => False), cellC b2 44 (([(.int .i64 (x.cl)), (.int .i64 (x.seq))] : List Value) ++ hc x.h ++ ([(.int .i64 (x.len)), (.int .i64 (x.sb)), (.int .i64 (x.sm))] : List Value)), cellC b10 36 ([(.int .i64 (1 + (withinV f 3))), (.int .i64 (3))] : List Value)] w14)
  refine hK13 _ _ ?_
  clear hK13 K13
  refine w_nil ?_
  refine then_normal ?_
  refine w_seq ?_
  obtain ⟨F, hF⟩ : ∃ F : Int, F = 1 + withinV f 3 := ⟨_, rfl⟩
  have hf : 1 ≤ F ∧ F ≤ 3 := by omega
  obtain ⟨N, hN⟩ : ∃ N : Nat, (N : Int) = 3 * F + 1 := ⟨(3 * F + 1).toNat, by omega⟩
  obtain ⟨Q, hQ⟩ : ∃ Q : Nat, (Q : Int) = 2 * F + 1 := ⟨(2 * F + 1).toNat, by omega⟩
  have H17 : Sat w [restC w (fun _ => False), cellC b2 44 (([(.int .i64 (x.cl)), (.int .i64 (x.seq))] : List Value) ++ hc x.h ++ ([(.int .i64 (x.len)), (.int .i64 (x.sb)), (.int .i64 (x.sm))] : List Value)), cellC b10 36 ([(.int .i64 (F)), (.int .i64 (3))] : List Value)] w14 := by rw [hF]; exact H15
  refine w_lit ?_
  refine wl_pure (wants0 rfl) (d := 12) (v := (.slice none 0 0)) rfl (by kernel_rfl) ?_
  refine w_nil ?_
  refine then_normal ?_
  refine w_seq ?_
  refine w_seq ?_
  refine w_lit ?_
  refine wl_pure (wants0 rfl) (d := 13) (v := (.int .i64 (0))) rfl (by kernel_rfl) ?_
  refine w_nil ?_
  refine then_normal ?_
  refine w_block ?_
  have H18 := H17.addNil 49 38
  refine wp_round [12, 13, 14, 23, 24, 25, 26, 27, 28, 29, 30, 31, 32, 33, 34, 35, 36, 37, 38, 39, 40, 41, 42, 43, 44, 45, 46, 47, 48, 49, 50, 51, 52, 53, 54, 55, 56, 57, 58, 59, 60, 61, 62, 63, 64, 65] (fun F_ W_ m_ => ∃ (i : Nat) (a : Option Addr) (c : Nat) (D : List StampD), F_ 13 = (.int .i64 ((i : Int))) ∧ F_ 12 = (.slice a D.length c) ∧ (i ≤ S.length) ∧ (i ≤ 12) ∧ (D.length = i) ∧ Sat w [restC w (fun _ => False), cellC b2 44 (([(.int .i64 (x.cl)), (.int .i64 (x.seq))] : List Value) ++ hc x.h ++ ([(.int .i64 (x.len)), (.int .i64 (x.sb)), (.int .i64 (x.sm))] : List Value)), cellC b10 36 ([(.int .i64 (F)), (.int .i64 (3))] : List Value), rowC 49 38 (.slice a D.length c) D.length (D.flatMap encSt)] W_ ∧ m_ = S.length - i) _ ⟨0, none, 0, [], (show ((.int .i64 (0)) : Value) = _ by first | rfl | go_num), (by first | rfl | go_num), (Nat.zero_le _), (by omega), rfl, H18, rfl⟩ ?_
  rintro g19 w20 _ ⟨i, a, c, D, v22, v23, hi, hi2, hDl, H21, rfl⟩
  refine wp_know 13 _ v22 ?_
  refine wp_know 12 _ v23 ?_
  refine w_seq ?_
  refine w_seq ?_
  refine w_lit ?_
  refine wl_pure (wants0 rfl) (d := 23) (v := (.int .i64 ((i : Int)))) rfl (by kernel_rfl) ?_
  refine wl_pure (wants0 rfl) (d := 24) (v := (.slice sa S.length sc)) rfl (by kernel_rfl) ?_
  refine wl_pure (wants0 rfl) (d := 25) (v := (.int .i64 ((S.length : Int)))) rfl (by kernel_rfl) ?_
  refine wl_pure (wants0 rfl) (d := 26) (v := (.bool (decide ((i : Int) < (S.length : Int))))) rfl (by kernel_rfl) ?_
  refine wl_pure (wants0 rfl) (d := 27) (v := (.bool (decide ((i : Int) < (S.length : Int))))) rfl (by kernel_rfl) ?_
  refine (bsplit (decide ((i : Int) < (S.length : Int)))).elim (fun b25 => ?_) (fun b25 => ?_)
  · have g26 := of_decide_eq_true b25
    refine wl_know 27 (.bool true) (congrArg Value.bool b25) ?_
    have g27 := of_decide_eq_true b25
    refine wl_pure (wantsY 4 27 true rfl (by kernel_rfl) rfl (by kernel_rfl)) (d := 28) (v := (.int .i64 ((i : Int)))) rfl (by kernel_rfl) ?_
    refine wl_pure (wantsY 4 27 true rfl (by kernel_rfl) rfl (by kernel_rfl)) (d := 29) (v := (.bool (decide ((i : Int) < 12)))) rfl (by kernel_rfl) ?_
    refine wl_pure (wants0 rfl) (d := 30) (v := (.bool (decide ((i : Int) < 12)))) rfl (by kernel_rfl) ?_
    refine w_nil ?_
    refine then_normal ?_
    refine (bsplit (decide ((i : Int) < 12))).elim (fun b28 => ?_) (fun b28 => ?_)
    · have g29 := of_decide_eq_true b28
      refine wp_know 30 (.bool true) (congrArg Value.bool b28) ?_
      have g30 := of_decide_eq_true b28
      refine wp_ift rfl ?_
      refine w_skip ?_
      refine then_normal ?_
      refine w_seq ?_
      refine w_block ?_
      refine w_seq ?_
      refine w_lit ?_
      refine wl_pure (wants0 rfl) (d := 33) (v := (.slice sa S.length sc)) rfl (by kernel_rfl) ?_
      refine wl_pure (wants0 rfl) (d := 34) (v := (.int .i64 ((i : Int)))) rfl (by kernel_rfl) ?_
      obtain ⟨g31, o32, c33, e34, R35⟩ := SliceOf.atD hS stamp0 (show i < S.length by omega)
      refine wl_pure (wants0 rfl) (d := 35) (v := (.pointer (some ⟨g31, o32 + ((i : Int)).toNat * 38, none⟩))) rfl (e_indexAddrW (E := 49) (by kernel_rfl) (by kernel_rfl) (Nat.le_of_ble_eq_true rfl) rfl e34 rfl (by omega) (by omega)) ?_
      refine wl_pure (wants0 rfl) (d := 36) (v := (.agg ⟨(([(.int .i64 ((S.getD i stamp0).r)), (.int .i64 ((S.getD i stamp0).cl)), (.int .i64 ((S.getD i stamp0).seq))] : List Value) ++ hc (S.getD i stamp0).h ++ ([(.int .u64 ((S.getD i stamp0).t)), (.int .i64 ((S.getD i stamp0).sb)), (.int .i64 ((S.getD i stamp0).sm))] : List Value))⟩)) rfl (e_loadRun (vs := (([(.int .i64 ((S.getD i stamp0).r)), (.int .i64 ((S.getD i stamp0).cl)), (.int .i64 ((S.getD i stamp0).seq))] : List Value) ++ hc (S.getD i stamp0).h ++ ([(.int .u64 ((S.getD i stamp0).t)), (.int .i64 ((S.getD i stamp0).sb)), (.int .i64 ((S.getD i stamp0).sm))] : List Value))) rfl (by kernel_rfl) (by kernel_rfl) (Nat.le_of_ble_eq_true (by kernel_rfl)) (H21.runR 0 rfl (cells_run R35 0 (by kernel_rfl) (show o32 + ((i : Int)).toNat * 38 = o32 + i * 38 + 0 by omega)) (fun h => h))) ?_
      refine wl_do (wants0 rfl) (fun K36 hK36 => ?_)
      refine d_alloc (zs := (([(.int .i64 (0)), (.int .i64 (0)), (.int .i64 (0))] : List Value) ++ hc hash0 ++ ([(.int .u64 (0)), (.int .i64 (0)), (.int .i64 (0))] : List Value))) (z := (.agg ⟨(([(.int .i64 (0)), (.int .i64 (0)), (.int .i64 (0))] : List Value) ++ hc hash0 ++ ([(.int .u64 (0)), (.int .i64 (0)), (.int .i64 (0))] : List Value))⟩)) rfl H21 (by kernel_rfl) (by kernel_rfl) ?_
      intro b37 w38 (H39 : Sat w [restC w (fun _ => False), cellC b2 44 (([(.int .i64 (x.cl)), (.int .i64 (x.seq))] : List Value) ++ hc x.h ++ ([(.int .i64 (x.len)), (.int .i64 (x.sb)), (.int .i64 (x.sm))] : List Value)), cellC b10 36 ([(.int .i64 (F)), (.int .i64 (3))] : List Value), rowC 49 38 (.slice a D.length c) D.length (D.flatMap encSt), cellC b37 49 (([(.int .i64 (0)), (.int .i64 (0)), (.int .i64 (0))] : List Value) ++ hc hash0 ++ ([(.int .u64 (0)), (.int .i64 (0)), (.int .i64 (0))] : List Value))] w38)
      refine hK36 _ _ ?_
      clear hK36 K36
      refine wl_do (wants0 rfl) (fun K40 hK40 => ?_)
      refine d_storeX (vs := (([(.int .i64 ((S.getD i stamp0).r)), (.int .i64 ((S.getD i stamp0).cl)), (.int .i64 ((S.getD i stamp0).seq))] : List Value) ++ hc (S.getD i stamp0).h ++ ([(.int .u64 ((S.getD i stamp0).t)), (.int .i64 ((S.getD i stamp0).sb)), (.int .i64 ((S.getD i stamp0).sm))] : List Value))) (cs' := (([(.int .i64 ((S.getD i stamp0).r)), (.int .i64 ((S.getD i stamp0).cl)), (.int .i64 ((S.getD i stamp0).seq))] : List Value) ++ hc (S.getD i stamp0).h ++ ([(.int .u64 ((S.getD i stamp0).t)), (.int .i64 ((S.getD i stamp0).sb)), (.int .i64 ((S.getD i stamp0).sm))] : List Value))) rfl H39 4 rfl rfl rfl rfl (by kernel_rfl) (Nat.le_of_ble_eq_true (by kernel_rfl)) (Nat.le_of_ble_eq_true (by kernel_rfl)) (by kernel_rfl) (by kernel_rfl) ?_
      intro w41 (H42 : Sat w [restC w (fun _ => False), cellC b2 44 (([(.int .i64 (x.cl)), (.int .i64 (x.seq))] : List Value) ++ hc x.h ++ ([(.int .i64 (x.len)), (.int .i64 (x.sb)), (.int .i64 (x.sm))] : List Value)), cellC b10 36 ([(.int .i64 (F)), (.int .i64 (3))] : List Value), rowC 49 38 (.slice a D.length c) D.length (D.flatMap encSt), cellC b37 49 (([(.int .i64 ((S.getD i stamp0).r)), (.int .i64 ((S.getD i stamp0).cl)), (.int .i64 ((S.getD i stamp0).seq))] : List Value) ++ hc (S.getD i stamp0).h ++ ([(.int .u64 ((S.getD i stamp0).t)), (.int .i64 ((S.getD i stamp0).sb)), (.int .i64 ((S.getD i stamp0).sm))] : List Value))] w41)
      refine hK40 _ _ ?_
      clear hK40 K40
      refine w_nil ?_
      refine then_normal ?_
      refine w_seq ?_
      refine w_seq ?_
      refine w_lit ?_
      refine wl_pure (wants0 rfl) (d := 37) (v := (.int .i64 ((i : Int)))) rfl (by kernel_rfl) ?_
      refine wl_pure (wants0 rfl) (d := 38) (v := (.slice ra R.length rc)) rfl (by kernel_rfl) ?_
      refine wl_pure (wants0 rfl) (d := 39) (v := (.int .i64 ((R.length : Int)))) rfl (by kernel_rfl) ?_
      refine wl_pure (wants0 rfl) (d := 40) (v := (.bool (decide ((i : Int) < (R.length : Int))))) rfl (by kernel_rfl) ?_
      refine w_nil ?_
      refine then_normal ?_
      refine (bsplit (decide ((i : Int) < (R.length : Int)))).elim (fun b44 => ?_) (fun b44 => ?_)
      · have g45 := of_decide_eq_true b44
        refine wp_know 40 (.bool true) (congrArg Value.bool b44) ?_
        have g46 := of_decide_eq_true b44
        refine wp_ift rfl ?_
        obtain ⟨g47, o48, c49, e50, R51⟩ := IntsAt.atD hR (show i < R.length by omega)
        obtain ⟨g52, o53, c54, e55, R56⟩ := IntsAt.atD hR (show i < R.length by omega)
        refine h_start H42 [restC w (fun _ => False), cellC b2 44 (([(.int .i64 (x.cl)), (.int .i64 (x.seq))] : List Value) ++ hc x.h ++ ([(.int .i64 (x.len)), (.int .i64 (x.sb)), (.int .i64 (x.sm))] : List Value)), cellC b10 36 ([(.int .i64 (F)), (.int .i64 (3))] : List Value), rowC 49 38 (.slice a D.length c) D.length (D.flatMap encSt)] 11 rfl (by kernel_rfl) (fun Hx => (Hx.pick [0, 1, 2, 3] (by decide))) ?_
        intro w57 H58 S59
        refine h_val 0 rfl (by kernel_rfl) (by kernel_rfl) (by kernel_rfl) (fun _ _ _ h => h) S59 (wants0 rfl) (d := 41) (v := (.slice ra R.length rc)) rfl (fun _ H' => (by kernel_rfl)) ?_
        refine h_val 1 rfl (by kernel_rfl) (by kernel_rfl) (by kernel_rfl) (fun _ _ _ h => h) S59 (wants0 rfl) (d := 42) (v := (.int .i64 ((i : Int)))) rfl (fun _ H' => (by kernel_rfl)) ?_
        obtain ⟨g60, o61, c62, e63, R64⟩ := IntsAt.atD hR (show i < R.length by omega)
        refine h_val 2 rfl (by kernel_rfl) (by kernel_rfl) (by kernel_rfl) (fun _ _ _ h => h) S59 (wants0 rfl) (d := 43) (v := (.pointer (some ⟨g60, o61 + ((i : Int)).toNat * 1, none⟩))) rfl (fun _ H' => (e_indexAddrW (E := 3) (by kernel_rfl) (by kernel_rfl) (Nat.le_of_ble_eq_true rfl) rfl e63 rfl (by omega) (by omega))) ?_
        refine h_val 3 rfl (by kernel_rfl) (by kernel_rfl) (by kernel_rfl) (fun _ _ _ h => h) S59 (wants0 rfl) (d := 44) (v := (.int .i64 ((R.getD i 0)))) rfl (fun _ H' => (e_load1 rfl (by kernel_rfl) (H'.cellR 0 rfl (cells_at R64 0 (by kernel_rfl) (show o61 + ((i : Int)).toNat * 1 = o61 + i * 1 + 0 by omega)) (fun h => h)))) ?_
        refine h_val 4 rfl (by kernel_rfl) (by kernel_rfl) (by kernel_rfl) (fun _ _ _ h => h) S59 (wants0 rfl) (d := 45) (v := (.agg ⟨([(.int .i64 (F)), (.int .i64 (3))] : List Value)⟩)) rfl (fun _ H' => (e_loadN (vs := ([(.int .i64 (F)), (.int .i64 (3))] : List Value)) rfl (by kernel_rfl) (by kernel_rfl) (by exact Nat.le_of_ble_eq_true (by kernel_rfl)) (H'.at 2 rfl) (by kernel_rfl))) ?_
        refine h_do 5 rfl (by kernel_rfl) (wants0 rfl) (fun K65 hK65 => ?_)
        refine d_call (d := 46) rfl (by kernel_rfl) (zrN_any w57 F 3 (by omega)) ?_
        rintro _ w66 ⟨rfl, u68⟩
        have H67 := H58.keepU u68
        refine ⟨_, rfl, ?_⟩
        have S69 := H67.pick [0, 1, 2, 3] (by decide)
        refine hK65 _ _ S69 ?_
        clear hK65 K65
        refine h_val 6 rfl (by kernel_rfl) (by kernel_rfl) (by kernel_rfl) (fun _ _ _ h => h) S69 (wants0 rfl) (d := 47) (v := (.int .i64 ((3 * F + 1) + 2))) rfl (fun _ H' => (e_int (z := (3 * F + 1) + 2) (by kernel_rfl) (IntWalk.i64_in _ (by omega)))) ?_
        refine h_do 7 rfl (by kernel_rfl) (wants0 rfl) (fun K70 hK70 => ?_)
        refine d_call (d := 48) rfl (by kernel_rfl) (within_any w66 (R.getD i 0) ((3 * F + 1) + 2) (by omega)) ?_
        rintro _ w71 ⟨rfl, u73⟩
        have H72 := H67.keepU u73
        refine ⟨_, rfl, ?_⟩
        have S74 := H72.pick [0, 1, 2, 3] (by decide)
        refine hK70 _ _ S74 ?_
        clear hK70 K70
        refine h_val 8 rfl (by kernel_rfl) (by kernel_rfl) (by kernel_rfl) (fun _ _ _ h => h) S74 (wants0 rfl) (d := 49) (v := (.int .i64 (IntKind.i64.wrap ((withinV (R.getD i 0) ((3 * F + 1) + 2)) - 1)))) rfl (fun _ H' => (by kernel_rfl)) ?_
        refine h_val 9 rfl (by kernel_rfl) (by kernel_rfl) (by kernel_rfl) (fun _ _ _ h => h) S74 (wants0 rfl) (d := 50) (v := (.pointer (some ⟨b37, 0, none⟩))) rfl (fun _ H' => (by kernel_rfl)) ?_
        refine h_do 10 rfl (by kernel_rfl) (wants0 rfl) (fun K75 hK75 => ?_)
        refine d_storeX (vs := ([(.int .i64 (IntKind.i64.wrap ((withinV (R.getD i 0) ((3 * F + 1) + 2)) - 1)))] : List Value)) (cs' := (([(.int .i64 (IntKind.i64.wrap ((withinV (R.getD i 0) ((3 * F + 1) + 2)) - 1))), (.int .i64 ((S.getD i stamp0).cl)), (.int .i64 ((S.getD i stamp0).seq))] : List Value) ++ hc (S.getD i stamp0).h ++ ([(.int .u64 ((S.getD i stamp0).t)), (.int .i64 ((S.getD i stamp0).sb)), (.int .i64 ((S.getD i stamp0).sm))] : List Value))) rfl H72 4 rfl rfl rfl rfl (by kernel_rfl) (Nat.le_of_ble_eq_true (by kernel_rfl)) (Nat.le_of_ble_eq_true (by kernel_rfl)) (by kernel_rfl) (by kernel_rfl) ?_
        intro w76 (H77 : Sat w [restC w (fun _ => False), cellC b2 44 (([(.int .i64 (x.cl)), (.int .i64 (x.seq))] : List Value) ++ hc x.h ++ ([(.int .i64 (x.len)), (.int .i64 (x.sb)), (.int .i64 (x.sm))] : List Value)), cellC b10 36 ([(.int .i64 (F)), (.int .i64 (3))] : List Value), rowC 49 38 (.slice a D.length c) D.length (D.flatMap encSt), cellC b37 49 (([(.int .i64 (IntKind.i64.wrap ((withinV (R.getD i 0) ((3 * F + 1) + 2)) - 1))), (.int .i64 ((S.getD i stamp0).cl)), (.int .i64 ((S.getD i stamp0).seq))] : List Value) ++ hc (S.getD i stamp0).h ++ ([(.int .u64 ((S.getD i stamp0).t)), (.int .i64 ((S.getD i stamp0).sb)), (.int .i64 ((S.getD i stamp0).sm))] : List Value))] w76)
        have S79 := H77.pick [0, 1, 2, 3] (by decide)
        refine hK75 _ _ S79 ?_
        clear hK75 K75
        refine h_fin (by kernel_rfl) ?_
        refine then_normal ?_
        refine w_seq ?_
        refine w_seq ?_
        refine w_lit ?_
        refine wl_pure (wants0 rfl) (d := 51) (v := (.int .i64 ((i : Int)))) rfl (by kernel_rfl) ?_
        refine wl_pure (wants0 rfl) (d := 52) (v := (.int .i64 (same))) rfl (by kernel_rfl) ?_
        refine wl_pure (wants0 rfl) (d := 53) (v := (.int .i64 (IntKind.i64.wrap ((i : Int) + same)))) rfl (by kernel_rfl) ?_
        refine wl_pure (wants0 rfl) (d := 54) (v := (.int .i64 (Int.tmod (IntKind.i64.wrap ((i : Int) + same)) 5))) rfl (e_tmod (by kernel_rfl) (by omega)) ?_
        refine wl_pure (wants0 rfl) (d := 55) (v := (.bool (!(decide ((Int.tmod (IntKind.i64.wrap ((i : Int) + same)) 5) = 4))))) rfl (by kernel_rfl) ?_
        refine w_nil ?_
        refine then_normal ?_
        refine (bsplit (!(decide ((Int.tmod (IntKind.i64.wrap ((i : Int) + same)) 5) = 4)))).elim (fun b80 => ?_) (fun b80 => ?_)
        · have g81 := bnot_true b80
          have g82 := of_decide_eq_false g81
          refine wp_know 55 (.bool true) (congrArg Value.bool b80) ?_
          have g83 := bnot_true b80
          have g84 := of_decide_eq_false g83
          refine wp_ift rfl ?_
          refine h_start H77 [restC w (fun _ => False), cellC b2 44 (([(.int .i64 (x.cl)), (.int .i64 (x.seq))] : List Value) ++ hc x.h ++ ([(.int .i64 (x.len)), (.int .i64 (x.sb)), (.int .i64 (x.sm))] : List Value)), cellC b10 36 ([(.int .i64 (F)), (.int .i64 (3))] : List Value), rowC 49 38 (.slice a D.length c) D.length (D.flatMap encSt)] 8 rfl (by kernel_rfl) (fun Hx => (Hx.pick [0, 1, 2, 3] (by decide))) ?_
          intro w85 H86 S87
          refine h_val 0 rfl (by kernel_rfl) (by kernel_rfl) (by kernel_rfl) (fun _ _ _ h => h) S87 (wants0 rfl) (d := 56) (v := (.pointer (some ⟨b2, 0, none⟩))) rfl (fun _ H' => (by kernel_rfl)) ?_
          refine h_val 1 rfl (by kernel_rfl) (by kernel_rfl) (by kernel_rfl) (fun _ _ _ h => h) S87 (wants0 rfl) (d := 57) (v := (.agg ⟨([(.int .i64 (x.cl)), (.int .i64 (x.seq))] : List Value)⟩)) rfl (fun _ H' => (e_loadN (vs := ([(.int .i64 (x.cl)), (.int .i64 (x.seq))] : List Value)) rfl (by kernel_rfl) (by kernel_rfl) (by exact Nat.le_of_ble_eq_true (by kernel_rfl)) (H'.at 1 rfl) (by kernel_rfl))) ?_
          refine h_val 2 rfl (by kernel_rfl) (by kernel_rfl) (by kernel_rfl) (fun _ _ _ h => h) S87 (wants0 rfl) (d := 58) (v := (.pointer (some ⟨b2, 2, none⟩))) rfl (fun _ H' => (by kernel_rfl)) ?_
          refine h_val 3 rfl (by kernel_rfl) (by kernel_rfl) (by kernel_rfl) (fun _ _ _ h => h) S87 (wants0 rfl) (d := 59) (v := (.agg ⟨(hc x.h)⟩)) rfl (fun _ H' => (e_loadN (vs := (hc x.h)) rfl (by kernel_rfl) (by kernel_rfl) (by exact Nat.le_of_ble_eq_true (by kernel_rfl)) (H'.at 1 rfl) (by kernel_rfl))) ?_
          refine h_val 4 rfl (by kernel_rfl) (by kernel_rfl) (by kernel_rfl) (fun _ _ _ h => h) S87 (wants0 rfl) (d := 60) (v := (.pointer (some ⟨b37, 1, none⟩))) rfl (fun _ H' => (by kernel_rfl)) ?_
          refine h_do 5 rfl (by kernel_rfl) (wants0 rfl) (fun K88 hK88 => ?_)
          refine d_storeX (vs := ([(.int .i64 (x.cl)), (.int .i64 (x.seq))] : List Value)) (cs' := (([(.int .i64 (IntKind.i64.wrap ((withinV (R.getD i 0) ((3 * F + 1) + 2)) - 1))), (.int .i64 (x.cl)), (.int .i64 (x.seq))] : List Value) ++ hc (S.getD i stamp0).h ++ ([(.int .u64 ((S.getD i stamp0).t)), (.int .i64 ((S.getD i stamp0).sb)), (.int .i64 ((S.getD i stamp0).sm))] : List Value))) rfl H86 4 rfl rfl rfl rfl (by kernel_rfl) (Nat.le_of_ble_eq_true (by kernel_rfl)) (Nat.le_of_ble_eq_true (by kernel_rfl)) (by kernel_rfl) (by kernel_rfl) ?_
          intro w89 (H90 : Sat w [restC w (fun _ => False), cellC b2 44 (([(.int .i64 (x.cl)), (.int .i64 (x.seq))] : List Value) ++ hc x.h ++ ([(.int .i64 (x.len)), (.int .i64 (x.sb)), (.int .i64 (x.sm))] : List Value)), cellC b10 36 ([(.int .i64 (F)), (.int .i64 (3))] : List Value), rowC 49 38 (.slice a D.length c) D.length (D.flatMap encSt), cellC b37 49 (([(.int .i64 (IntKind.i64.wrap ((withinV (R.getD i 0) ((3 * F + 1) + 2)) - 1))), (.int .i64 (x.cl)), (.int .i64 (x.seq))] : List Value) ++ hc (S.getD i stamp0).h ++ ([(.int .u64 ((S.getD i stamp0).t)), (.int .i64 ((S.getD i stamp0).sb)), (.int .i64 ((S.getD i stamp0).sm))] : List Value))] w89)
          have S92 := H90.pick [0, 1, 2, 3] (by decide)
          refine hK88 _ _ S92 ?_
          clear hK88 K88
          refine h_val 6 rfl (by kernel_rfl) (by kernel_rfl) (by kernel_rfl) (fun _ _ _ h => h) S92 (wants0 rfl) (d := 61) (v := (.pointer (some ⟨b37, 3, none⟩))) rfl (fun _ H' => (by kernel_rfl)) ?_
          refine h_do 7 rfl (by kernel_rfl) (wants0 rfl) (fun K93 hK93 => ?_)
          refine d_storeX (vs := (hc x.h)) (cs' := (([(.int .i64 (IntKind.i64.wrap ((withinV (R.getD i 0) ((3 * F + 1) + 2)) - 1))), (.int .i64 (x.cl)), (.int .i64 (x.seq))] : List Value) ++ hc x.h ++ ([(.int .u64 ((S.getD i stamp0).t)), (.int .i64 ((S.getD i stamp0).sb)), (.int .i64 ((S.getD i stamp0).sm))] : List Value))) rfl H90 4 rfl rfl rfl rfl (by kernel_rfl) (Nat.le_of_ble_eq_true (by kernel_rfl)) (Nat.le_of_ble_eq_true (by kernel_rfl)) (by kernel_rfl) (by kernel_rfl) ?_
          intro w94 (H95 : Sat w [restC w (fun _ => False), cellC b2 44 (([(.int .i64 (x.cl)), (.int .i64 (x.seq))] : List Value) ++ hc x.h ++ ([(.int .i64 (x.len)), (.int .i64 (x.sb)), (.int .i64 (x.sm))] : List Value)), cellC b10 36 ([(.int .i64 (F)), (.int .i64 (3))] : List Value), rowC 49 38 (.slice a D.length c) D.length (D.flatMap encSt), cellC b37 49 (([(.int .i64 (IntKind.i64.wrap ((withinV (R.getD i 0) ((3 * F + 1) + 2)) - 1))), (.int .i64 (x.cl)), (.int .i64 (x.seq))] : List Value) ++ hc x.h ++ ([(.int .u64 ((S.getD i stamp0).t)), (.int .i64 ((S.getD i stamp0).sb)), (.int .i64 ((S.getD i stamp0).sm))] : List Value))] w94)
          have S97 := H95.pick [0, 1, 2, 3] (by decide)
          refine hK93 _ _ S97 ?_
          clear hK93 K93
          refine h_fin (by kernel_rfl) ?_
          refine then_normal ?_
          refine w_lit ?_
          refine wl_pure (wants0 rfl) (d := 62) (v := (.slice a D.length c)) rfl (by kernel_rfl) ?_
          refine wl_pure (wants0 rfl) (d := 63) (v := (.agg ⟨(([(.int .i64 (IntKind.i64.wrap ((withinV (R.getD i 0) ((3 * F + 1) + 2)) - 1))), (.int .i64 (x.cl)), (.int .i64 (x.seq))] : List Value) ++ hc x.h ++ ([(.int .u64 ((S.getD i stamp0).t)), (.int .i64 ((S.getD i stamp0).sb)), (.int .i64 ((S.getD i stamp0).sm))] : List Value))⟩)) rfl (e_loadN (vs := (([(.int .i64 (IntKind.i64.wrap ((withinV (R.getD i 0) ((3 * F + 1) + 2)) - 1))), (.int .i64 (x.cl)), (.int .i64 (x.seq))] : List Value) ++ hc x.h ++ ([(.int .u64 ((S.getD i stamp0).t)), (.int .i64 ((S.getD i stamp0).sb)), (.int .i64 ((S.getD i stamp0).sm))] : List Value))) rfl (by kernel_rfl) (by kernel_rfl) (by exact Nat.le_of_ble_eq_true (by kernel_rfl)) (H95.at 4 rfl) (by kernel_rfl)) ?_
          refine wl_do (wants0 rfl) (fun K98 hK98 => ?_)
          refine d_buildSlice (e := 49) (size := 38) (bytes := 80) (z := (.agg ⟨(([(.int .i64 (0)), (.int .i64 (0)), (.int .i64 (0))] : List Value) ++ hc hash0 ++ ([(.int .u64 (0)), (.int .i64 (0)), (.int .i64 (0))] : List Value))⟩)) (pvs := [(0, (.agg ⟨(([(.int .i64 (IntKind.i64.wrap ((withinV (R.getD i 0) ((3 * F + 1) + 2)) - 1))), (.int .i64 (x.cl)), (.int .i64 (x.seq))] : List Value) ++ hc x.h ++ ([(.int .u64 ((S.getD i stamp0).t)), (.int .i64 ((S.getD i stamp0).sb)), (.int .i64 ((S.getD i stamp0).sm))] : List Value))⟩))]) (vs := (([(.int .i64 (IntKind.i64.wrap ((withinV (R.getD i 0) ((3 * F + 1) + 2)) - 1))), (.int .i64 (x.cl)), (.int .i64 (x.seq))] : List Value) ++ hc x.h ++ ([(.int .u64 ((S.getD i stamp0).t)), (.int .i64 ((S.getD i stamp0).sb)), (.int .i64 ((S.getD i stamp0).sm))] : List Value))) rfl H95 (by kernel_rfl) (by kernel_rfl) (by kernel_rfl) (by kernel_rfl) (by kernel_rfl) rfl rfl ?_
          intro b99 w100 (H101 : Sat w [restC w (fun _ => False), cellC b2 44 (([(.int .i64 (x.cl)), (.int .i64 (x.seq))] : List Value) ++ hc x.h ++ ([(.int .i64 (x.len)), (.int .i64 (x.sb)), (.int .i64 (x.sm))] : List Value)), cellC b10 36 ([(.int .i64 (F)), (.int .i64 (3))] : List Value), rowC 49 38 (.slice a D.length c) D.length (D.flatMap encSt), cellC b37 49 (([(.int .i64 (IntKind.i64.wrap ((withinV (R.getD i 0) ((3 * F + 1) + 2)) - 1))), (.int .i64 (x.cl)), (.int .i64 (x.seq))] : List Value) ++ hc x.h ++ ([(.int .u64 ((S.getD i stamp0).t)), (.int .i64 ((S.getD i stamp0).sb)), (.int .i64 ((S.getD i stamp0).sm))] : List Value)), rowC 49 38 (.slice (some ⟨b99, 0, none⟩) 1 1) 1 (([(.int .i64 (IntKind.i64.wrap ((withinV (R.getD i 0) ((3 * F + 1) + 2)) - 1))), (.int .i64 (x.cl)), (.int .i64 (x.seq))] : List Value) ++ hc x.h ++ ([(.int .u64 ((S.getD i stamp0).t)), (.int .i64 ((S.getD i stamp0).sb)), (.int .i64 ((S.getD i stamp0).sm))] : List Value))] w100)
          have H102 : Sat w [restC w (fun _ => False), cellC b2 44 (([(.int .i64 (x.cl)), (.int .i64 (x.seq))] : List Value) ++ hc x.h ++ ([(.int .i64 (x.len)), (.int .i64 (x.sb)), (.int .i64 (x.sm))] : List Value)), cellC b10 36 ([(.int .i64 (F)), (.int .i64 (3))] : List Value), rowC 49 38 (.slice a D.length c) D.length (D.flatMap encSt), cellC b37 49 (([(.int .i64 (IntKind.i64.wrap ((withinV (R.getD i 0) ((3 * F + 1) + 2)) - 1))), (.int .i64 (x.cl)), (.int .i64 (x.seq))] : List Value) ++ hc x.h ++ ([(.int .u64 ((S.getD i stamp0).t)), (.int .i64 ((S.getD i stamp0).sb)), (.int .i64 ((S.getD i stamp0).sm))] : List Value)), rowC 49 38 (.slice (some ⟨b99, 0, none⟩) 1 1) 1 ([(⟨IntKind.i64.wrap ((withinV (R.getD i 0) ((3 * F + 1) + 2)) - 1), x.cl, x.seq, x.h, (S.getD i stamp0).t, (S.getD i stamp0).sb, (S.getD i stamp0).sm⟩ : StampD)].flatMap encSt)] w100 := H101.cast (by rw [show ((([(.int .i64 (IntKind.i64.wrap ((withinV (R.getD i 0) ((3 * F + 1) + 2)) - 1))), (.int .i64 (x.cl)), (.int .i64 (x.seq))] : List Value) ++ hc x.h ++ ([(.int .u64 ((S.getD i stamp0).t)), (.int .i64 ((S.getD i stamp0).sb)), (.int .i64 ((S.getD i stamp0).sm))] : List Value)) : List Value) = [(⟨IntKind.i64.wrap ((withinV (R.getD i 0) ((3 * F + 1) + 2)) - 1), x.cl, x.seq, x.h, (S.getD i stamp0).t, (S.getD i stamp0).sb, (S.getD i stamp0).sm⟩ : StampD)].flatMap encSt from by simp only [List.flatMap_cons, List.flatMap_nil, List.append_nil]; rfl])
          refine hK98 _ _ ?_
          clear hK98 K98
          refine wl_do (wants0 rfl) (fun K103 hK103 => ?_)
          refine d_append (T := 45) (e := 49) (size := 38) (bytes := 80) rfl H102 (by kernel_rfl) 3 5 rfl rfl rfl rfl (flat_one encSt encSt_one [(⟨IntKind.i64.wrap ((withinV (R.getD i 0) ((3 * F + 1) + 2)) - 1), x.cl, x.seq, x.h, (S.getD i stamp0).t, (S.getD i stamp0).sb, (S.getD i stamp0).sm⟩ : StampD)]) (by omega) (by omega) ?_
          intro v104 w105 (H106 : Sat w [restC w (fun _ => False), cellC b2 44 (([(.int .i64 (x.cl)), (.int .i64 (x.seq))] : List Value) ++ hc x.h ++ ([(.int .i64 (x.len)), (.int .i64 (x.sb)), (.int .i64 (x.sm))] : List Value)), cellC b10 36 ([(.int .i64 (F)), (.int .i64 (3))] : List Value), rowC 49 38 v104 (D.length + 1) ((D.flatMap encSt) ++ ([(⟨IntKind.i64.wrap ((withinV (R.getD i 0) ((3 * F + 1) + 2)) - 1), x.cl, x.seq, x.h, (S.getD i stamp0).t, (S.getD i stamp0).sb, (S.getD i stamp0).sm⟩ : StampD)].flatMap encSt)), cellC b37 49 (([(.int .i64 (IntKind.i64.wrap ((withinV (R.getD i 0) ((3 * F + 1) + 2)) - 1))), (.int .i64 (x.cl)), (.int .i64 (x.seq))] : List Value) ++ hc x.h ++ ([(.int .u64 ((S.getD i stamp0).t)), (.int .i64 ((S.getD i stamp0).sb)), (.int .i64 ((S.getD i stamp0).sm))] : List Value)), rowC 49 38 (.slice (some ⟨b99, 0, none⟩) 1 1) 1 ([(⟨IntKind.i64.wrap ((withinV (R.getD i 0) ((3 * F + 1) + 2)) - 1), x.cl, x.seq, x.h, (S.getD i stamp0).t, (S.getD i stamp0).sb, (S.getD i stamp0).sm⟩ : StampD)].flatMap encSt)] w105)
          have H109 : Sat w [restC w (fun _ => False), cellC b2 44 (([(.int .i64 (x.cl)), (.int .i64 (x.seq))] : List Value) ++ hc x.h ++ ([(.int .i64 (x.len)), (.int .i64 (x.sb)), (.int .i64 (x.sm))] : List Value)), cellC b10 36 ([(.int .i64 (F)), (.int .i64 (3))] : List Value), rowC 49 38 v104 ((D ++ [(⟨IntKind.i64.wrap ((withinV (R.getD i 0) ((3 * F + 1) + 2)) - 1), x.cl, x.seq, x.h, (S.getD i stamp0).t, (S.getD i stamp0).sb, (S.getD i stamp0).sm⟩ : StampD)]).length) ((D ++ [(⟨IntKind.i64.wrap ((withinV (R.getD i 0) ((3 * F + 1) + 2)) - 1), x.cl, x.seq, x.h, (S.getD i stamp0).t, (S.getD i stamp0).sb, (S.getD i stamp0).sm⟩ : StampD)]).flatMap encSt), cellC b37 49 (([(.int .i64 (IntKind.i64.wrap ((withinV (R.getD i 0) ((3 * F + 1) + 2)) - 1))), (.int .i64 (x.cl)), (.int .i64 (x.seq))] : List Value) ++ hc x.h ++ ([(.int .u64 ((S.getD i stamp0).t)), (.int .i64 ((S.getD i stamp0).sb)), (.int .i64 ((S.getD i stamp0).sm))] : List Value)), rowC 49 38 (.slice (some ⟨b99, 0, none⟩) 1 1) 1 ([(⟨IntKind.i64.wrap ((withinV (R.getD i 0) ((3 * F + 1) + 2)) - 1), x.cl, x.seq, x.h, (S.getD i stamp0).t, (S.getD i stamp0).sb, (S.getD i stamp0).sm⟩ : StampD)].flatMap encSt)] w105 := H106.cast (by simp only [List.length_append, List.flatMap_append] <;> rfl)
          obtain ⟨a107, c108, rfl⟩ := ownsRow_shape (H109.at 3 rfl)
          refine hK103 _ _ ?_
          clear hK103 K103
          refine wl_pure (wants0 rfl) (d := 12) (v := (.slice a107 ((D ++ [(⟨IntKind.i64.wrap ((withinV (R.getD i 0) ((3 * F + 1) + 2)) - 1), x.cl, x.seq, x.h, (S.getD i stamp0).t, (S.getD i stamp0).sb, (S.getD i stamp0).sm⟩ : StampD)]).length) c108)) rfl (by kernel_rfl) ?_
          refine w_nil ?_
          refine blk_normal ?_
          refine then_normal ?_
          refine w_lit ?_
          refine wl_pure (wants0 rfl) (d := 31) (v := (.int .i64 ((i : Int)))) rfl (by kernel_rfl) ?_
          refine wl_pure (wants0 rfl) (d := 32) (v := (.int .i64 ((i : Int) + 1))) rfl (e_int (z := (i : Int) + 1) (by kernel_rfl) (IntWalk.i64_in _ (by omega))) ?_
          refine wl_pure (wants0 rfl) (d := 13) (v := (.int .i64 ((i : Int) + 1))) rfl (by kernel_rfl) ?_
          refine w_nil ?_
          have H110 : Sat w [restC w (fun _ => False), cellC b2 44 (([(.int .i64 (x.cl)), (.int .i64 (x.seq))] : List Value) ++ hc x.h ++ ([(.int .i64 (x.len)), (.int .i64 (x.sb)), (.int .i64 (x.sm))] : List Value)), cellC b10 36 ([(.int .i64 (F)), (.int .i64 (3))] : List Value), rowC 49 38 (.slice a107 ((D ++ [(⟨IntKind.i64.wrap ((withinV (R.getD i 0) ((3 * F + 1) + 2)) - 1), x.cl, x.seq, x.h, (S.getD i stamp0).t, (S.getD i stamp0).sb, (S.getD i stamp0).sm⟩ : StampD)]).length) c108) ((D ++ [(⟨IntKind.i64.wrap ((withinV (R.getD i 0) ((3 * F + 1) + 2)) - 1), x.cl, x.seq, x.h, (S.getD i stamp0).t, (S.getD i stamp0).sb, (S.getD i stamp0).sm⟩ : StampD)]).length) ((D ++ [(⟨IntKind.i64.wrap ((withinV (R.getD i 0) ((3 * F + 1) + 2)) - 1), x.cl, x.seq, x.h, (S.getD i stamp0).t, (S.getD i stamp0).sb, (S.getD i stamp0).sm⟩ : StampD)]).flatMap encSt)] w105 := H109.pick [0, 1, 2, 3] (by decide)
          refine round_back ?_ _ ⟨(i + 1), a107, c108, (D ++ [(⟨IntKind.i64.wrap ((withinV (R.getD i 0) ((3 * F + 1) + 2)) - 1), x.cl, x.seq, x.h, (S.getD i stamp0).t, (S.getD i stamp0).sb, (S.getD i stamp0).sm⟩ : StampD)]), (show ((.int .i64 ((i : Int) + 1)) : Value) = _ by first | rfl | go_num), (show ((.slice a107 ((D ++ [(⟨IntKind.i64.wrap ((withinV (R.getD i 0) ((3 * F + 1) + 2)) - 1), x.cl, x.seq, x.h, (S.getD i stamp0).t, (S.getD i stamp0).sb, (S.getD i stamp0).sm⟩ : StampD)]).length) c108) : Value) = _ by first | rfl | go_num), (by omega), (by omega), (by simp only [List.length_append, List.length_cons, List.length_nil]; omega), H110, rfl⟩ (by omega)
          exact (same_upd rfl (same_upd rfl (same_upd rfl (same_upd rfl (same_upd rfl (same_upd rfl (same_upd rfl (same_upd rfl (same_upd rfl (same_upd rfl (same_upd rfl (same_upd rfl (same_upd rfl (same_upd rfl (same_upd rfl (same_upd rfl (same_upd rfl (same_upd rfl (same_upd rfl (same_upd rfl (same_upd rfl (same_upd rfl (same_upd rfl (same_upd rfl (same_upd rfl (same_upd rfl (same_upd rfl (same_upd rfl (same_upd rfl (same_upd rfl (same_upd rfl (same_upd rfl (same_upd rfl (same_upd rfl (same_upd rfl (same_upd rfl (same_upd rfl (same_upd rfl (same_upd rfl (same_upd rfl (same_upd rfl (same_upd rfl (same_upd rfl (same_upd rfl (same_upd rfl (same_upd rfl (same_upd rfl (same_upd rfl (same_upd rfl (same_upd rfl (same_upd rfl (same_upd rfl (same_ovr)))))))))))))))))))))))))))))))))))))))))))))))))))))
        · have g111 := bnot_false b80
          have g112 := of_decide_eq_true g111
          refine wp_know 55 (.bool false) (congrArg Value.bool b80) ?_
          have g113 := bnot_false b80
          have g114 := of_decide_eq_true g113
          refine wp_iff rfl ?_
          refine w_skip ?_
          refine then_normal ?_
          refine w_lit ?_
          refine wl_pure (wants0 rfl) (d := 62) (v := (.slice a D.length c)) rfl (by kernel_rfl) ?_
          refine wl_pure (wants0 rfl) (d := 63) (v := (.agg ⟨(([(.int .i64 (IntKind.i64.wrap ((withinV (R.getD i 0) ((3 * F + 1) + 2)) - 1))), (.int .i64 ((S.getD i stamp0).cl)), (.int .i64 ((S.getD i stamp0).seq))] : List Value) ++ hc (S.getD i stamp0).h ++ ([(.int .u64 ((S.getD i stamp0).t)), (.int .i64 ((S.getD i stamp0).sb)), (.int .i64 ((S.getD i stamp0).sm))] : List Value))⟩)) rfl (e_loadN (vs := (([(.int .i64 (IntKind.i64.wrap ((withinV (R.getD i 0) ((3 * F + 1) + 2)) - 1))), (.int .i64 ((S.getD i stamp0).cl)), (.int .i64 ((S.getD i stamp0).seq))] : List Value) ++ hc (S.getD i stamp0).h ++ ([(.int .u64 ((S.getD i stamp0).t)), (.int .i64 ((S.getD i stamp0).sb)), (.int .i64 ((S.getD i stamp0).sm))] : List Value))) rfl (by kernel_rfl) (by kernel_rfl) (by exact Nat.le_of_ble_eq_true (by kernel_rfl)) (H77.at 4 rfl) (by kernel_rfl)) ?_
          refine wl_do (wants0 rfl) (fun K115 hK115 => ?_)
          refine d_buildSlice (e := 49) (size := 38) (bytes := 80) (z := (.agg ⟨(([(.int .i64 (0)), (.int .i64 (0)), (.int .i64 (0))] : List Value) ++ hc hash0 ++ ([(.int .u64 (0)), (.int .i64 (0)), (.int .i64 (0))] : List Value))⟩)) (pvs := [(0, (.agg ⟨(([(.int .i64 (IntKind.i64.wrap ((withinV (R.getD i 0) ((3 * F + 1) + 2)) - 1))), (.int .i64 ((S.getD i stamp0).cl)), (.int .i64 ((S.getD i stamp0).seq))] : List Value) ++ hc (S.getD i stamp0).h ++ ([(.int .u64 ((S.getD i stamp0).t)), (.int .i64 ((S.getD i stamp0).sb)), (.int .i64 ((S.getD i stamp0).sm))] : List Value))⟩))]) (vs := (([(.int .i64 (IntKind.i64.wrap ((withinV (R.getD i 0) ((3 * F + 1) + 2)) - 1))), (.int .i64 ((S.getD i stamp0).cl)), (.int .i64 ((S.getD i stamp0).seq))] : List Value) ++ hc (S.getD i stamp0).h ++ ([(.int .u64 ((S.getD i stamp0).t)), (.int .i64 ((S.getD i stamp0).sb)), (.int .i64 ((S.getD i stamp0).sm))] : List Value))) rfl H77 (by kernel_rfl) (by kernel_rfl) (by kernel_rfl) (by kernel_rfl) (by kernel_rfl) rfl rfl ?_
          intro b116 w117 (H118 : Sat w [restC w (fun _ => False), cellC b2 44 (([(.int .i64 (x.cl)), (.int .i64 (x.seq))] : List Value) ++ hc x.h ++ ([(.int .i64 (x.len)), (.int .i64 (x.sb)), (.int .i64 (x.sm))] : List Value)), cellC b10 36 ([(.int .i64 (F)), (.int .i64 (3))] : List Value), rowC 49 38 (.slice a D.length c) D.length (D.flatMap encSt), cellC b37 49 (([(.int .i64 (IntKind.i64.wrap ((withinV (R.getD i 0) ((3 * F + 1) + 2)) - 1))), (.int .i64 ((S.getD i stamp0).cl)), (.int .i64 ((S.getD i stamp0).seq))] : List Value) ++ hc (S.getD i stamp0).h ++ ([(.int .u64 ((S.getD i stamp0).t)), (.int .i64 ((S.getD i stamp0).sb)), (.int .i64 ((S.getD i stamp0).sm))] : List Value)), rowC 49 38 (.slice (some ⟨b116, 0, none⟩) 1 1) 1 (([(.int .i64 (IntKind.i64.wrap ((withinV (R.getD i 0) ((3 * F + 1) + 2)) - 1))), (.int .i64 ((S.getD i stamp0).cl)), (.int .i64 ((S.getD i stamp0).seq))] : List Value) ++ hc (S.getD i stamp0).h ++ ([(.int .u64 ((S.getD i stamp0).t)), (.int .i64 ((S.getD i stamp0).sb)), (.int .i64 ((S.getD i stamp0).sm))] : List Value))] w117)
          have H119 : Sat w [restC w (fun _ => False), cellC b2 44 (([(.int .i64 (x.cl)), (.int .i64 (x.seq))] : List Value) ++ hc x.h ++ ([(.int .i64 (x.len)), (.int .i64 (x.sb)), (.int .i64 (x.sm))] : List Value)), cellC b10 36 ([(.int .i64 (F)), (.int .i64 (3))] : List Value), rowC 49 38 (.slice a D.length c) D.length (D.flatMap encSt), cellC b37 49 (([(.int .i64 (IntKind.i64.wrap ((withinV (R.getD i 0) ((3 * F + 1) + 2)) - 1))), (.int .i64 ((S.getD i stamp0).cl)), (.int .i64 ((S.getD i stamp0).seq))] : List Value) ++ hc (S.getD i stamp0).h ++ ([(.int .u64 ((S.getD i stamp0).t)), (.int .i64 ((S.getD i stamp0).sb)), (.int .i64 ((S.getD i stamp0).sm))] : List Value)), rowC 49 38 (.slice (some ⟨b116, 0, none⟩) 1 1) 1 ([(⟨IntKind.i64.wrap ((withinV (R.getD i 0) ((3 * F + 1) + 2)) - 1), (S.getD i stamp0).cl, (S.getD i stamp0).seq, (S.getD i stamp0).h, (S.getD i stamp0).t, (S.getD i stamp0).sb, (S.getD i stamp0).sm⟩ : StampD)].flatMap encSt)] w117 := H118.cast (by rw [show ((([(.int .i64 (IntKind.i64.wrap ((withinV (R.getD i 0) ((3 * F + 1) + 2)) - 1))), (.int .i64 ((S.getD i stamp0).cl)), (.int .i64 ((S.getD i stamp0).seq))] : List Value) ++ hc (S.getD i stamp0).h ++ ([(.int .u64 ((S.getD i stamp0).t)), (.int .i64 ((S.getD i stamp0).sb)), (.int .i64 ((S.getD i stamp0).sm))] : List Value)) : List Value) = [(⟨IntKind.i64.wrap ((withinV (R.getD i 0) ((3 * F + 1) + 2)) - 1), (S.getD i stamp0).cl, (S.getD i stamp0).seq, (S.getD i stamp0).h, (S.getD i stamp0).t, (S.getD i stamp0).sb, (S.getD i stamp0).sm⟩ : StampD)].flatMap encSt from by simp only [List.flatMap_cons, List.flatMap_nil, List.append_nil]; rfl])
          refine hK115 _ _ ?_
          clear hK115 K115
          refine wl_do (wants0 rfl) (fun K120 hK120 => ?_)
          refine d_append (T := 45) (e := 49) (size := 38) (bytes := 80) rfl H119 (by kernel_rfl) 3 5 rfl rfl rfl rfl (flat_one encSt encSt_one [(⟨IntKind.i64.wrap ((withinV (R.getD i 0) ((3 * F + 1) + 2)) - 1), (S.getD i stamp0).cl, (S.getD i stamp0).seq, (S.getD i stamp0).h, (S.getD i stamp0).t, (S.getD i stamp0).sb, (S.getD i stamp0).sm⟩ : StampD)]) (by omega) (by omega) ?_
          intro v121 w122 (H123 : Sat w [restC w (fun _ => False), cellC b2 44 (([(.int .i64 (x.cl)), (.int .i64 (x.seq))] : List Value) ++ hc x.h ++ ([(.int .i64 (x.len)), (.int .i64 (x.sb)), (.int .i64 (x.sm))] : List Value)), cellC b10 36 ([(.int .i64 (F)), (.int .i64 (3))] : List Value), rowC 49 38 v121 (D.length + 1) ((D.flatMap encSt) ++ ([(⟨IntKind.i64.wrap ((withinV (R.getD i 0) ((3 * F + 1) + 2)) - 1), (S.getD i stamp0).cl, (S.getD i stamp0).seq, (S.getD i stamp0).h, (S.getD i stamp0).t, (S.getD i stamp0).sb, (S.getD i stamp0).sm⟩ : StampD)].flatMap encSt)), cellC b37 49 (([(.int .i64 (IntKind.i64.wrap ((withinV (R.getD i 0) ((3 * F + 1) + 2)) - 1))), (.int .i64 ((S.getD i stamp0).cl)), (.int .i64 ((S.getD i stamp0).seq))] : List Value) ++ hc (S.getD i stamp0).h ++ ([(.int .u64 ((S.getD i stamp0).t)), (.int .i64 ((S.getD i stamp0).sb)), (.int .i64 ((S.getD i stamp0).sm))] : List Value)), rowC 49 38 (.slice (some ⟨b116, 0, none⟩) 1 1) 1 ([(⟨IntKind.i64.wrap ((withinV (R.getD i 0) ((3 * F + 1) + 2)) - 1), (S.getD i stamp0).cl, (S.getD i stamp0).seq, (S.getD i stamp0).h, (S.getD i stamp0).t, (S.getD i stamp0).sb, (S.getD i stamp0).sm⟩ : StampD)].flatMap encSt)] w122)
          have H126 : Sat w [restC w (fun _ => False), cellC b2 44 (([(.int .i64 (x.cl)), (.int .i64 (x.seq))] : List Value) ++ hc x.h ++ ([(.int .i64 (x.len)), (.int .i64 (x.sb)), (.int .i64 (x.sm))] : List Value)), cellC b10 36 ([(.int .i64 (F)), (.int .i64 (3))] : List Value), rowC 49 38 v121 ((D ++ [(⟨IntKind.i64.wrap ((withinV (R.getD i 0) ((3 * F + 1) + 2)) - 1), (S.getD i stamp0).cl, (S.getD i stamp0).seq, (S.getD i stamp0).h, (S.getD i stamp0).t, (S.getD i stamp0).sb, (S.getD i stamp0).sm⟩ : StampD)]).length) ((D ++ [(⟨IntKind.i64.wrap ((withinV (R.getD i 0) ((3 * F + 1) + 2)) - 1), (S.getD i stamp0).cl, (S.getD i stamp0).seq, (S.getD i stamp0).h, (S.getD i stamp0).t, (S.getD i stamp0).sb, (S.getD i stamp0).sm⟩ : StampD)]).flatMap encSt), cellC b37 49 (([(.int .i64 (IntKind.i64.wrap ((withinV (R.getD i 0) ((3 * F + 1) + 2)) - 1))), (.int .i64 ((S.getD i stamp0).cl)), (.int .i64 ((S.getD i stamp0).seq))] : List Value) ++ hc (S.getD i stamp0).h ++ ([(.int .u64 ((S.getD i stamp0).t)), (.int .i64 ((S.getD i stamp0).sb)), (.int .i64 ((S.getD i stamp0).sm))] : List Value)), rowC 49 38 (.slice (some ⟨b116, 0, none⟩) 1 1) 1 ([(⟨IntKind.i64.wrap ((withinV (R.getD i 0) ((3 * F + 1) + 2)) - 1), (S.getD i stamp0).cl, (S.getD i stamp0).seq, (S.getD i stamp0).h, (S.getD i stamp0).t, (S.getD i stamp0).sb, (S.getD i stamp0).sm⟩ : StampD)].flatMap encSt)] w122 := H123.cast (by simp only [List.length_append, List.flatMap_append] <;> rfl)
          obtain ⟨a124, c125, rfl⟩ := ownsRow_shape (H126.at 3 rfl)
          refine hK120 _ _ ?_
          clear hK120 K120
          refine wl_pure (wants0 rfl) (d := 12) (v := (.slice a124 ((D ++ [(⟨IntKind.i64.wrap ((withinV (R.getD i 0) ((3 * F + 1) + 2)) - 1), (S.getD i stamp0).cl, (S.getD i stamp0).seq, (S.getD i stamp0).h, (S.getD i stamp0).t, (S.getD i stamp0).sb, (S.getD i stamp0).sm⟩ : StampD)]).length) c125)) rfl (by kernel_rfl) ?_
          refine w_nil ?_
          refine blk_normal ?_
          refine then_normal ?_
          refine w_lit ?_
          refine wl_pure (wants0 rfl) (d := 31) (v := (.int .i64 ((i : Int)))) rfl (by kernel_rfl) ?_
          refine wl_pure (wants0 rfl) (d := 32) (v := (.int .i64 ((i : Int) + 1))) rfl (e_int (z := (i : Int) + 1) (by kernel_rfl) (IntWalk.i64_in _ (by omega))) ?_
          refine wl_pure (wants0 rfl) (d := 13) (v := (.int .i64 ((i : Int) + 1))) rfl (by kernel_rfl) ?_
          refine w_nil ?_
          have H127 : Sat w [restC w (fun _ => False), cellC b2 44 (([(.int .i64 (x.cl)), (.int .i64 (x.seq))] : List Value) ++ hc x.h ++ ([(.int .i64 (x.len)), (.int .i64 (x.sb)), (.int .i64 (x.sm))] : List Value)), cellC b10 36 ([(.int .i64 (F)), (.int .i64 (3))] : List Value), rowC 49 38 (.slice a124 ((D ++ [(⟨IntKind.i64.wrap ((withinV (R.getD i 0) ((3 * F + 1) + 2)) - 1), (S.getD i stamp0).cl, (S.getD i stamp0).seq, (S.getD i stamp0).h, (S.getD i stamp0).t, (S.getD i stamp0).sb, (S.getD i stamp0).sm⟩ : StampD)]).length) c125) ((D ++ [(⟨IntKind.i64.wrap ((withinV (R.getD i 0) ((3 * F + 1) + 2)) - 1), (S.getD i stamp0).cl, (S.getD i stamp0).seq, (S.getD i stamp0).h, (S.getD i stamp0).t, (S.getD i stamp0).sb, (S.getD i stamp0).sm⟩ : StampD)]).length) ((D ++ [(⟨IntKind.i64.wrap ((withinV (R.getD i 0) ((3 * F + 1) + 2)) - 1), (S.getD i stamp0).cl, (S.getD i stamp0).seq, (S.getD i stamp0).h, (S.getD i stamp0).t, (S.getD i stamp0).sb, (S.getD i stamp0).sm⟩ : StampD)]).flatMap encSt)] w122 := H126.pick [0, 1, 2, 3] (by decide)
          refine round_back ?_ _ ⟨(i + 1), a124, c125, (D ++ [(⟨IntKind.i64.wrap ((withinV (R.getD i 0) ((3 * F + 1) + 2)) - 1), (S.getD i stamp0).cl, (S.getD i stamp0).seq, (S.getD i stamp0).h, (S.getD i stamp0).t, (S.getD i stamp0).sb, (S.getD i stamp0).sm⟩ : StampD)]), (show ((.int .i64 ((i : Int) + 1)) : Value) = _ by first | rfl | go_num), (show ((.slice a124 ((D ++ [(⟨IntKind.i64.wrap ((withinV (R.getD i 0) ((3 * F + 1) + 2)) - 1), (S.getD i stamp0).cl, (S.getD i stamp0).seq, (S.getD i stamp0).h, (S.getD i stamp0).t, (S.getD i stamp0).sb, (S.getD i stamp0).sm⟩ : StampD)]).length) c125) : Value) = _ by first | rfl | go_num), (by omega), (by omega), (by simp only [List.length_append, List.length_cons, List.length_nil]; omega), H127, rfl⟩ (by omega)
          exact (same_upd rfl (same_upd rfl (same_upd rfl (same_upd rfl (same_upd rfl (same_upd rfl (same_upd rfl (same_upd rfl (same_upd rfl (same_upd rfl (same_upd rfl (same_upd rfl (same_upd rfl (same_upd rfl (same_upd rfl (same_upd rfl (same_upd rfl (same_upd rfl (same_upd rfl (same_upd rfl (same_upd rfl (same_upd rfl (same_upd rfl (same_upd rfl (same_upd rfl (same_upd rfl (same_upd rfl (same_upd rfl (same_upd rfl (same_upd rfl (same_upd rfl (same_upd rfl (same_upd rfl (same_upd rfl (same_upd rfl (same_upd rfl (same_upd rfl (same_upd rfl (same_upd rfl (same_upd rfl (same_upd rfl (same_upd rfl (same_upd rfl (same_upd rfl (same_upd rfl (same_upd rfl (same_ovr)))))))))))))))))))))))))))))))))))))))))))))))
      · have g128 := of_decide_eq_false b44
        refine wp_know 40 (.bool false) (congrArg Value.bool b44) ?_
        have g129 := of_decide_eq_false b44
        refine wp_iff rfl ?_
        refine w_skip ?_
        refine then_normal ?_
        refine w_seq ?_
        refine w_seq ?_
        refine w_lit ?_
        refine wl_pure (wants0 rfl) (d := 51) (v := (.int .i64 ((i : Int)))) rfl (by kernel_rfl) ?_
        refine wl_pure (wants0 rfl) (d := 52) (v := (.int .i64 (same))) rfl (by kernel_rfl) ?_
        refine wl_pure (wants0 rfl) (d := 53) (v := (.int .i64 (IntKind.i64.wrap ((i : Int) + same)))) rfl (by kernel_rfl) ?_
        refine wl_pure (wants0 rfl) (d := 54) (v := (.int .i64 (Int.tmod (IntKind.i64.wrap ((i : Int) + same)) 5))) rfl (e_tmod (by kernel_rfl) (by omega)) ?_
        refine wl_pure (wants0 rfl) (d := 55) (v := (.bool (!(decide ((Int.tmod (IntKind.i64.wrap ((i : Int) + same)) 5) = 4))))) rfl (by kernel_rfl) ?_
        refine w_nil ?_
        refine then_normal ?_
        refine (bsplit (!(decide ((Int.tmod (IntKind.i64.wrap ((i : Int) + same)) 5) = 4)))).elim (fun b130 => ?_) (fun b130 => ?_)
        · have g131 := bnot_true b130
          have g132 := of_decide_eq_false g131
          refine wp_know 55 (.bool true) (congrArg Value.bool b130) ?_
          have g133 := bnot_true b130
          have g134 := of_decide_eq_false g133
          refine wp_ift rfl ?_
          refine h_start H42 [restC w (fun _ => False), cellC b2 44 (([(.int .i64 (x.cl)), (.int .i64 (x.seq))] : List Value) ++ hc x.h ++ ([(.int .i64 (x.len)), (.int .i64 (x.sb)), (.int .i64 (x.sm))] : List Value)), cellC b10 36 ([(.int .i64 (F)), (.int .i64 (3))] : List Value), rowC 49 38 (.slice a D.length c) D.length (D.flatMap encSt)] 8 rfl (by kernel_rfl) (fun Hx => (Hx.pick [0, 1, 2, 3] (by decide))) ?_
          intro w135 H136 S137
          refine h_val 0 rfl (by kernel_rfl) (by kernel_rfl) (by kernel_rfl) (fun _ _ _ h => h) S137 (wants0 rfl) (d := 56) (v := (.pointer (some ⟨b2, 0, none⟩))) rfl (fun _ H' => (by kernel_rfl)) ?_
          refine h_val 1 rfl (by kernel_rfl) (by kernel_rfl) (by kernel_rfl) (fun _ _ _ h => h) S137 (wants0 rfl) (d := 57) (v := (.agg ⟨([(.int .i64 (x.cl)), (.int .i64 (x.seq))] : List Value)⟩)) rfl (fun _ H' => (e_loadN (vs := ([(.int .i64 (x.cl)), (.int .i64 (x.seq))] : List Value)) rfl (by kernel_rfl) (by kernel_rfl) (by exact Nat.le_of_ble_eq_true (by kernel_rfl)) (H'.at 1 rfl) (by kernel_rfl))) ?_
          refine h_val 2 rfl (by kernel_rfl) (by kernel_rfl) (by kernel_rfl) (fun _ _ _ h => h) S137 (wants0 rfl) (d := 58) (v := (.pointer (some ⟨b2, 2, none⟩))) rfl (fun _ H' => (by kernel_rfl)) ?_
          refine h_val 3 rfl (by kernel_rfl) (by kernel_rfl) (by kernel_rfl) (fun _ _ _ h => h) S137 (wants0 rfl) (d := 59) (v := (.agg ⟨(hc x.h)⟩)) rfl (fun _ H' => (e_loadN (vs := (hc x.h)) rfl (by kernel_rfl) (by kernel_rfl) (by exact Nat.le_of_ble_eq_true (by kernel_rfl)) (H'.at 1 rfl) (by kernel_rfl))) ?_
          refine h_val 4 rfl (by kernel_rfl) (by kernel_rfl) (by kernel_rfl) (fun _ _ _ h => h) S137 (wants0 rfl) (d := 60) (v := (.pointer (some ⟨b37, 1, none⟩))) rfl (fun _ H' => (by kernel_rfl)) ?_
          refine h_do 5 rfl (by kernel_rfl) (wants0 rfl) (fun K138 hK138 => ?_)
          refine d_storeX (vs := ([(.int .i64 (x.cl)), (.int .i64 (x.seq))] : List Value)) (cs' := (([(.int .i64 ((S.getD i stamp0).r)), (.int .i64 (x.cl)), (.int .i64 (x.seq))] : List Value) ++ hc (S.getD i stamp0).h ++ ([(.int .u64 ((S.getD i stamp0).t)), (.int .i64 ((S.getD i stamp0).sb)), (.int .i64 ((S.getD i stamp0).sm))] : List Value))) rfl H136 4 rfl rfl rfl rfl (by kernel_rfl) (Nat.le_of_ble_eq_true (by kernel_rfl)) (Nat.le_of_ble_eq_true (by kernel_rfl)) (by kernel_rfl) (by kernel_rfl) ?_
          intro w139 (H140 : Sat w [restC w (fun _ => False), cellC b2 44 (([(.int .i64 (x.cl)), (.int .i64 (x.seq))] : List Value) ++ hc x.h ++ ([(.int .i64 (x.len)), (.int .i64 (x.sb)), (.int .i64 (x.sm))] : List Value)), cellC b10 36 ([(.int .i64 (F)), (.int .i64 (3))] : List Value), rowC 49 38 (.slice a D.length c) D.length (D.flatMap encSt), cellC b37 49 (([(.int .i64 ((S.getD i stamp0).r)), (.int .i64 (x.cl)), (.int .i64 (x.seq))] : List Value) ++ hc (S.getD i stamp0).h ++ ([(.int .u64 ((S.getD i stamp0).t)), (.int .i64 ((S.getD i stamp0).sb)), (.int .i64 ((S.getD i stamp0).sm))] : List Value))] w139)
          have S142 := H140.pick [0, 1, 2, 3] (by decide)
          refine hK138 _ _ S142 ?_
          clear hK138 K138
          refine h_val 6 rfl (by kernel_rfl) (by kernel_rfl) (by kernel_rfl) (fun _ _ _ h => h) S142 (wants0 rfl) (d := 61) (v := (.pointer (some ⟨b37, 3, none⟩))) rfl (fun _ H' => (by kernel_rfl)) ?_
          refine h_do 7 rfl (by kernel_rfl) (wants0 rfl) (fun K143 hK143 => ?_)
          refine d_storeX (vs := (hc x.h)) (cs' := (([(.int .i64 ((S.getD i stamp0).r)), (.int .i64 (x.cl)), (.int .i64 (x.seq))] : List Value) ++ hc x.h ++ ([(.int .u64 ((S.getD i stamp0).t)), (.int .i64 ((S.getD i stamp0).sb)), (.int .i64 ((S.getD i stamp0).sm))] : List Value))) rfl H140 4 rfl rfl rfl rfl (by kernel_rfl) (Nat.le_of_ble_eq_true (by kernel_rfl)) (Nat.le_of_ble_eq_true (by kernel_rfl)) (by kernel_rfl) (by kernel_rfl) ?_
          intro w144 (H145 : Sat w [restC w (fun _ => False), cellC b2 44 (([(.int .i64 (x.cl)), (.int .i64 (x.seq))] : List Value) ++ hc x.h ++ ([(.int .i64 (x.len)), (.int .i64 (x.sb)), (.int .i64 (x.sm))] : List Value)), cellC b10 36 ([(.int .i64 (F)), (.int .i64 (3))] : List Value), rowC 49 38 (.slice a D.length c) D.length (D.flatMap encSt), cellC b37 49 (([(.int .i64 ((S.getD i stamp0).r)), (.int .i64 (x.cl)), (.int .i64 (x.seq))] : List Value) ++ hc x.h ++ ([(.int .u64 ((S.getD i stamp0).t)), (.int .i64 ((S.getD i stamp0).sb)), (.int .i64 ((S.getD i stamp0).sm))] : List Value))] w144)
          have S147 := H145.pick [0, 1, 2, 3] (by decide)
          refine hK143 _ _ S147 ?_
          clear hK143 K143
          refine h_fin (by kernel_rfl) ?_
          refine then_normal ?_
          refine w_lit ?_
          refine wl_pure (wants0 rfl) (d := 62) (v := (.slice a D.length c)) rfl (by kernel_rfl) ?_
          refine wl_pure (wants0 rfl) (d := 63) (v := (.agg ⟨(([(.int .i64 ((S.getD i stamp0).r)), (.int .i64 (x.cl)), (.int .i64 (x.seq))] : List Value) ++ hc x.h ++ ([(.int .u64 ((S.getD i stamp0).t)), (.int .i64 ((S.getD i stamp0).sb)), (.int .i64 ((S.getD i stamp0).sm))] : List Value))⟩)) rfl (e_loadN (vs := (([(.int .i64 ((S.getD i stamp0).r)), (.int .i64 (x.cl)), (.int .i64 (x.seq))] : List Value) ++ hc x.h ++ ([(.int .u64 ((S.getD i stamp0).t)), (.int .i64 ((S.getD i stamp0).sb)), (.int .i64 ((S.getD i stamp0).sm))] : List Value))) rfl (by kernel_rfl) (by kernel_rfl) (by exact Nat.le_of_ble_eq_true (by kernel_rfl)) (H145.at 4 rfl) (by kernel_rfl)) ?_
          refine wl_do (wants0 rfl) (fun K148 hK148 => ?_)
          refine d_buildSlice (e := 49) (size := 38) (bytes := 80) (z := (.agg ⟨(([(.int .i64 (0)), (.int .i64 (0)), (.int .i64 (0))] : List Value) ++ hc hash0 ++ ([(.int .u64 (0)), (.int .i64 (0)), (.int .i64 (0))] : List Value))⟩)) (pvs := [(0, (.agg ⟨(([(.int .i64 ((S.getD i stamp0).r)), (.int .i64 (x.cl)), (.int .i64 (x.seq))] : List Value) ++ hc x.h ++ ([(.int .u64 ((S.getD i stamp0).t)), (.int .i64 ((S.getD i stamp0).sb)), (.int .i64 ((S.getD i stamp0).sm))] : List Value))⟩))]) (vs := (([(.int .i64 ((S.getD i stamp0).r)), (.int .i64 (x.cl)), (.int .i64 (x.seq))] : List Value) ++ hc x.h ++ ([(.int .u64 ((S.getD i stamp0).t)), (.int .i64 ((S.getD i stamp0).sb)), (.int .i64 ((S.getD i stamp0).sm))] : List Value))) rfl H145 (by kernel_rfl) (by kernel_rfl) (by kernel_rfl) (by kernel_rfl) (by kernel_rfl) rfl rfl ?_
          intro b149 w150 (H151 : Sat w [restC w (fun _ => False), cellC b2 44 (([(.int .i64 (x.cl)), (.int .i64 (x.seq))] : List Value) ++ hc x.h ++ ([(.int .i64 (x.len)), (.int .i64 (x.sb)), (.int .i64 (x.sm))] : List Value)), cellC b10 36 ([(.int .i64 (F)), (.int .i64 (3))] : List Value), rowC 49 38 (.slice a D.length c) D.length (D.flatMap encSt), cellC b37 49 (([(.int .i64 ((S.getD i stamp0).r)), (.int .i64 (x.cl)), (.int .i64 (x.seq))] : List Value) ++ hc x.h ++ ([(.int .u64 ((S.getD i stamp0).t)), (.int .i64 ((S.getD i stamp0).sb)), (.int .i64 ((S.getD i stamp0).sm))] : List Value)), rowC 49 38 (.slice (some ⟨b149, 0, none⟩) 1 1) 1 (([(.int .i64 ((S.getD i stamp0).r)), (.int .i64 (x.cl)), (.int .i64 (x.seq))] : List Value) ++ hc x.h ++ ([(.int .u64 ((S.getD i stamp0).t)), (.int .i64 ((S.getD i stamp0).sb)), (.int .i64 ((S.getD i stamp0).sm))] : List Value))] w150)
          have H152 : Sat w [restC w (fun _ => False), cellC b2 44 (([(.int .i64 (x.cl)), (.int .i64 (x.seq))] : List Value) ++ hc x.h ++ ([(.int .i64 (x.len)), (.int .i64 (x.sb)), (.int .i64 (x.sm))] : List Value)), cellC b10 36 ([(.int .i64 (F)), (.int .i64 (3))] : List Value), rowC 49 38 (.slice a D.length c) D.length (D.flatMap encSt), cellC b37 49 (([(.int .i64 ((S.getD i stamp0).r)), (.int .i64 (x.cl)), (.int .i64 (x.seq))] : List Value) ++ hc x.h ++ ([(.int .u64 ((S.getD i stamp0).t)), (.int .i64 ((S.getD i stamp0).sb)), (.int .i64 ((S.getD i stamp0).sm))] : List Value)), rowC 49 38 (.slice (some ⟨b149, 0, none⟩) 1 1) 1 ([(⟨(S.getD i stamp0).r, x.cl, x.seq, x.h, (S.getD i stamp0).t, (S.getD i stamp0).sb, (S.getD i stamp0).sm⟩ : StampD)].flatMap encSt)] w150 := H151.cast (by rw [show ((([(.int .i64 ((S.getD i stamp0).r)), (.int .i64 (x.cl)), (.int .i64 (x.seq))] : List Value) ++ hc x.h ++ ([(.int .u64 ((S.getD i stamp0).t)), (.int .i64 ((S.getD i stamp0).sb)), (.int .i64 ((S.getD i stamp0).sm))] : List Value)) : List Value) = [(⟨(S.getD i stamp0).r, x.cl, x.seq, x.h, (S.getD i stamp0).t, (S.getD i stamp0).sb, (S.getD i stamp0).sm⟩ : StampD)].flatMap encSt from by simp only [List.flatMap_cons, List.flatMap_nil, List.append_nil]; rfl])
          refine hK148 _ _ ?_
          clear hK148 K148
          refine wl_do (wants0 rfl) (fun K153 hK153 => ?_)
          refine d_append (T := 45) (e := 49) (size := 38) (bytes := 80) rfl H152 (by kernel_rfl) 3 5 rfl rfl rfl rfl (flat_one encSt encSt_one [(⟨(S.getD i stamp0).r, x.cl, x.seq, x.h, (S.getD i stamp0).t, (S.getD i stamp0).sb, (S.getD i stamp0).sm⟩ : StampD)]) (by omega) (by omega) ?_
          intro v154 w155 (H156 : Sat w [restC w (fun _ => False), cellC b2 44 (([(.int .i64 (x.cl)), (.int .i64 (x.seq))] : List Value) ++ hc x.h ++ ([(.int .i64 (x.len)), (.int .i64 (x.sb)), (.int .i64 (x.sm))] : List Value)), cellC b10 36 ([(.int .i64 (F)), (.int .i64 (3))] : List Value), rowC 49 38 v154 (D.length + 1) ((D.flatMap encSt) ++ ([(⟨(S.getD i stamp0).r, x.cl, x.seq, x.h, (S.getD i stamp0).t, (S.getD i stamp0).sb, (S.getD i stamp0).sm⟩ : StampD)].flatMap encSt)), cellC b37 49 (([(.int .i64 ((S.getD i stamp0).r)), (.int .i64 (x.cl)), (.int .i64 (x.seq))] : List Value) ++ hc x.h ++ ([(.int .u64 ((S.getD i stamp0).t)), (.int .i64 ((S.getD i stamp0).sb)), (.int .i64 ((S.getD i stamp0).sm))] : List Value)), rowC 49 38 (.slice (some ⟨b149, 0, none⟩) 1 1) 1 ([(⟨(S.getD i stamp0).r, x.cl, x.seq, x.h, (S.getD i stamp0).t, (S.getD i stamp0).sb, (S.getD i stamp0).sm⟩ : StampD)].flatMap encSt)] w155)
          have H159 : Sat w [restC w (fun _ => False), cellC b2 44 (([(.int .i64 (x.cl)), (.int .i64 (x.seq))] : List Value) ++ hc x.h ++ ([(.int .i64 (x.len)), (.int .i64 (x.sb)), (.int .i64 (x.sm))] : List Value)), cellC b10 36 ([(.int .i64 (F)), (.int .i64 (3))] : List Value), rowC 49 38 v154 ((D ++ [(⟨(S.getD i stamp0).r, x.cl, x.seq, x.h, (S.getD i stamp0).t, (S.getD i stamp0).sb, (S.getD i stamp0).sm⟩ : StampD)]).length) ((D ++ [(⟨(S.getD i stamp0).r, x.cl, x.seq, x.h, (S.getD i stamp0).t, (S.getD i stamp0).sb, (S.getD i stamp0).sm⟩ : StampD)]).flatMap encSt), cellC b37 49 (([(.int .i64 ((S.getD i stamp0).r)), (.int .i64 (x.cl)), (.int .i64 (x.seq))] : List Value) ++ hc x.h ++ ([(.int .u64 ((S.getD i stamp0).t)), (.int .i64 ((S.getD i stamp0).sb)), (.int .i64 ((S.getD i stamp0).sm))] : List Value)), rowC 49 38 (.slice (some ⟨b149, 0, none⟩) 1 1) 1 ([(⟨(S.getD i stamp0).r, x.cl, x.seq, x.h, (S.getD i stamp0).t, (S.getD i stamp0).sb, (S.getD i stamp0).sm⟩ : StampD)].flatMap encSt)] w155 := H156.cast (by simp only [List.length_append, List.flatMap_append] <;> rfl)
          obtain ⟨a157, c158, rfl⟩ := ownsRow_shape (H159.at 3 rfl)
          refine hK153 _ _ ?_
          clear hK153 K153
          refine wl_pure (wants0 rfl) (d := 12) (v := (.slice a157 ((D ++ [(⟨(S.getD i stamp0).r, x.cl, x.seq, x.h, (S.getD i stamp0).t, (S.getD i stamp0).sb, (S.getD i stamp0).sm⟩ : StampD)]).length) c158)) rfl (by kernel_rfl) ?_
          refine w_nil ?_
          refine blk_normal ?_
          refine then_normal ?_
          refine w_lit ?_
          refine wl_pure (wants0 rfl) (d := 31) (v := (.int .i64 ((i : Int)))) rfl (by kernel_rfl) ?_
          refine wl_pure (wants0 rfl) (d := 32) (v := (.int .i64 ((i : Int) + 1))) rfl (e_int (z := (i : Int) + 1) (by kernel_rfl) (IntWalk.i64_in _ (by omega))) ?_
          refine wl_pure (wants0 rfl) (d := 13) (v := (.int .i64 ((i : Int) + 1))) rfl (by kernel_rfl) ?_
          refine w_nil ?_
          have H160 : Sat w [restC w (fun _ => False), cellC b2 44 (([(.int .i64 (x.cl)), (.int .i64 (x.seq))] : List Value) ++ hc x.h ++ ([(.int .i64 (x.len)), (.int .i64 (x.sb)), (.int .i64 (x.sm))] : List Value)), cellC b10 36 ([(.int .i64 (F)), (.int .i64 (3))] : List Value), rowC 49 38 (.slice a157 ((D ++ [(⟨(S.getD i stamp0).r, x.cl, x.seq, x.h, (S.getD i stamp0).t, (S.getD i stamp0).sb, (S.getD i stamp0).sm⟩ : StampD)]).length) c158) ((D ++ [(⟨(S.getD i stamp0).r, x.cl, x.seq, x.h, (S.getD i stamp0).t, (S.getD i stamp0).sb, (S.getD i stamp0).sm⟩ : StampD)]).length) ((D ++ [(⟨(S.getD i stamp0).r, x.cl, x.seq, x.h, (S.getD i stamp0).t, (S.getD i stamp0).sb, (S.getD i stamp0).sm⟩ : StampD)]).flatMap encSt)] w155 := H159.pick [0, 1, 2, 3] (by decide)
          refine round_back ?_ _ ⟨(i + 1), a157, c158, (D ++ [(⟨(S.getD i stamp0).r, x.cl, x.seq, x.h, (S.getD i stamp0).t, (S.getD i stamp0).sb, (S.getD i stamp0).sm⟩ : StampD)]), (show ((.int .i64 ((i : Int) + 1)) : Value) = _ by first | rfl | go_num), (show ((.slice a157 ((D ++ [(⟨(S.getD i stamp0).r, x.cl, x.seq, x.h, (S.getD i stamp0).t, (S.getD i stamp0).sb, (S.getD i stamp0).sm⟩ : StampD)]).length) c158) : Value) = _ by first | rfl | go_num), (by omega), (by omega), (by simp only [List.length_append, List.length_cons, List.length_nil]; omega), H160, rfl⟩ (by omega)
          exact (same_upd rfl (same_upd rfl (same_upd rfl (same_upd rfl (same_upd rfl (same_upd rfl (same_upd rfl (same_upd rfl (same_upd rfl (same_upd rfl (same_upd rfl (same_upd rfl (same_upd rfl (same_upd rfl (same_upd rfl (same_upd rfl (same_upd rfl (same_upd rfl (same_upd rfl (same_upd rfl (same_upd rfl (same_upd rfl (same_upd rfl (same_upd rfl (same_upd rfl (same_upd rfl (same_upd rfl (same_upd rfl (same_upd rfl (same_upd rfl (same_upd rfl (same_upd rfl (same_upd rfl (same_upd rfl (same_upd rfl (same_upd rfl (same_upd rfl (same_upd rfl (same_upd rfl (same_upd rfl (same_upd rfl (same_upd rfl (same_ovr)))))))))))))))))))))))))))))))))))))))))))
        · have g161 := bnot_false b130
          have g162 := of_decide_eq_true g161
          refine wp_know 55 (.bool false) (congrArg Value.bool b130) ?_
          have g163 := bnot_false b130
          have g164 := of_decide_eq_true g163
          refine wp_iff rfl ?_
          refine w_skip ?_
          refine then_normal ?_
          refine w_lit ?_
          refine wl_pure (wants0 rfl) (d := 62) (v := (.slice a D.length c)) rfl (by kernel_rfl) ?_
          refine wl_pure (wants0 rfl) (d := 63) (v := (.agg ⟨(([(.int .i64 ((S.getD i stamp0).r)), (.int .i64 ((S.getD i stamp0).cl)), (.int .i64 ((S.getD i stamp0).seq))] : List Value) ++ hc (S.getD i stamp0).h ++ ([(.int .u64 ((S.getD i stamp0).t)), (.int .i64 ((S.getD i stamp0).sb)), (.int .i64 ((S.getD i stamp0).sm))] : List Value))⟩)) rfl (e_loadN (vs := (([(.int .i64 ((S.getD i stamp0).r)), (.int .i64 ((S.getD i stamp0).cl)), (.int .i64 ((S.getD i stamp0).seq))] : List Value) ++ hc (S.getD i stamp0).h ++ ([(.int .u64 ((S.getD i stamp0).t)), (.int .i64 ((S.getD i stamp0).sb)), (.int .i64 ((S.getD i stamp0).sm))] : List Value))) rfl (by kernel_rfl) (by kernel_rfl) (by exact Nat.le_of_ble_eq_true (by kernel_rfl)) (H42.at 4 rfl) (by kernel_rfl)) ?_
          refine wl_do (wants0 rfl) (fun K165 hK165 => ?_)
          refine d_buildSlice (e := 49) (size := 38) (bytes := 80) (z := (.agg ⟨(([(.int .i64 (0)), (.int .i64 (0)), (.int .i64 (0))] : List Value) ++ hc hash0 ++ ([(.int .u64 (0)), (.int .i64 (0)), (.int .i64 (0))] : List Value))⟩)) (pvs := [(0, (.agg ⟨(([(.int .i64 ((S.getD i stamp0).r)), (.int .i64 ((S.getD i stamp0).cl)), (.int .i64 ((S.getD i stamp0).seq))] : List Value) ++ hc (S.getD i stamp0).h ++ ([(.int .u64 ((S.getD i stamp0).t)), (.int .i64 ((S.getD i stamp0).sb)), (.int .i64 ((S.getD i stamp0).sm))] : List Value))⟩))]) (vs := (([(.int .i64 ((S.getD i stamp0).r)), (.int .i64 ((S.getD i stamp0).cl)), (.int .i64 ((S.getD i stamp0).seq))] : List Value) ++ hc (S.getD i stamp0).h ++ ([(.int .u64 ((S.getD i stamp0).t)), (.int .i64 ((S.getD i stamp0).sb)), (.int .i64 ((S.getD i stamp0).sm))] : List Value))) rfl H42 (by kernel_rfl) (by kernel_rfl) (by kernel_rfl) (by kernel_rfl) (by kernel_rfl) rfl rfl ?_
          intro b166 w167 (H168 : Sat w [restC w (fun _ => False), cellC b2 44 (([(.int .i64 (x.cl)), (.int .i64 (x.seq))] : List Value) ++ hc x.h ++ ([(.int .i64 (x.len)), (.int .i64 (x.sb)), (.int .i64 (x.sm))] : List Value)), cellC b10 36 ([(.int .i64 (F)), (.int .i64 (3))] : List Value), rowC 49 38 (.slice a D.length c) D.length (D.flatMap encSt), cellC b37 49 (([(.int .i64 ((S.getD i stamp0).r)), (.int .i64 ((S.getD i stamp0).cl)), (.int .i64 ((S.getD i stamp0).seq))] : List Value) ++ hc (S.getD i stamp0).h ++ ([(.int .u64 ((S.getD i stamp0).t)), (.int .i64 ((S.getD i stamp0).sb)), (.int .i64 ((S.getD i stamp0).sm))] : List Value)), rowC 49 38 (.slice (some ⟨b166, 0, none⟩) 1 1) 1 (([(.int .i64 ((S.getD i stamp0).r)), (.int .i64 ((S.getD i stamp0).cl)), (.int .i64 ((S.getD i stamp0).seq))] : List Value) ++ hc (S.getD i stamp0).h ++ ([(.int .u64 ((S.getD i stamp0).t)), (.int .i64 ((S.getD i stamp0).sb)), (.int .i64 ((S.getD i stamp0).sm))] : List Value))] w167)
          have H169 : Sat w [restC w (fun _ => False), cellC b2 44 (([(.int .i64 (x.cl)), (.int .i64 (x.seq))] : List Value) ++ hc x.h ++ ([(.int .i64 (x.len)), (.int .i64 (x.sb)), (.int .i64 (x.sm))] : List Value)), cellC b10 36 ([(.int .i64 (F)), (.int .i64 (3))] : List Value), rowC 49 38 (.slice a D.length c) D.length (D.flatMap encSt), cellC b37 49 (([(.int .i64 ((S.getD i stamp0).r)), (.int .i64 ((S.getD i stamp0).cl)), (.int .i64 ((S.getD i stamp0).seq))] : List Value) ++ hc (S.getD i stamp0).h ++ ([(.int .u64 ((S.getD i stamp0).t)), (.int .i64 ((S.getD i stamp0).sb)), (.int .i64 ((S.getD i stamp0).sm))] : List Value)), rowC 49 38 (.slice (some ⟨b166, 0, none⟩) 1 1) 1 ([(S.getD i stamp0)].flatMap encSt)] w167 := H168.cast (by rw [show ((([(.int .i64 ((S.getD i stamp0).r)), (.int .i64 ((S.getD i stamp0).cl)), (.int .i64 ((S.getD i stamp0).seq))] : List Value) ++ hc (S.getD i stamp0).h ++ ([(.int .u64 ((S.getD i stamp0).t)), (.int .i64 ((S.getD i stamp0).sb)), (.int .i64 ((S.getD i stamp0).sm))] : List Value)) : List Value) = [(S.getD i stamp0)].flatMap encSt from by simp only [List.flatMap_cons, List.flatMap_nil, List.append_nil]; rfl])
          refine hK165 _ _ ?_
          clear hK165 K165
          refine wl_do (wants0 rfl) (fun K170 hK170 => ?_)
          refine d_append (T := 45) (e := 49) (size := 38) (bytes := 80) rfl H169 (by kernel_rfl) 3 5 rfl rfl rfl rfl (flat_one encSt encSt_one [(S.getD i stamp0)]) (by omega) (by omega) ?_
          intro v171 w172 (H173 : Sat w [restC w (fun _ => False), cellC b2 44 (([(.int .i64 (x.cl)), (.int .i64 (x.seq))] : List Value) ++ hc x.h ++ ([(.int .i64 (x.len)), (.int .i64 (x.sb)), (.int .i64 (x.sm))] : List Value)), cellC b10 36 ([(.int .i64 (F)), (.int .i64 (3))] : List Value), rowC 49 38 v171 (D.length + 1) ((D.flatMap encSt) ++ ([(S.getD i stamp0)].flatMap encSt)), cellC b37 49 (([(.int .i64 ((S.getD i stamp0).r)), (.int .i64 ((S.getD i stamp0).cl)), (.int .i64 ((S.getD i stamp0).seq))] : List Value) ++ hc (S.getD i stamp0).h ++ ([(.int .u64 ((S.getD i stamp0).t)), (.int .i64 ((S.getD i stamp0).sb)), (.int .i64 ((S.getD i stamp0).sm))] : List Value)), rowC 49 38 (.slice (some ⟨b166, 0, none⟩) 1 1) 1 ([(S.getD i stamp0)].flatMap encSt)] w172)
          have H176 : Sat w [restC w (fun _ => False), cellC b2 44 (([(.int .i64 (x.cl)), (.int .i64 (x.seq))] : List Value) ++ hc x.h ++ ([(.int .i64 (x.len)), (.int .i64 (x.sb)), (.int .i64 (x.sm))] : List Value)), cellC b10 36 ([(.int .i64 (F)), (.int .i64 (3))] : List Value), rowC 49 38 v171 ((D ++ [(S.getD i stamp0)]).length) ((D ++ [(S.getD i stamp0)]).flatMap encSt), cellC b37 49 (([(.int .i64 ((S.getD i stamp0).r)), (.int .i64 ((S.getD i stamp0).cl)), (.int .i64 ((S.getD i stamp0).seq))] : List Value) ++ hc (S.getD i stamp0).h ++ ([(.int .u64 ((S.getD i stamp0).t)), (.int .i64 ((S.getD i stamp0).sb)), (.int .i64 ((S.getD i stamp0).sm))] : List Value)), rowC 49 38 (.slice (some ⟨b166, 0, none⟩) 1 1) 1 ([(S.getD i stamp0)].flatMap encSt)] w172 := H173.cast (by simp only [List.length_append, List.flatMap_append] <;> rfl)
          obtain ⟨a174, c175, rfl⟩ := ownsRow_shape (H176.at 3 rfl)
          refine hK170 _ _ ?_
          clear hK170 K170
          refine wl_pure (wants0 rfl) (d := 12) (v := (.slice a174 ((D ++ [(S.getD i stamp0)]).length) c175)) rfl (by kernel_rfl) ?_
          refine w_nil ?_
          refine blk_normal ?_
          refine then_normal ?_
          refine w_lit ?_
          refine wl_pure (wants0 rfl) (d := 31) (v := (.int .i64 ((i : Int)))) rfl (by kernel_rfl) ?_
          refine wl_pure (wants0 rfl) (d := 32) (v := (.int .i64 ((i : Int) + 1))) rfl (e_int (z := (i : Int) + 1) (by kernel_rfl) (IntWalk.i64_in _ (by omega))) ?_
          refine wl_pure (wants0 rfl) (d := 13) (v := (.int .i64 ((i : Int) + 1))) rfl (by kernel_rfl) ?_
          refine w_nil ?_
          have H177 : Sat w [restC w (fun _ => False), cellC b2 44 (([(.int .i64 (x.cl)), (.int .i64 (x.seq))] : List Value) ++ hc x.h ++ ([(.int .i64 (x.len)), (.int .i64 (x.sb)), (.int .i64 (x.sm))] : List Value)), cellC b10 36 ([(.int .i64 (F)), (.int .i64 (3))] : List Value), rowC 49 38 (.slice a174 ((D ++ [(S.getD i stamp0)]).length) c175) ((D ++ [(S.getD i stamp0)]).length) ((D ++ [(S.getD i stamp0)]).flatMap encSt)] w172 := H176.pick [0, 1, 2, 3] (by decide)
          refine round_back ?_ _ ⟨(i + 1), a174, c175, (D ++ [(S.getD i stamp0)]), (show ((.int .i64 ((i : Int) + 1)) : Value) = _ by first | rfl | go_num), (show ((.slice a174 ((D ++ [(S.getD i stamp0)]).length) c175) : Value) = _ by first | rfl | go_num), (by omega), (by omega), (by simp only [List.length_append, List.length_cons, List.length_nil]; omega), H177, rfl⟩ (by omega)
          exact (same_upd rfl (same_upd rfl (same_upd rfl (same_upd rfl (same_upd rfl (same_upd rfl (same_upd rfl (same_upd rfl (same_upd rfl (same_upd rfl (same_upd rfl (same_upd rfl (same_upd rfl (same_upd rfl (same_upd rfl (same_upd rfl (same_upd rfl (same_upd rfl (same_upd rfl (same_upd rfl (same_upd rfl (same_upd rfl (same_upd rfl (same_upd rfl (same_upd rfl (same_upd rfl (same_upd rfl (same_upd rfl (same_upd rfl (same_upd rfl (same_upd rfl (same_upd rfl (same_upd rfl (same_upd rfl (same_upd rfl (same_upd rfl (same_ovr)))))))))))))))))))))))))))))))))))))
    · have g178 := of_decide_eq_false b28
      refine wp_know 30 (.bool false) (congrArg Value.bool b28) ?_
      have g179 := of_decide_eq_false b28
      refine wp_iff rfl ?_
      refine w_exit ?_
      refine then_exit ?_
      refine back_exit ?_
      refine blk_hit ?_
      refine then_normal ?_
      refine w_seq ?_
      have hD12 : D.length ≤ 12 := by omega
      refine w_lit ?_
      refine wl_pure (wants0 rfl) (d := 67) (v := (.agg ⟨([(.int .i64 (F)), (.int .i64 (3))] : List Value)⟩)) rfl (e_loadN (vs := ([(.int .i64 (F)), (.int .i64 (3))] : List Value)) rfl (by kernel_rfl) (by kernel_rfl) (by exact Nat.le_of_ble_eq_true (by kernel_rfl)) (H21.at 2 rfl) (by kernel_rfl)) ?_
      refine wl_pure (wants0 rfl) (d := 68) (v := (.agg ⟨(([(.int .i64 (x.cl)), (.int .i64 (x.seq))] : List Value) ++ hc x.h ++ ([(.int .i64 (x.len)), (.int .i64 (x.sb)), (.int .i64 (x.sm))] : List Value))⟩)) rfl (e_loadN (vs := (([(.int .i64 (x.cl)), (.int .i64 (x.seq))] : List Value) ++ hc x.h ++ ([(.int .i64 (x.len)), (.int .i64 (x.sb)), (.int .i64 (x.sm))] : List Value))) rfl (by kernel_rfl) (by kernel_rfl) (by exact Nat.le_of_ble_eq_true (by kernel_rfl)) (H21.at 1 rfl) (by kernel_rfl)) ?_
      refine wl_pure (wants0 rfl) (d := 69) (v := (.slice a D.length c)) rfl (by kernel_rfl) ?_
      refine wl_do (wants0 rfl) (fun K180 hK180 => ?_)
      refine d_call (d := 70) rfl (by kernel_rfl) (wMake_any w20 F 3 x N Q hN hQ hf a c D (ListAt.row (enc := encSt) (sz := 38) encSt_len (by decide) (H21.at 3 rfl)) hD12) ?_
      rintro _ w181 (⟨rfl, l183, u187⟩ | ⟨g184, c185, rfl, l183, k186, u187, q188⟩)
      · have H190 := H21.keepU u187
        refine ⟨_, rfl, ?_⟩
        refine hK180 _ _ ?_
        clear hK180 K180
        refine wl_pure (wants0 rfl) (d := 66) (v := (.tuple #[(.agg ⟨(([(.int .i64 (0)), (.int .i64 (0))] : List Value) ++ hc hash0 ++ ([(.int .i64 (0)), (.int .i64 (0)), (.int .i64 (0)), (.slice none 0 0)] : List Value))⟩), (.int .i64 (8))])) rfl (by kernel_rfl) ?_
        refine wl_pure (wants0 rfl) (d := 71) (v := (.agg ⟨(([(.int .i64 (0)), (.int .i64 (0))] : List Value) ++ hc hash0 ++ ([(.int .i64 (0)), (.int .i64 (0)), (.int .i64 (0)), (.slice none 0 0)] : List Value))⟩)) rfl (by kernel_rfl) ?_
        refine wl_pure (wants0 rfl) (d := 72) (v := (.int .i64 (8))) rfl (by kernel_rfl) ?_
        refine wl_do (wants0 rfl) (fun K191 hK191 => ?_)
        refine d_alloc (zs := (([(.int .i64 (0)), (.int .i64 (0))] : List Value) ++ hc hash0 ++ ([(.int .i64 (0)), (.int .i64 (0)), (.int .i64 (0)), (.slice none 0 0)] : List Value))) (z := (.agg ⟨(([(.int .i64 (0)), (.int .i64 (0))] : List Value) ++ hc hash0 ++ ([(.int .i64 (0)), (.int .i64 (0)), (.int .i64 (0)), (.slice none 0 0)] : List Value))⟩)) rfl H190 (by kernel_rfl) (by kernel_rfl) ?_
        intro b192 w193 (H194 : Sat w [restC w (fun _ => False), cellC b2 44 (([(.int .i64 (x.cl)), (.int .i64 (x.seq))] : List Value) ++ hc x.h ++ ([(.int .i64 (x.len)), (.int .i64 (x.sb)), (.int .i64 (x.sm))] : List Value)), cellC b10 36 ([(.int .i64 (F)), (.int .i64 (3))] : List Value), rowC 49 38 (.slice a D.length c) D.length (D.flatMap encSt), cellC b192 47 (([(.int .i64 (0)), (.int .i64 (0))] : List Value) ++ hc hash0 ++ ([(.int .i64 (0)), (.int .i64 (0)), (.int .i64 (0)), (.slice none 0 0)] : List Value))] w193)
        refine hK191 _ _ ?_
        clear hK191 K191
        refine wl_do (wants0 rfl) (fun K195 hK195 => ?_)
        refine d_storeX (vs := (([(.int .i64 (0)), (.int .i64 (0))] : List Value) ++ hc hash0 ++ ([(.int .i64 (0)), (.int .i64 (0)), (.int .i64 (0)), (.slice none 0 0)] : List Value))) (cs' := (([(.int .i64 (0)), (.int .i64 (0))] : List Value) ++ hc hash0 ++ ([(.int .i64 (0)), (.int .i64 (0)), (.int .i64 (0)), (.slice none 0 0)] : List Value))) rfl H194 4 rfl rfl rfl rfl (by kernel_rfl) (Nat.le_of_ble_eq_true (by kernel_rfl)) (Nat.le_of_ble_eq_true (by kernel_rfl)) (by kernel_rfl) (by kernel_rfl) ?_
        intro w196 (H197 : Sat w [restC w (fun _ => False), cellC b2 44 (([(.int .i64 (x.cl)), (.int .i64 (x.seq))] : List Value) ++ hc x.h ++ ([(.int .i64 (x.len)), (.int .i64 (x.sb)), (.int .i64 (x.sm))] : List Value)), cellC b10 36 ([(.int .i64 (F)), (.int .i64 (3))] : List Value), rowC 49 38 (.slice a D.length c) D.length (D.flatMap encSt), cellC b192 47 (([(.int .i64 (0)), (.int .i64 (0))] : List Value) ++ hc hash0 ++ ([(.int .i64 (0)), (.int .i64 (0)), (.int .i64 (0)), (.slice none 0 0)] : List Value))] w196)
        refine hK195 _ _ ?_
        clear hK195 K195
        refine wl_pure (wants0 rfl) (d := 16) (v := (.int .i64 (8))) rfl (by kernel_rfl) ?_
        refine w_nil ?_
        refine then_normal ?_
        refine w_seq ?_
        refine w_lit ?_
        refine wl_pure (wants0 rfl) (d := 74) (v := (.agg ⟨([(.int .i64 (F)), (.int .i64 (3))] : List Value)⟩)) rfl (e_loadN (vs := ([(.int .i64 (F)), (.int .i64 (3))] : List Value)) rfl (by kernel_rfl) (by kernel_rfl) (by exact Nat.le_of_ble_eq_true (by kernel_rfl)) (H197.at 2 rfl) (by kernel_rfl)) ?_
        refine wl_pure (wants0 rfl) (d := 75) (v := (.agg ⟨(([(.int .i64 (x.cl)), (.int .i64 (x.seq))] : List Value) ++ hc x.h ++ ([(.int .i64 (x.len)), (.int .i64 (x.sb)), (.int .i64 (x.sm))] : List Value))⟩)) rfl (e_loadN (vs := (([(.int .i64 (x.cl)), (.int .i64 (x.seq))] : List Value) ++ hc x.h ++ ([(.int .i64 (x.len)), (.int .i64 (x.sb)), (.int .i64 (x.sm))] : List Value))) rfl (by kernel_rfl) (by kernel_rfl) (by exact Nat.le_of_ble_eq_true (by kernel_rfl)) (H197.at 1 rfl) (by kernel_rfl)) ?_
        refine wl_pure (wants0 rfl) (d := 76) (v := (.slice a D.length c)) rfl (by kernel_rfl) ?_
        refine wl_do (wants0 rfl) (fun K199 hK199 => ?_)
        refine d_call (d := 77) rfl (by kernel_rfl) (rMake_any w196 F 3 x N Q hN hQ hf a c D (ListAt.row (enc := encSt) (sz := 38) encSt_len (by decide) (H197.at 3 rfl)) hD12) ?_
        rintro _ w200 (⟨rfl, l202, u206⟩ | ⟨g203, c204, rfl, l202, k205, u206, q207⟩)
        · have H209 := H197.keepU u206
          refine ⟨_, rfl, ?_⟩
          refine hK199 _ _ ?_
          clear hK199 K199
          refine wl_pure (wants0 rfl) (d := 73) (v := (.tuple #[(.agg ⟨(([(.int .i64 (0)), (.int .i64 (0))] : List Value) ++ hc hash0 ++ ([(.int .i64 (0)), (.int .i64 (0)), (.int .i64 (0)), (.slice none 0 0)] : List Value))⟩), (.bool false)])) rfl (by kernel_rfl) ?_
          refine wl_pure (wants0 rfl) (d := 78) (v := (.agg ⟨(([(.int .i64 (0)), (.int .i64 (0))] : List Value) ++ hc hash0 ++ ([(.int .i64 (0)), (.int .i64 (0)), (.int .i64 (0)), (.slice none 0 0)] : List Value))⟩)) rfl (by kernel_rfl) ?_
          refine wl_pure (wants0 rfl) (d := 79) (v := (.bool false)) rfl (by kernel_rfl) ?_
          refine wl_do (wants0 rfl) (fun K210 hK210 => ?_)
          refine d_alloc (zs := (([(.int .i64 (0)), (.int .i64 (0))] : List Value) ++ hc hash0 ++ ([(.int .i64 (0)), (.int .i64 (0)), (.int .i64 (0)), (.slice none 0 0)] : List Value))) (z := (.agg ⟨(([(.int .i64 (0)), (.int .i64 (0))] : List Value) ++ hc hash0 ++ ([(.int .i64 (0)), (.int .i64 (0)), (.int .i64 (0)), (.slice none 0 0)] : List Value))⟩)) rfl H209 (by kernel_rfl) (by kernel_rfl) ?_
          intro b211 w212 (H213 : Sat w [restC w (fun _ => False), cellC b2 44 (([(.int .i64 (x.cl)), (.int .i64 (x.seq))] : List Value) ++ hc x.h ++ ([(.int .i64 (x.len)), (.int .i64 (x.sb)), (.int .i64 (x.sm))] : List Value)), cellC b10 36 ([(.int .i64 (F)), (.int .i64 (3))] : List Value), rowC 49 38 (.slice a D.length c) D.length (D.flatMap encSt), cellC b192 47 (([(.int .i64 (0)), (.int .i64 (0))] : List Value) ++ hc hash0 ++ ([(.int .i64 (0)), (.int .i64 (0)), (.int .i64 (0)), (.slice none 0 0)] : List Value)), cellC b211 47 (([(.int .i64 (0)), (.int .i64 (0))] : List Value) ++ hc hash0 ++ ([(.int .i64 (0)), (.int .i64 (0)), (.int .i64 (0)), (.slice none 0 0)] : List Value))] w212)
          refine hK210 _ _ ?_
          clear hK210 K210
          refine wl_do (wants0 rfl) (fun K214 hK214 => ?_)
          refine d_storeX (vs := (([(.int .i64 (0)), (.int .i64 (0))] : List Value) ++ hc hash0 ++ ([(.int .i64 (0)), (.int .i64 (0)), (.int .i64 (0)), (.slice none 0 0)] : List Value))) (cs' := (([(.int .i64 (0)), (.int .i64 (0))] : List Value) ++ hc hash0 ++ ([(.int .i64 (0)), (.int .i64 (0)), (.int .i64 (0)), (.slice none 0 0)] : List Value))) rfl H213 5 rfl rfl rfl rfl (by kernel_rfl) (Nat.le_of_ble_eq_true (by kernel_rfl)) (Nat.le_of_ble_eq_true (by kernel_rfl)) (by kernel_rfl) (by kernel_rfl) ?_
          intro w215 (H216 : Sat w [restC w (fun _ => False), cellC b2 44 (([(.int .i64 (x.cl)), (.int .i64 (x.seq))] : List Value) ++ hc x.h ++ ([(.int .i64 (x.len)), (.int .i64 (x.sb)), (.int .i64 (x.sm))] : List Value)), cellC b10 36 ([(.int .i64 (F)), (.int .i64 (3))] : List Value), rowC 49 38 (.slice a D.length c) D.length (D.flatMap encSt), cellC b192 47 (([(.int .i64 (0)), (.int .i64 (0))] : List Value) ++ hc hash0 ++ ([(.int .i64 (0)), (.int .i64 (0)), (.int .i64 (0)), (.slice none 0 0)] : List Value)), cellC b211 47 (([(.int .i64 (0)), (.int .i64 (0))] : List Value) ++ hc hash0 ++ ([(.int .i64 (0)), (.int .i64 (0)), (.int .i64 (0)), (.slice none 0 0)] : List Value))] w215)
          refine hK214 _ _ ?_
          clear hK214 K214
          refine wl_pure (wants0 rfl) (d := 18) (v := (.bool false)) rfl (by kernel_rfl) ?_
          refine w_nil ?_
          refine then_normal ?_
          refine w_seq ?_
          refine w_seq ?_
          refine w_lit ?_
          refine wl_pure (wants0 rfl) (d := 80) (v := (.bool false)) rfl (by kernel_rfl) ?_
          refine wl_pure (wants0 rfl) (d := 81) (v := (.bool true)) rfl (by kernel_rfl) ?_
          refine w_nil ?_
          refine then_normal ?_
          refine wp_ift rfl ?_
          refine w_seq ?_
          refine w_lit ?_
          refine wl_pure (wants0 rfl) (d := 82) (v := (.int .i64 (8))) rfl (by kernel_rfl) ?_
          refine wl_pure (wants0 rfl) (d := 83) (v := (.bool true)) rfl (by kernel_rfl) ?_
          refine wl_pure (wants0 rfl) (d := 84) (v := (.bool true)) rfl (by kernel_rfl) ?_
          refine wl_pure (wantsY 2 84 true rfl (by kernel_rfl) rfl (by kernel_rfl)) (d := 85) (v := (.agg ⟨(([(.int .i64 (0)), (.int .i64 (0))] : List Value) ++ hc hash0 ++ ([(.int .i64 (0)), (.int .i64 (0)), (.int .i64 (0)), (.slice none 0 0)] : List Value))⟩)) rfl (e_loadN (vs := (([(.int .i64 (0)), (.int .i64 (0))] : List Value) ++ hc hash0 ++ ([(.int .i64 (0)), (.int .i64 (0)), (.int .i64 (0)), (.slice none 0 0)] : List Value))) rfl (by kernel_rfl) (by kernel_rfl) (by exact Nat.le_of_ble_eq_true (by kernel_rfl)) (H216.at 4 rfl) (by kernel_rfl)) ?_
          refine wl_pure (wantsY 2 84 true rfl (by kernel_rfl) rfl (by kernel_rfl)) (d := 86) (v := (.agg ⟨(([(.int .i64 (0)), (.int .i64 (0))] : List Value) ++ hc hash0 ++ ([(.int .i64 (0)), (.int .i64 (0)), (.int .i64 (0)), (.slice none 0 0)] : List Value))⟩)) rfl (by kernel_rfl) ?_
          refine wl_do (wantsY 2 84 true rfl (by kernel_rfl) rfl (by kernel_rfl)) (fun K218 hK218 => ?_)
          refine d_call (d := 87) rfl (by kernel_rfl) (certEq_any w215 (⟨0, 0, hash0, 0, 0, 0⟩ : CommitD) (⟨0, 0, hash0, 0, 0, 0⟩ : CommitD) (.slice none 0 0) (.slice none 0 0) ([] : List StampD) ([] : List StampD) ListAt.nil ListAt.nil (by first | (simp; done) | (rw [List.length_take]; omega))) ?_
          rintro _ w219 ⟨rfl, u221⟩
          have H220 := H216.keepU u221
          refine ⟨_, rfl, ?_⟩
          refine hK218 _ _ ?_
          clear hK218 K218
          refine wl_pure (wants0 rfl) (d := 88) (v := (.bool (decide ((⟨0, 0, hash0, 0, 0, 0⟩ : CommitD) = (⟨0, 0, hash0, 0, 0, 0⟩ : CommitD)) && decide (([] : List StampD) = ([] : List StampD))))) rfl (by kernel_rfl) ?_
          refine wl_pure (wants0 rfl) (d := 89) (v := (.bool (decide ((⟨0, 0, hash0, 0, 0, 0⟩ : CommitD) = (⟨0, 0, hash0, 0, 0, 0⟩ : CommitD)) && decide (([] : List StampD) = ([] : List StampD))))) rfl (by kernel_rfl) ?_
          have b222 : (decide ((⟨0, 0, hash0, 0, 0, 0⟩ : CommitD) = (⟨0, 0, hash0, 0, 0, 0⟩ : CommitD)) && decide (([] : List StampD) = ([] : List StampD))) = true := by simp
          refine wl_know 89 (.bool true) (congrArg Value.bool b222) ?_
          refine wl_do (wantsY 7 89 true rfl (by kernel_rfl) rfl (by kernel_rfl)) (fun K223 hK223 => ?_)
          refine d_call (d := 90) rfl (by kernel_rfl) (wakes_any w219) ?_
          rintro _ w224 ⟨rfl, u226⟩
          have H225 := H220.keepU u226
          refine ⟨_, rfl, ?_⟩
          refine hK223 _ _ ?_
          clear hK223 K223
          refine wl_pure (wants0 rfl) (d := 91) (v := (.bool true)) rfl (by kernel_rfl) ?_
          refine wl_pure (wants0 rfl) (d := 10) (v := (.bool true)) rfl (by kernel_rfl) ?_
          refine w_nil ?_
          refine then_normal ?_
          refine w_ret ?_
          refine then_ret ?_
          refine end1 rfl (res_tmp (v := (.bool true)) rfl) ?_
          exact ⟨rfl, H225.upd 0 rfl [] (fun _ h => h.elim)⟩
        · have H227 : Sat w [restC w (fun _ => False), cellC b2 44 (([(.int .i64 (x.cl)), (.int .i64 (x.seq))] : List Value) ++ hc x.h ++ ([(.int .i64 (x.len)), (.int .i64 (x.sb)), (.int .i64 (x.sm))] : List Value)), cellC b10 36 ([(.int .i64 (F)), (.int .i64 (3))] : List Value), rowC 49 38 (.slice a D.length c) D.length (D.flatMap encSt), cellC b192 47 (([(.int .i64 (0)), (.int .i64 (0))] : List Value) ++ hc hash0 ++ ([(.int .i64 (0)), (.int .i64 (0)), (.int .i64 (0)), (.slice none 0 0)] : List Value)), rowC 49 38 (.slice (some ⟨g203, 0, none⟩) (((refS x D N).take Q).length) c204) (((refS x D N).take Q).length) (((refS x D N).take Q).flatMap encSt)] w200 := H197.addU u206 k205 (fun b hb => by cases hb; exact q207)
          refine ⟨_, rfl, ?_⟩
          refine hK199 _ _ ?_
          clear hK199 K199
          refine wl_pure (wants0 rfl) (d := 73) (v := (.tuple #[(.agg ⟨(([(.int .i64 (x.cl)), (.int .i64 (x.seq))] : List Value) ++ hc x.h ++ ([(.int .i64 (x.len)), (.int .i64 (x.sb)), (.int .i64 (x.sm)), (.slice (some ⟨g203, 0, none⟩) Q c204)] : List Value))⟩), (.bool true)])) rfl (by kernel_rfl) ?_
          refine wl_pure (wants0 rfl) (d := 78) (v := (.agg ⟨(([(.int .i64 (x.cl)), (.int .i64 (x.seq))] : List Value) ++ hc x.h ++ ([(.int .i64 (x.len)), (.int .i64 (x.sb)), (.int .i64 (x.sm)), (.slice (some ⟨g203, 0, none⟩) Q c204)] : List Value))⟩)) rfl (by kernel_rfl) ?_
          refine wl_pure (wants0 rfl) (d := 79) (v := (.bool true)) rfl (by kernel_rfl) ?_
          refine wl_do (wants0 rfl) (fun K228 hK228 => ?_)
          refine d_alloc (zs := (([(.int .i64 (0)), (.int .i64 (0))] : List Value) ++ hc hash0 ++ ([(.int .i64 (0)), (.int .i64 (0)), (.int .i64 (0)), (.slice none 0 0)] : List Value))) (z := (.agg ⟨(([(.int .i64 (0)), (.int .i64 (0))] : List Value) ++ hc hash0 ++ ([(.int .i64 (0)), (.int .i64 (0)), (.int .i64 (0)), (.slice none 0 0)] : List Value))⟩)) rfl H227 (by kernel_rfl) (by kernel_rfl) ?_
          intro b229 w230 (H231 : Sat w [restC w (fun _ => False), cellC b2 44 (([(.int .i64 (x.cl)), (.int .i64 (x.seq))] : List Value) ++ hc x.h ++ ([(.int .i64 (x.len)), (.int .i64 (x.sb)), (.int .i64 (x.sm))] : List Value)), cellC b10 36 ([(.int .i64 (F)), (.int .i64 (3))] : List Value), rowC 49 38 (.slice a D.length c) D.length (D.flatMap encSt), cellC b192 47 (([(.int .i64 (0)), (.int .i64 (0))] : List Value) ++ hc hash0 ++ ([(.int .i64 (0)), (.int .i64 (0)), (.int .i64 (0)), (.slice none 0 0)] : List Value)), rowC 49 38 (.slice (some ⟨g203, 0, none⟩) (((refS x D N).take Q).length) c204) (((refS x D N).take Q).length) (((refS x D N).take Q).flatMap encSt), cellC b229 47 (([(.int .i64 (0)), (.int .i64 (0))] : List Value) ++ hc hash0 ++ ([(.int .i64 (0)), (.int .i64 (0)), (.int .i64 (0)), (.slice none 0 0)] : List Value))] w230)
          refine hK228 _ _ ?_
          clear hK228 K228
          refine wl_do (wants0 rfl) (fun K232 hK232 => ?_)
          refine d_storeX (vs := (([(.int .i64 (x.cl)), (.int .i64 (x.seq))] : List Value) ++ hc x.h ++ ([(.int .i64 (x.len)), (.int .i64 (x.sb)), (.int .i64 (x.sm)), (.slice (some ⟨g203, 0, none⟩) Q c204)] : List Value))) (cs' := (([(.int .i64 (x.cl)), (.int .i64 (x.seq))] : List Value) ++ hc x.h ++ ([(.int .i64 (x.len)), (.int .i64 (x.sb)), (.int .i64 (x.sm)), (.slice (some ⟨g203, 0, none⟩) Q c204)] : List Value))) rfl H231 6 rfl rfl rfl rfl (by kernel_rfl) (Nat.le_of_ble_eq_true (by kernel_rfl)) (Nat.le_of_ble_eq_true (by kernel_rfl)) (by kernel_rfl) (by kernel_rfl) ?_
          intro w233 (H234 : Sat w [restC w (fun _ => False), cellC b2 44 (([(.int .i64 (x.cl)), (.int .i64 (x.seq))] : List Value) ++ hc x.h ++ ([(.int .i64 (x.len)), (.int .i64 (x.sb)), (.int .i64 (x.sm))] : List Value)), cellC b10 36 ([(.int .i64 (F)), (.int .i64 (3))] : List Value), rowC 49 38 (.slice a D.length c) D.length (D.flatMap encSt), cellC b192 47 (([(.int .i64 (0)), (.int .i64 (0))] : List Value) ++ hc hash0 ++ ([(.int .i64 (0)), (.int .i64 (0)), (.int .i64 (0)), (.slice none 0 0)] : List Value)), rowC 49 38 (.slice (some ⟨g203, 0, none⟩) (((refS x D N).take Q).length) c204) (((refS x D N).take Q).length) (((refS x D N).take Q).flatMap encSt), cellC b229 47 (([(.int .i64 (x.cl)), (.int .i64 (x.seq))] : List Value) ++ hc x.h ++ ([(.int .i64 (x.len)), (.int .i64 (x.sb)), (.int .i64 (x.sm)), (.slice (some ⟨g203, 0, none⟩) Q c204)] : List Value))] w233)
          refine hK232 _ _ ?_
          clear hK232 K232
          refine wl_pure (wants0 rfl) (d := 18) (v := (.bool true)) rfl (by kernel_rfl) ?_
          refine w_nil ?_
          refine then_normal ?_
          refine w_seq ?_
          refine w_seq ?_
          exact (by omega : False).elim
      · have H236 : Sat w [restC w (fun _ => False), cellC b2 44 (([(.int .i64 (x.cl)), (.int .i64 (x.seq))] : List Value) ++ hc x.h ++ ([(.int .i64 (x.len)), (.int .i64 (x.sb)), (.int .i64 (x.sm))] : List Value)), cellC b10 36 ([(.int .i64 (F)), (.int .i64 (3))] : List Value), rowC 49 38 (.slice a D.length c) D.length (D.flatMap encSt), rowC 49 38 (.slice (some ⟨g184, 0, none⟩) ((refS x D N).length) c185) ((refS x D N).length) ((refS x D N).flatMap encSt)] w181 := H21.addU u187 k186 (fun b hb => by cases hb; exact q188)
        refine ⟨_, rfl, ?_⟩
        refine hK180 _ _ ?_
        clear hK180 K180
        refine wl_pure (wants0 rfl) (d := 66) (v := (.tuple #[(.agg ⟨(([(.int .i64 (x.cl)), (.int .i64 (x.seq))] : List Value) ++ hc x.h ++ ([(.int .i64 (x.len)), (.int .i64 (x.sb)), (.int .i64 (x.sm)), (.slice (some ⟨g184, 0, none⟩) Q c185)] : List Value))⟩), (.int .i64 (0))])) rfl (by kernel_rfl) ?_
        refine wl_pure (wants0 rfl) (d := 71) (v := (.agg ⟨(([(.int .i64 (x.cl)), (.int .i64 (x.seq))] : List Value) ++ hc x.h ++ ([(.int .i64 (x.len)), (.int .i64 (x.sb)), (.int .i64 (x.sm)), (.slice (some ⟨g184, 0, none⟩) Q c185)] : List Value))⟩)) rfl (by kernel_rfl) ?_
        refine wl_pure (wants0 rfl) (d := 72) (v := (.int .i64 (0))) rfl (by kernel_rfl) ?_
        refine wl_do (wants0 rfl) (fun K237 hK237 => ?_)
        refine d_alloc (zs := (([(.int .i64 (0)), (.int .i64 (0))] : List Value) ++ hc hash0 ++ ([(.int .i64 (0)), (.int .i64 (0)), (.int .i64 (0)), (.slice none 0 0)] : List Value))) (z := (.agg ⟨(([(.int .i64 (0)), (.int .i64 (0))] : List Value) ++ hc hash0 ++ ([(.int .i64 (0)), (.int .i64 (0)), (.int .i64 (0)), (.slice none 0 0)] : List Value))⟩)) rfl H236 (by kernel_rfl) (by kernel_rfl) ?_
        intro b238 w239 (H240 : Sat w [restC w (fun _ => False), cellC b2 44 (([(.int .i64 (x.cl)), (.int .i64 (x.seq))] : List Value) ++ hc x.h ++ ([(.int .i64 (x.len)), (.int .i64 (x.sb)), (.int .i64 (x.sm))] : List Value)), cellC b10 36 ([(.int .i64 (F)), (.int .i64 (3))] : List Value), rowC 49 38 (.slice a D.length c) D.length (D.flatMap encSt), rowC 49 38 (.slice (some ⟨g184, 0, none⟩) ((refS x D N).length) c185) ((refS x D N).length) ((refS x D N).flatMap encSt), cellC b238 47 (([(.int .i64 (0)), (.int .i64 (0))] : List Value) ++ hc hash0 ++ ([(.int .i64 (0)), (.int .i64 (0)), (.int .i64 (0)), (.slice none 0 0)] : List Value))] w239)
        refine hK237 _ _ ?_
        clear hK237 K237
        refine wl_do (wants0 rfl) (fun K241 hK241 => ?_)
        refine d_storeX (vs := (([(.int .i64 (x.cl)), (.int .i64 (x.seq))] : List Value) ++ hc x.h ++ ([(.int .i64 (x.len)), (.int .i64 (x.sb)), (.int .i64 (x.sm)), (.slice (some ⟨g184, 0, none⟩) Q c185)] : List Value))) (cs' := (([(.int .i64 (x.cl)), (.int .i64 (x.seq))] : List Value) ++ hc x.h ++ ([(.int .i64 (x.len)), (.int .i64 (x.sb)), (.int .i64 (x.sm)), (.slice (some ⟨g184, 0, none⟩) Q c185)] : List Value))) rfl H240 5 rfl rfl rfl rfl (by kernel_rfl) (Nat.le_of_ble_eq_true (by kernel_rfl)) (Nat.le_of_ble_eq_true (by kernel_rfl)) (by kernel_rfl) (by kernel_rfl) ?_
        intro w242 (H243 : Sat w [restC w (fun _ => False), cellC b2 44 (([(.int .i64 (x.cl)), (.int .i64 (x.seq))] : List Value) ++ hc x.h ++ ([(.int .i64 (x.len)), (.int .i64 (x.sb)), (.int .i64 (x.sm))] : List Value)), cellC b10 36 ([(.int .i64 (F)), (.int .i64 (3))] : List Value), rowC 49 38 (.slice a D.length c) D.length (D.flatMap encSt), rowC 49 38 (.slice (some ⟨g184, 0, none⟩) ((refS x D N).length) c185) ((refS x D N).length) ((refS x D N).flatMap encSt), cellC b238 47 (([(.int .i64 (x.cl)), (.int .i64 (x.seq))] : List Value) ++ hc x.h ++ ([(.int .i64 (x.len)), (.int .i64 (x.sb)), (.int .i64 (x.sm)), (.slice (some ⟨g184, 0, none⟩) Q c185)] : List Value))] w242)
        refine hK241 _ _ ?_
        clear hK241 K241
        refine wl_pure (wants0 rfl) (d := 16) (v := (.int .i64 (0))) rfl (by kernel_rfl) ?_
        refine w_nil ?_
        refine then_normal ?_
        refine w_seq ?_
        refine w_lit ?_
        refine wl_pure (wants0 rfl) (d := 74) (v := (.agg ⟨([(.int .i64 (F)), (.int .i64 (3))] : List Value)⟩)) rfl (e_loadN (vs := ([(.int .i64 (F)), (.int .i64 (3))] : List Value)) rfl (by kernel_rfl) (by kernel_rfl) (by exact Nat.le_of_ble_eq_true (by kernel_rfl)) (H243.at 2 rfl) (by kernel_rfl)) ?_
        refine wl_pure (wants0 rfl) (d := 75) (v := (.agg ⟨(([(.int .i64 (x.cl)), (.int .i64 (x.seq))] : List Value) ++ hc x.h ++ ([(.int .i64 (x.len)), (.int .i64 (x.sb)), (.int .i64 (x.sm))] : List Value))⟩)) rfl (e_loadN (vs := (([(.int .i64 (x.cl)), (.int .i64 (x.seq))] : List Value) ++ hc x.h ++ ([(.int .i64 (x.len)), (.int .i64 (x.sb)), (.int .i64 (x.sm))] : List Value))) rfl (by kernel_rfl) (by kernel_rfl) (by exact Nat.le_of_ble_eq_true (by kernel_rfl)) (H243.at 1 rfl) (by kernel_rfl)) ?_
        refine wl_pure (wants0 rfl) (d := 76) (v := (.slice a D.length c)) rfl (by kernel_rfl) ?_
        refine wl_do (wants0 rfl) (fun K245 hK245 => ?_)
        refine d_call (d := 77) rfl (by kernel_rfl) (rMake_any w242 F 3 x N Q hN hQ hf a c D (ListAt.row (enc := encSt) (sz := 38) encSt_len (by decide) (H243.at 3 rfl)) hD12) ?_
        rintro _ w246 (⟨rfl, l248, u252⟩ | ⟨g249, c250, rfl, l248, k251, u252, q253⟩)
        · have H255 := H243.keepU u252
          refine ⟨_, rfl, ?_⟩
          refine hK245 _ _ ?_
          clear hK245 K245
          refine wl_pure (wants0 rfl) (d := 73) (v := (.tuple #[(.agg ⟨(([(.int .i64 (0)), (.int .i64 (0))] : List Value) ++ hc hash0 ++ ([(.int .i64 (0)), (.int .i64 (0)), (.int .i64 (0)), (.slice none 0 0)] : List Value))⟩), (.bool false)])) rfl (by kernel_rfl) ?_
          refine wl_pure (wants0 rfl) (d := 78) (v := (.agg ⟨(([(.int .i64 (0)), (.int .i64 (0))] : List Value) ++ hc hash0 ++ ([(.int .i64 (0)), (.int .i64 (0)), (.int .i64 (0)), (.slice none 0 0)] : List Value))⟩)) rfl (by kernel_rfl) ?_
          refine wl_pure (wants0 rfl) (d := 79) (v := (.bool false)) rfl (by kernel_rfl) ?_
          refine wl_do (wants0 rfl) (fun K256 hK256 => ?_)
          refine d_alloc (zs := (([(.int .i64 (0)), (.int .i64 (0))] : List Value) ++ hc hash0 ++ ([(.int .i64 (0)), (.int .i64 (0)), (.int .i64 (0)), (.slice none 0 0)] : List Value))) (z := (.agg ⟨(([(.int .i64 (0)), (.int .i64 (0))] : List Value) ++ hc hash0 ++ ([(.int .i64 (0)), (.int .i64 (0)), (.int .i64 (0)), (.slice none 0 0)] : List Value))⟩)) rfl H255 (by kernel_rfl) (by kernel_rfl) ?_
          intro b257 w258 (H259 : Sat w [restC w (fun _ => False), cellC b2 44 (([(.int .i64 (x.cl)), (.int .i64 (x.seq))] : List Value) ++ hc x.h ++ ([(.int .i64 (x.len)), (.int .i64 (x.sb)), (.int .i64 (x.sm))] : List Value)), cellC b10 36 ([(.int .i64 (F)), (.int .i64 (3))] : List Value), rowC 49 38 (.slice a D.length c) D.length (D.flatMap encSt), rowC 49 38 (.slice (some ⟨g184, 0, none⟩) ((refS x D N).length) c185) ((refS x D N).length) ((refS x D N).flatMap encSt), cellC b238 47 (([(.int .i64 (x.cl)), (.int .i64 (x.seq))] : List Value) ++ hc x.h ++ ([(.int .i64 (x.len)), (.int .i64 (x.sb)), (.int .i64 (x.sm)), (.slice (some ⟨g184, 0, none⟩) Q c185)] : List Value)), cellC b257 47 (([(.int .i64 (0)), (.int .i64 (0))] : List Value) ++ hc hash0 ++ ([(.int .i64 (0)), (.int .i64 (0)), (.int .i64 (0)), (.slice none 0 0)] : List Value))] w258)
          refine hK256 _ _ ?_
          clear hK256 K256
          refine wl_do (wants0 rfl) (fun K260 hK260 => ?_)
          refine d_storeX (vs := (([(.int .i64 (0)), (.int .i64 (0))] : List Value) ++ hc hash0 ++ ([(.int .i64 (0)), (.int .i64 (0)), (.int .i64 (0)), (.slice none 0 0)] : List Value))) (cs' := (([(.int .i64 (0)), (.int .i64 (0))] : List Value) ++ hc hash0 ++ ([(.int .i64 (0)), (.int .i64 (0)), (.int .i64 (0)), (.slice none 0 0)] : List Value))) rfl H259 6 rfl rfl rfl rfl (by kernel_rfl) (Nat.le_of_ble_eq_true (by kernel_rfl)) (Nat.le_of_ble_eq_true (by kernel_rfl)) (by kernel_rfl) (by kernel_rfl) ?_
          intro w261 (H262 : Sat w [restC w (fun _ => False), cellC b2 44 (([(.int .i64 (x.cl)), (.int .i64 (x.seq))] : List Value) ++ hc x.h ++ ([(.int .i64 (x.len)), (.int .i64 (x.sb)), (.int .i64 (x.sm))] : List Value)), cellC b10 36 ([(.int .i64 (F)), (.int .i64 (3))] : List Value), rowC 49 38 (.slice a D.length c) D.length (D.flatMap encSt), rowC 49 38 (.slice (some ⟨g184, 0, none⟩) ((refS x D N).length) c185) ((refS x D N).length) ((refS x D N).flatMap encSt), cellC b238 47 (([(.int .i64 (x.cl)), (.int .i64 (x.seq))] : List Value) ++ hc x.h ++ ([(.int .i64 (x.len)), (.int .i64 (x.sb)), (.int .i64 (x.sm)), (.slice (some ⟨g184, 0, none⟩) Q c185)] : List Value)), cellC b257 47 (([(.int .i64 (0)), (.int .i64 (0))] : List Value) ++ hc hash0 ++ ([(.int .i64 (0)), (.int .i64 (0)), (.int .i64 (0)), (.slice none 0 0)] : List Value))] w261)
          refine hK260 _ _ ?_
          clear hK260 K260
          refine wl_pure (wants0 rfl) (d := 18) (v := (.bool false)) rfl (by kernel_rfl) ?_
          refine w_nil ?_
          refine then_normal ?_
          refine w_seq ?_
          refine w_seq ?_
          exact (by omega : False).elim
        · have H264 : Sat w [restC w (fun _ => False), cellC b2 44 (([(.int .i64 (x.cl)), (.int .i64 (x.seq))] : List Value) ++ hc x.h ++ ([(.int .i64 (x.len)), (.int .i64 (x.sb)), (.int .i64 (x.sm))] : List Value)), cellC b10 36 ([(.int .i64 (F)), (.int .i64 (3))] : List Value), rowC 49 38 (.slice a D.length c) D.length (D.flatMap encSt), rowC 49 38 (.slice (some ⟨g184, 0, none⟩) ((refS x D N).length) c185) ((refS x D N).length) ((refS x D N).flatMap encSt), cellC b238 47 (([(.int .i64 (x.cl)), (.int .i64 (x.seq))] : List Value) ++ hc x.h ++ ([(.int .i64 (x.len)), (.int .i64 (x.sb)), (.int .i64 (x.sm)), (.slice (some ⟨g184, 0, none⟩) Q c185)] : List Value)), rowC 49 38 (.slice (some ⟨g249, 0, none⟩) (((refS x D N).take Q).length) c250) (((refS x D N).take Q).length) (((refS x D N).take Q).flatMap encSt)] w246 := H243.addU u252 k251 (fun b hb => by cases hb; exact q253)
          refine ⟨_, rfl, ?_⟩
          refine hK245 _ _ ?_
          clear hK245 K245
          refine wl_pure (wants0 rfl) (d := 73) (v := (.tuple #[(.agg ⟨(([(.int .i64 (x.cl)), (.int .i64 (x.seq))] : List Value) ++ hc x.h ++ ([(.int .i64 (x.len)), (.int .i64 (x.sb)), (.int .i64 (x.sm)), (.slice (some ⟨g249, 0, none⟩) Q c250)] : List Value))⟩), (.bool true)])) rfl (by kernel_rfl) ?_
          refine wl_pure (wants0 rfl) (d := 78) (v := (.agg ⟨(([(.int .i64 (x.cl)), (.int .i64 (x.seq))] : List Value) ++ hc x.h ++ ([(.int .i64 (x.len)), (.int .i64 (x.sb)), (.int .i64 (x.sm)), (.slice (some ⟨g249, 0, none⟩) Q c250)] : List Value))⟩)) rfl (by kernel_rfl) ?_
          refine wl_pure (wants0 rfl) (d := 79) (v := (.bool true)) rfl (by kernel_rfl) ?_
          refine wl_do (wants0 rfl) (fun K265 hK265 => ?_)
          refine d_alloc (zs := (([(.int .i64 (0)), (.int .i64 (0))] : List Value) ++ hc hash0 ++ ([(.int .i64 (0)), (.int .i64 (0)), (.int .i64 (0)), (.slice none 0 0)] : List Value))) (z := (.agg ⟨(([(.int .i64 (0)), (.int .i64 (0))] : List Value) ++ hc hash0 ++ ([(.int .i64 (0)), (.int .i64 (0)), (.int .i64 (0)), (.slice none 0 0)] : List Value))⟩)) rfl H264 (by kernel_rfl) (by kernel_rfl) ?_
          intro b266 w267 (H268 : Sat w [restC w (fun _ => False), cellC b2 44 (([(.int .i64 (x.cl)), (.int .i64 (x.seq))] : List Value) ++ hc x.h ++ ([(.int .i64 (x.len)), (.int .i64 (x.sb)), (.int .i64 (x.sm))] : List Value)), cellC b10 36 ([(.int .i64 (F)), (.int .i64 (3))] : List Value), rowC 49 38 (.slice a D.length c) D.length (D.flatMap encSt), rowC 49 38 (.slice (some ⟨g184, 0, none⟩) ((refS x D N).length) c185) ((refS x D N).length) ((refS x D N).flatMap encSt), cellC b238 47 (([(.int .i64 (x.cl)), (.int .i64 (x.seq))] : List Value) ++ hc x.h ++ ([(.int .i64 (x.len)), (.int .i64 (x.sb)), (.int .i64 (x.sm)), (.slice (some ⟨g184, 0, none⟩) Q c185)] : List Value)), rowC 49 38 (.slice (some ⟨g249, 0, none⟩) (((refS x D N).take Q).length) c250) (((refS x D N).take Q).length) (((refS x D N).take Q).flatMap encSt), cellC b266 47 (([(.int .i64 (0)), (.int .i64 (0))] : List Value) ++ hc hash0 ++ ([(.int .i64 (0)), (.int .i64 (0)), (.int .i64 (0)), (.slice none 0 0)] : List Value))] w267)
          refine hK265 _ _ ?_
          clear hK265 K265
          refine wl_do (wants0 rfl) (fun K269 hK269 => ?_)
          refine d_storeX (vs := (([(.int .i64 (x.cl)), (.int .i64 (x.seq))] : List Value) ++ hc x.h ++ ([(.int .i64 (x.len)), (.int .i64 (x.sb)), (.int .i64 (x.sm)), (.slice (some ⟨g249, 0, none⟩) Q c250)] : List Value))) (cs' := (([(.int .i64 (x.cl)), (.int .i64 (x.seq))] : List Value) ++ hc x.h ++ ([(.int .i64 (x.len)), (.int .i64 (x.sb)), (.int .i64 (x.sm)), (.slice (some ⟨g249, 0, none⟩) Q c250)] : List Value))) rfl H268 7 rfl rfl rfl rfl (by kernel_rfl) (Nat.le_of_ble_eq_true (by kernel_rfl)) (Nat.le_of_ble_eq_true (by kernel_rfl)) (by kernel_rfl) (by kernel_rfl) ?_
          intro w270 (H271 : Sat w [restC w (fun _ => False), cellC b2 44 (([(.int .i64 (x.cl)), (.int .i64 (x.seq))] : List Value) ++ hc x.h ++ ([(.int .i64 (x.len)), (.int .i64 (x.sb)), (.int .i64 (x.sm))] : List Value)), cellC b10 36 ([(.int .i64 (F)), (.int .i64 (3))] : List Value), rowC 49 38 (.slice a D.length c) D.length (D.flatMap encSt), rowC 49 38 (.slice (some ⟨g184, 0, none⟩) ((refS x D N).length) c185) ((refS x D N).length) ((refS x D N).flatMap encSt), cellC b238 47 (([(.int .i64 (x.cl)), (.int .i64 (x.seq))] : List Value) ++ hc x.h ++ ([(.int .i64 (x.len)), (.int .i64 (x.sb)), (.int .i64 (x.sm)), (.slice (some ⟨g184, 0, none⟩) Q c185)] : List Value)), rowC 49 38 (.slice (some ⟨g249, 0, none⟩) (((refS x D N).take Q).length) c250) (((refS x D N).take Q).length) (((refS x D N).take Q).flatMap encSt), cellC b266 47 (([(.int .i64 (x.cl)), (.int .i64 (x.seq))] : List Value) ++ hc x.h ++ ([(.int .i64 (x.len)), (.int .i64 (x.sb)), (.int .i64 (x.sm)), (.slice (some ⟨g249, 0, none⟩) Q c250)] : List Value))] w270)
          refine hK269 _ _ ?_
          clear hK269 K269
          refine wl_pure (wants0 rfl) (d := 18) (v := (.bool true)) rfl (by kernel_rfl) ?_
          refine w_nil ?_
          refine then_normal ?_
          refine w_seq ?_
          refine w_seq ?_
          refine w_lit ?_
          refine wl_pure (wants0 rfl) (d := 80) (v := (.bool true)) rfl (by kernel_rfl) ?_
          refine wl_pure (wants0 rfl) (d := 81) (v := (.bool false)) rfl (by kernel_rfl) ?_
          refine w_nil ?_
          refine then_normal ?_
          refine wp_iff rfl ?_
          refine w_skip ?_
          refine then_normal ?_
          refine w_seq ?_
          refine w_lit ?_
          refine wl_pure (wants0 rfl) (d := 92) (v := (.int .i64 (0))) rfl (by kernel_rfl) ?_
          refine wl_pure (wants0 rfl) (d := 93) (v := (.bool true)) rfl (by kernel_rfl) ?_
          refine wl_pure (wants0 rfl) (d := 94) (v := (.bool true)) rfl (by kernel_rfl) ?_
          refine wl_pure (wantsY 2 94 true rfl (by kernel_rfl) rfl (by kernel_rfl)) (d := 95) (v := (.agg ⟨(([(.int .i64 (x.cl)), (.int .i64 (x.seq))] : List Value) ++ hc x.h ++ ([(.int .i64 (x.len)), (.int .i64 (x.sb)), (.int .i64 (x.sm)), (.slice (some ⟨g184, 0, none⟩) Q c185)] : List Value))⟩)) rfl (e_loadN (vs := (([(.int .i64 (x.cl)), (.int .i64 (x.seq))] : List Value) ++ hc x.h ++ ([(.int .i64 (x.len)), (.int .i64 (x.sb)), (.int .i64 (x.sm)), (.slice (some ⟨g184, 0, none⟩) Q c185)] : List Value))) rfl (by kernel_rfl) (by kernel_rfl) (by exact Nat.le_of_ble_eq_true (by kernel_rfl)) (H271.at 5 rfl) (by kernel_rfl)) ?_
          refine wl_pure (wantsY 2 94 true rfl (by kernel_rfl) rfl (by kernel_rfl)) (d := 96) (v := (.agg ⟨(([(.int .i64 (x.cl)), (.int .i64 (x.seq))] : List Value) ++ hc x.h ++ ([(.int .i64 (x.len)), (.int .i64 (x.sb)), (.int .i64 (x.sm)), (.slice (some ⟨g249, 0, none⟩) Q c250)] : List Value))⟩)) rfl (e_loadN (vs := (([(.int .i64 (x.cl)), (.int .i64 (x.seq))] : List Value) ++ hc x.h ++ ([(.int .i64 (x.len)), (.int .i64 (x.sb)), (.int .i64 (x.sm)), (.slice (some ⟨g249, 0, none⟩) Q c250)] : List Value))) rfl (by kernel_rfl) (by kernel_rfl) (by exact Nat.le_of_ble_eq_true (by kernel_rfl)) (H271.at 7 rfl) (by kernel_rfl)) ?_
          refine wl_do (wantsY 2 94 true rfl (by kernel_rfl) rfl (by kernel_rfl)) (fun K273 hK273 => ?_)
          refine d_call (d := 97) rfl (by kernel_rfl) (certEq_any w270 x x (.slice (some ⟨g184, 0, none⟩) Q c185) (.slice (some ⟨g249, 0, none⟩) Q c250) ((refS x D N).take Q) ((refS x D N).take Q) (ListAt.takeN (ListAt.row (enc := encSt) (sz := 38) encSt_len (by decide) (H271.at 4 rfl)) (by omega)) (ListAt.lenN (by rw [List.length_take]; omega) (ListAt.row (enc := encSt) (sz := 38) encSt_len (by decide) (H271.at 6 rfl))) (by first | (simp; done) | (rw [List.length_take]; omega))) ?_
          rintro _ w274 ⟨rfl, u276⟩
          have H275 := H271.keepU u276
          refine ⟨_, rfl, ?_⟩
          refine hK273 _ _ ?_
          clear hK273 K273
          refine wl_pure (wants0 rfl) (d := 98) (v := (.bool (decide (x = x) && decide (((refS x D N).take Q) = ((refS x D N).take Q))))) rfl (by kernel_rfl) ?_
          refine wl_pure (wants0 rfl) (d := 99) (v := (.bool (decide (x = x) && decide (((refS x D N).take Q) = ((refS x D N).take Q))))) rfl (by kernel_rfl) ?_
          have b277 : (decide (x = x) && decide (((refS x D N).take Q) = ((refS x D N).take Q))) = true := by simp
          refine wl_know 99 (.bool true) (congrArg Value.bool b277) ?_
          refine wl_do (wantsY 7 99 true rfl (by kernel_rfl) rfl (by kernel_rfl)) (fun K278 hK278 => ?_)
          refine d_call (d := 100) rfl (by kernel_rfl) (wakes_any w274) ?_
          rintro _ w279 ⟨rfl, u281⟩
          have H280 := H275.keepU u281
          refine ⟨_, rfl, ?_⟩
          refine hK278 _ _ ?_
          clear hK278 K278
          refine wl_pure (wants0 rfl) (d := 101) (v := (.bool true)) rfl (by kernel_rfl) ?_
          refine wl_pure (wants0 rfl) (d := 10) (v := (.bool true)) rfl (by kernel_rfl) ?_
          refine w_nil ?_
          refine then_normal ?_
          refine w_ret ?_
          refine end1 rfl (res_tmp (v := (.bool true)) rfl) ?_
          exact ⟨rfl, H280.upd 0 rfl [] (fun _ h => h.elim)⟩
  · have g282 := of_decide_eq_false b25
    refine wl_know 27 (.bool false) (congrArg Value.bool b25) ?_
    have g283 := of_decide_eq_false b25
    refine wl_pass (wantsN 4 27 true rfl (by kernel_rfl) rfl (by kernel_rfl)) rfl ?_
    refine wl_pass (wantsN 4 27 true rfl (by kernel_rfl) rfl (by kernel_rfl)) rfl ?_
    refine wl_pure (wants0 rfl) (d := 30) (v := (.bool false)) rfl (by kernel_rfl) ?_
    refine w_nil ?_
    refine then_normal ?_
    refine wp_iff rfl ?_
    refine w_exit ?_
    refine then_exit ?_
    refine back_exit ?_
    refine blk_hit ?_
    refine then_normal ?_
    refine w_seq ?_
    have hD12 : D.length ≤ 12 := by omega
    refine w_lit ?_
    refine wl_pure (wants0 rfl) (d := 67) (v := (.agg ⟨([(.int .i64 (F)), (.int .i64 (3))] : List Value)⟩)) rfl (e_loadN (vs := ([(.int .i64 (F)), (.int .i64 (3))] : List Value)) rfl (by kernel_rfl) (by kernel_rfl) (by exact Nat.le_of_ble_eq_true (by kernel_rfl)) (H21.at 2 rfl) (by kernel_rfl)) ?_
    refine wl_pure (wants0 rfl) (d := 68) (v := (.agg ⟨(([(.int .i64 (x.cl)), (.int .i64 (x.seq))] : List Value) ++ hc x.h ++ ([(.int .i64 (x.len)), (.int .i64 (x.sb)), (.int .i64 (x.sm))] : List Value))⟩)) rfl (e_loadN (vs := (([(.int .i64 (x.cl)), (.int .i64 (x.seq))] : List Value) ++ hc x.h ++ ([(.int .i64 (x.len)), (.int .i64 (x.sb)), (.int .i64 (x.sm))] : List Value))) rfl (by kernel_rfl) (by kernel_rfl) (by exact Nat.le_of_ble_eq_true (by kernel_rfl)) (H21.at 1 rfl) (by kernel_rfl)) ?_
    refine wl_pure (wants0 rfl) (d := 69) (v := (.slice a D.length c)) rfl (by kernel_rfl) ?_
    refine wl_do (wants0 rfl) (fun K284 hK284 => ?_)
    refine d_call (d := 70) rfl (by kernel_rfl) (wMake_any w20 F 3 x N Q hN hQ hf a c D (ListAt.row (enc := encSt) (sz := 38) encSt_len (by decide) (H21.at 3 rfl)) hD12) ?_
    rintro _ w285 (⟨rfl, l287, u291⟩ | ⟨g288, c289, rfl, l287, k290, u291, q292⟩)
    · have H294 := H21.keepU u291
      refine ⟨_, rfl, ?_⟩
      refine hK284 _ _ ?_
      clear hK284 K284
      refine wl_pure (wants0 rfl) (d := 66) (v := (.tuple #[(.agg ⟨(([(.int .i64 (0)), (.int .i64 (0))] : List Value) ++ hc hash0 ++ ([(.int .i64 (0)), (.int .i64 (0)), (.int .i64 (0)), (.slice none 0 0)] : List Value))⟩), (.int .i64 (8))])) rfl (by kernel_rfl) ?_
      refine wl_pure (wants0 rfl) (d := 71) (v := (.agg ⟨(([(.int .i64 (0)), (.int .i64 (0))] : List Value) ++ hc hash0 ++ ([(.int .i64 (0)), (.int .i64 (0)), (.int .i64 (0)), (.slice none 0 0)] : List Value))⟩)) rfl (by kernel_rfl) ?_
      refine wl_pure (wants0 rfl) (d := 72) (v := (.int .i64 (8))) rfl (by kernel_rfl) ?_
      refine wl_do (wants0 rfl) (fun K295 hK295 => ?_)
      refine d_alloc (zs := (([(.int .i64 (0)), (.int .i64 (0))] : List Value) ++ hc hash0 ++ ([(.int .i64 (0)), (.int .i64 (0)), (.int .i64 (0)), (.slice none 0 0)] : List Value))) (z := (.agg ⟨(([(.int .i64 (0)), (.int .i64 (0))] : List Value) ++ hc hash0 ++ ([(.int .i64 (0)), (.int .i64 (0)), (.int .i64 (0)), (.slice none 0 0)] : List Value))⟩)) rfl H294 (by kernel_rfl) (by kernel_rfl) ?_
      intro b296 w297 (H298 : Sat w [restC w (fun _ => False), cellC b2 44 (([(.int .i64 (x.cl)), (.int .i64 (x.seq))] : List Value) ++ hc x.h ++ ([(.int .i64 (x.len)), (.int .i64 (x.sb)), (.int .i64 (x.sm))] : List Value)), cellC b10 36 ([(.int .i64 (F)), (.int .i64 (3))] : List Value), rowC 49 38 (.slice a D.length c) D.length (D.flatMap encSt), cellC b296 47 (([(.int .i64 (0)), (.int .i64 (0))] : List Value) ++ hc hash0 ++ ([(.int .i64 (0)), (.int .i64 (0)), (.int .i64 (0)), (.slice none 0 0)] : List Value))] w297)
      refine hK295 _ _ ?_
      clear hK295 K295
      refine wl_do (wants0 rfl) (fun K299 hK299 => ?_)
      refine d_storeX (vs := (([(.int .i64 (0)), (.int .i64 (0))] : List Value) ++ hc hash0 ++ ([(.int .i64 (0)), (.int .i64 (0)), (.int .i64 (0)), (.slice none 0 0)] : List Value))) (cs' := (([(.int .i64 (0)), (.int .i64 (0))] : List Value) ++ hc hash0 ++ ([(.int .i64 (0)), (.int .i64 (0)), (.int .i64 (0)), (.slice none 0 0)] : List Value))) rfl H298 4 rfl rfl rfl rfl (by kernel_rfl) (Nat.le_of_ble_eq_true (by kernel_rfl)) (Nat.le_of_ble_eq_true (by kernel_rfl)) (by kernel_rfl) (by kernel_rfl) ?_
      intro w300 (H301 : Sat w [restC w (fun _ => False), cellC b2 44 (([(.int .i64 (x.cl)), (.int .i64 (x.seq))] : List Value) ++ hc x.h ++ ([(.int .i64 (x.len)), (.int .i64 (x.sb)), (.int .i64 (x.sm))] : List Value)), cellC b10 36 ([(.int .i64 (F)), (.int .i64 (3))] : List Value), rowC 49 38 (.slice a D.length c) D.length (D.flatMap encSt), cellC b296 47 (([(.int .i64 (0)), (.int .i64 (0))] : List Value) ++ hc hash0 ++ ([(.int .i64 (0)), (.int .i64 (0)), (.int .i64 (0)), (.slice none 0 0)] : List Value))] w300)
      refine hK299 _ _ ?_
      clear hK299 K299
      refine wl_pure (wants0 rfl) (d := 16) (v := (.int .i64 (8))) rfl (by kernel_rfl) ?_
      refine w_nil ?_
      refine then_normal ?_
      refine w_seq ?_
      refine w_lit ?_
      refine wl_pure (wants0 rfl) (d := 74) (v := (.agg ⟨([(.int .i64 (F)), (.int .i64 (3))] : List Value)⟩)) rfl (e_loadN (vs := ([(.int .i64 (F)), (.int .i64 (3))] : List Value)) rfl (by kernel_rfl) (by kernel_rfl) (by exact Nat.le_of_ble_eq_true (by kernel_rfl)) (H301.at 2 rfl) (by kernel_rfl)) ?_
      refine wl_pure (wants0 rfl) (d := 75) (v := (.agg ⟨(([(.int .i64 (x.cl)), (.int .i64 (x.seq))] : List Value) ++ hc x.h ++ ([(.int .i64 (x.len)), (.int .i64 (x.sb)), (.int .i64 (x.sm))] : List Value))⟩)) rfl (e_loadN (vs := (([(.int .i64 (x.cl)), (.int .i64 (x.seq))] : List Value) ++ hc x.h ++ ([(.int .i64 (x.len)), (.int .i64 (x.sb)), (.int .i64 (x.sm))] : List Value))) rfl (by kernel_rfl) (by kernel_rfl) (by exact Nat.le_of_ble_eq_true (by kernel_rfl)) (H301.at 1 rfl) (by kernel_rfl)) ?_
      refine wl_pure (wants0 rfl) (d := 76) (v := (.slice a D.length c)) rfl (by kernel_rfl) ?_
      refine wl_do (wants0 rfl) (fun K303 hK303 => ?_)
      refine d_call (d := 77) rfl (by kernel_rfl) (rMake_any w300 F 3 x N Q hN hQ hf a c D (ListAt.row (enc := encSt) (sz := 38) encSt_len (by decide) (H301.at 3 rfl)) hD12) ?_
      rintro _ w304 (⟨rfl, l306, u310⟩ | ⟨g307, c308, rfl, l306, k309, u310, q311⟩)
      · have H313 := H301.keepU u310
        refine ⟨_, rfl, ?_⟩
        refine hK303 _ _ ?_
        clear hK303 K303
        refine wl_pure (wants0 rfl) (d := 73) (v := (.tuple #[(.agg ⟨(([(.int .i64 (0)), (.int .i64 (0))] : List Value) ++ hc hash0 ++ ([(.int .i64 (0)), (.int .i64 (0)), (.int .i64 (0)), (.slice none 0 0)] : List Value))⟩), (.bool false)])) rfl (by kernel_rfl) ?_
        refine wl_pure (wants0 rfl) (d := 78) (v := (.agg ⟨(([(.int .i64 (0)), (.int .i64 (0))] : List Value) ++ hc hash0 ++ ([(.int .i64 (0)), (.int .i64 (0)), (.int .i64 (0)), (.slice none 0 0)] : List Value))⟩)) rfl (by kernel_rfl) ?_
        refine wl_pure (wants0 rfl) (d := 79) (v := (.bool false)) rfl (by kernel_rfl) ?_
        refine wl_do (wants0 rfl) (fun K314 hK314 => ?_)
        refine d_alloc (zs := (([(.int .i64 (0)), (.int .i64 (0))] : List Value) ++ hc hash0 ++ ([(.int .i64 (0)), (.int .i64 (0)), (.int .i64 (0)), (.slice none 0 0)] : List Value))) (z := (.agg ⟨(([(.int .i64 (0)), (.int .i64 (0))] : List Value) ++ hc hash0 ++ ([(.int .i64 (0)), (.int .i64 (0)), (.int .i64 (0)), (.slice none 0 0)] : List Value))⟩)) rfl H313 (by kernel_rfl) (by kernel_rfl) ?_
        intro b315 w316 (H317 : Sat w [restC w (fun _ => False), cellC b2 44 (([(.int .i64 (x.cl)), (.int .i64 (x.seq))] : List Value) ++ hc x.h ++ ([(.int .i64 (x.len)), (.int .i64 (x.sb)), (.int .i64 (x.sm))] : List Value)), cellC b10 36 ([(.int .i64 (F)), (.int .i64 (3))] : List Value), rowC 49 38 (.slice a D.length c) D.length (D.flatMap encSt), cellC b296 47 (([(.int .i64 (0)), (.int .i64 (0))] : List Value) ++ hc hash0 ++ ([(.int .i64 (0)), (.int .i64 (0)), (.int .i64 (0)), (.slice none 0 0)] : List Value)), cellC b315 47 (([(.int .i64 (0)), (.int .i64 (0))] : List Value) ++ hc hash0 ++ ([(.int .i64 (0)), (.int .i64 (0)), (.int .i64 (0)), (.slice none 0 0)] : List Value))] w316)
        refine hK314 _ _ ?_
        clear hK314 K314
        refine wl_do (wants0 rfl) (fun K318 hK318 => ?_)
        refine d_storeX (vs := (([(.int .i64 (0)), (.int .i64 (0))] : List Value) ++ hc hash0 ++ ([(.int .i64 (0)), (.int .i64 (0)), (.int .i64 (0)), (.slice none 0 0)] : List Value))) (cs' := (([(.int .i64 (0)), (.int .i64 (0))] : List Value) ++ hc hash0 ++ ([(.int .i64 (0)), (.int .i64 (0)), (.int .i64 (0)), (.slice none 0 0)] : List Value))) rfl H317 5 rfl rfl rfl rfl (by kernel_rfl) (Nat.le_of_ble_eq_true (by kernel_rfl)) (Nat.le_of_ble_eq_true (by kernel_rfl)) (by kernel_rfl) (by kernel_rfl) ?_
        intro w319 (H320 : Sat w [restC w (fun _ => False), cellC b2 44 (([(.int .i64 (x.cl)), (.int .i64 (x.seq))] : List Value) ++ hc x.h ++ ([(.int .i64 (x.len)), (.int .i64 (x.sb)), (.int .i64 (x.sm))] : List Value)), cellC b10 36 ([(.int .i64 (F)), (.int .i64 (3))] : List Value), rowC 49 38 (.slice a D.length c) D.length (D.flatMap encSt), cellC b296 47 (([(.int .i64 (0)), (.int .i64 (0))] : List Value) ++ hc hash0 ++ ([(.int .i64 (0)), (.int .i64 (0)), (.int .i64 (0)), (.slice none 0 0)] : List Value)), cellC b315 47 (([(.int .i64 (0)), (.int .i64 (0))] : List Value) ++ hc hash0 ++ ([(.int .i64 (0)), (.int .i64 (0)), (.int .i64 (0)), (.slice none 0 0)] : List Value))] w319)
        refine hK318 _ _ ?_
        clear hK318 K318
        refine wl_pure (wants0 rfl) (d := 18) (v := (.bool false)) rfl (by kernel_rfl) ?_
        refine w_nil ?_
        refine then_normal ?_
        refine w_seq ?_
        refine w_seq ?_
        refine w_lit ?_
        refine wl_pure (wants0 rfl) (d := 80) (v := (.bool false)) rfl (by kernel_rfl) ?_
        refine wl_pure (wants0 rfl) (d := 81) (v := (.bool true)) rfl (by kernel_rfl) ?_
        refine w_nil ?_
        refine then_normal ?_
        refine wp_ift rfl ?_
        refine w_seq ?_
        refine w_lit ?_
        refine wl_pure (wants0 rfl) (d := 82) (v := (.int .i64 (8))) rfl (by kernel_rfl) ?_
        refine wl_pure (wants0 rfl) (d := 83) (v := (.bool true)) rfl (by kernel_rfl) ?_
        refine wl_pure (wants0 rfl) (d := 84) (v := (.bool true)) rfl (by kernel_rfl) ?_
        refine wl_pure (wantsY 2 84 true rfl (by kernel_rfl) rfl (by kernel_rfl)) (d := 85) (v := (.agg ⟨(([(.int .i64 (0)), (.int .i64 (0))] : List Value) ++ hc hash0 ++ ([(.int .i64 (0)), (.int .i64 (0)), (.int .i64 (0)), (.slice none 0 0)] : List Value))⟩)) rfl (e_loadN (vs := (([(.int .i64 (0)), (.int .i64 (0))] : List Value) ++ hc hash0 ++ ([(.int .i64 (0)), (.int .i64 (0)), (.int .i64 (0)), (.slice none 0 0)] : List Value))) rfl (by kernel_rfl) (by kernel_rfl) (by exact Nat.le_of_ble_eq_true (by kernel_rfl)) (H320.at 4 rfl) (by kernel_rfl)) ?_
        refine wl_pure (wantsY 2 84 true rfl (by kernel_rfl) rfl (by kernel_rfl)) (d := 86) (v := (.agg ⟨(([(.int .i64 (0)), (.int .i64 (0))] : List Value) ++ hc hash0 ++ ([(.int .i64 (0)), (.int .i64 (0)), (.int .i64 (0)), (.slice none 0 0)] : List Value))⟩)) rfl (by kernel_rfl) ?_
        refine wl_do (wantsY 2 84 true rfl (by kernel_rfl) rfl (by kernel_rfl)) (fun K322 hK322 => ?_)
        refine d_call (d := 87) rfl (by kernel_rfl) (certEq_any w319 (⟨0, 0, hash0, 0, 0, 0⟩ : CommitD) (⟨0, 0, hash0, 0, 0, 0⟩ : CommitD) (.slice none 0 0) (.slice none 0 0) ([] : List StampD) ([] : List StampD) ListAt.nil ListAt.nil (by first | (simp; done) | (rw [List.length_take]; omega))) ?_
        rintro _ w323 ⟨rfl, u325⟩
        have H324 := H320.keepU u325
        refine ⟨_, rfl, ?_⟩
        refine hK322 _ _ ?_
        clear hK322 K322
        refine wl_pure (wants0 rfl) (d := 88) (v := (.bool (decide ((⟨0, 0, hash0, 0, 0, 0⟩ : CommitD) = (⟨0, 0, hash0, 0, 0, 0⟩ : CommitD)) && decide (([] : List StampD) = ([] : List StampD))))) rfl (by kernel_rfl) ?_
        refine wl_pure (wants0 rfl) (d := 89) (v := (.bool (decide ((⟨0, 0, hash0, 0, 0, 0⟩ : CommitD) = (⟨0, 0, hash0, 0, 0, 0⟩ : CommitD)) && decide (([] : List StampD) = ([] : List StampD))))) rfl (by kernel_rfl) ?_
        have b326 : (decide ((⟨0, 0, hash0, 0, 0, 0⟩ : CommitD) = (⟨0, 0, hash0, 0, 0, 0⟩ : CommitD)) && decide (([] : List StampD) = ([] : List StampD))) = true := by simp
        refine wl_know 89 (.bool true) (congrArg Value.bool b326) ?_
        refine wl_do (wantsY 7 89 true rfl (by kernel_rfl) rfl (by kernel_rfl)) (fun K327 hK327 => ?_)
        refine d_call (d := 90) rfl (by kernel_rfl) (wakes_any w323) ?_
        rintro _ w328 ⟨rfl, u330⟩
        have H329 := H324.keepU u330
        refine ⟨_, rfl, ?_⟩
        refine hK327 _ _ ?_
        clear hK327 K327
        refine wl_pure (wants0 rfl) (d := 91) (v := (.bool true)) rfl (by kernel_rfl) ?_
        refine wl_pure (wants0 rfl) (d := 10) (v := (.bool true)) rfl (by kernel_rfl) ?_
        refine w_nil ?_
        refine then_normal ?_
        refine w_ret ?_
        refine then_ret ?_
        refine end1 rfl (res_tmp (v := (.bool true)) rfl) ?_
        exact ⟨rfl, H329.upd 0 rfl [] (fun _ h => h.elim)⟩
      · have H331 : Sat w [restC w (fun _ => False), cellC b2 44 (([(.int .i64 (x.cl)), (.int .i64 (x.seq))] : List Value) ++ hc x.h ++ ([(.int .i64 (x.len)), (.int .i64 (x.sb)), (.int .i64 (x.sm))] : List Value)), cellC b10 36 ([(.int .i64 (F)), (.int .i64 (3))] : List Value), rowC 49 38 (.slice a D.length c) D.length (D.flatMap encSt), cellC b296 47 (([(.int .i64 (0)), (.int .i64 (0))] : List Value) ++ hc hash0 ++ ([(.int .i64 (0)), (.int .i64 (0)), (.int .i64 (0)), (.slice none 0 0)] : List Value)), rowC 49 38 (.slice (some ⟨g307, 0, none⟩) (((refS x D N).take Q).length) c308) (((refS x D N).take Q).length) (((refS x D N).take Q).flatMap encSt)] w304 := H301.addU u310 k309 (fun b hb => by cases hb; exact q311)
        refine ⟨_, rfl, ?_⟩
        refine hK303 _ _ ?_
        clear hK303 K303
        refine wl_pure (wants0 rfl) (d := 73) (v := (.tuple #[(.agg ⟨(([(.int .i64 (x.cl)), (.int .i64 (x.seq))] : List Value) ++ hc x.h ++ ([(.int .i64 (x.len)), (.int .i64 (x.sb)), (.int .i64 (x.sm)), (.slice (some ⟨g307, 0, none⟩) Q c308)] : List Value))⟩), (.bool true)])) rfl (by kernel_rfl) ?_
        refine wl_pure (wants0 rfl) (d := 78) (v := (.agg ⟨(([(.int .i64 (x.cl)), (.int .i64 (x.seq))] : List Value) ++ hc x.h ++ ([(.int .i64 (x.len)), (.int .i64 (x.sb)), (.int .i64 (x.sm)), (.slice (some ⟨g307, 0, none⟩) Q c308)] : List Value))⟩)) rfl (by kernel_rfl) ?_
        refine wl_pure (wants0 rfl) (d := 79) (v := (.bool true)) rfl (by kernel_rfl) ?_
        refine wl_do (wants0 rfl) (fun K332 hK332 => ?_)
        refine d_alloc (zs := (([(.int .i64 (0)), (.int .i64 (0))] : List Value) ++ hc hash0 ++ ([(.int .i64 (0)), (.int .i64 (0)), (.int .i64 (0)), (.slice none 0 0)] : List Value))) (z := (.agg ⟨(([(.int .i64 (0)), (.int .i64 (0))] : List Value) ++ hc hash0 ++ ([(.int .i64 (0)), (.int .i64 (0)), (.int .i64 (0)), (.slice none 0 0)] : List Value))⟩)) rfl H331 (by kernel_rfl) (by kernel_rfl) ?_
        intro b333 w334 (H335 : Sat w [restC w (fun _ => False), cellC b2 44 (([(.int .i64 (x.cl)), (.int .i64 (x.seq))] : List Value) ++ hc x.h ++ ([(.int .i64 (x.len)), (.int .i64 (x.sb)), (.int .i64 (x.sm))] : List Value)), cellC b10 36 ([(.int .i64 (F)), (.int .i64 (3))] : List Value), rowC 49 38 (.slice a D.length c) D.length (D.flatMap encSt), cellC b296 47 (([(.int .i64 (0)), (.int .i64 (0))] : List Value) ++ hc hash0 ++ ([(.int .i64 (0)), (.int .i64 (0)), (.int .i64 (0)), (.slice none 0 0)] : List Value)), rowC 49 38 (.slice (some ⟨g307, 0, none⟩) (((refS x D N).take Q).length) c308) (((refS x D N).take Q).length) (((refS x D N).take Q).flatMap encSt), cellC b333 47 (([(.int .i64 (0)), (.int .i64 (0))] : List Value) ++ hc hash0 ++ ([(.int .i64 (0)), (.int .i64 (0)), (.int .i64 (0)), (.slice none 0 0)] : List Value))] w334)
        refine hK332 _ _ ?_
        clear hK332 K332
        refine wl_do (wants0 rfl) (fun K336 hK336 => ?_)
        refine d_storeX (vs := (([(.int .i64 (x.cl)), (.int .i64 (x.seq))] : List Value) ++ hc x.h ++ ([(.int .i64 (x.len)), (.int .i64 (x.sb)), (.int .i64 (x.sm)), (.slice (some ⟨g307, 0, none⟩) Q c308)] : List Value))) (cs' := (([(.int .i64 (x.cl)), (.int .i64 (x.seq))] : List Value) ++ hc x.h ++ ([(.int .i64 (x.len)), (.int .i64 (x.sb)), (.int .i64 (x.sm)), (.slice (some ⟨g307, 0, none⟩) Q c308)] : List Value))) rfl H335 6 rfl rfl rfl rfl (by kernel_rfl) (Nat.le_of_ble_eq_true (by kernel_rfl)) (Nat.le_of_ble_eq_true (by kernel_rfl)) (by kernel_rfl) (by kernel_rfl) ?_
        intro w337 (H338 : Sat w [restC w (fun _ => False), cellC b2 44 (([(.int .i64 (x.cl)), (.int .i64 (x.seq))] : List Value) ++ hc x.h ++ ([(.int .i64 (x.len)), (.int .i64 (x.sb)), (.int .i64 (x.sm))] : List Value)), cellC b10 36 ([(.int .i64 (F)), (.int .i64 (3))] : List Value), rowC 49 38 (.slice a D.length c) D.length (D.flatMap encSt), cellC b296 47 (([(.int .i64 (0)), (.int .i64 (0))] : List Value) ++ hc hash0 ++ ([(.int .i64 (0)), (.int .i64 (0)), (.int .i64 (0)), (.slice none 0 0)] : List Value)), rowC 49 38 (.slice (some ⟨g307, 0, none⟩) (((refS x D N).take Q).length) c308) (((refS x D N).take Q).length) (((refS x D N).take Q).flatMap encSt), cellC b333 47 (([(.int .i64 (x.cl)), (.int .i64 (x.seq))] : List Value) ++ hc x.h ++ ([(.int .i64 (x.len)), (.int .i64 (x.sb)), (.int .i64 (x.sm)), (.slice (some ⟨g307, 0, none⟩) Q c308)] : List Value))] w337)
        refine hK336 _ _ ?_
        clear hK336 K336
        refine wl_pure (wants0 rfl) (d := 18) (v := (.bool true)) rfl (by kernel_rfl) ?_
        refine w_nil ?_
        refine then_normal ?_
        refine w_seq ?_
        refine w_seq ?_
        exact (by omega : False).elim
    · have H340 : Sat w [restC w (fun _ => False), cellC b2 44 (([(.int .i64 (x.cl)), (.int .i64 (x.seq))] : List Value) ++ hc x.h ++ ([(.int .i64 (x.len)), (.int .i64 (x.sb)), (.int .i64 (x.sm))] : List Value)), cellC b10 36 ([(.int .i64 (F)), (.int .i64 (3))] : List Value), rowC 49 38 (.slice a D.length c) D.length (D.flatMap encSt), rowC 49 38 (.slice (some ⟨g288, 0, none⟩) ((refS x D N).length) c289) ((refS x D N).length) ((refS x D N).flatMap encSt)] w285 := H21.addU u291 k290 (fun b hb => by cases hb; exact q292)
      refine ⟨_, rfl, ?_⟩
      refine hK284 _ _ ?_
      clear hK284 K284
      refine wl_pure (wants0 rfl) (d := 66) (v := (.tuple #[(.agg ⟨(([(.int .i64 (x.cl)), (.int .i64 (x.seq))] : List Value) ++ hc x.h ++ ([(.int .i64 (x.len)), (.int .i64 (x.sb)), (.int .i64 (x.sm)), (.slice (some ⟨g288, 0, none⟩) Q c289)] : List Value))⟩), (.int .i64 (0))])) rfl (by kernel_rfl) ?_
      refine wl_pure (wants0 rfl) (d := 71) (v := (.agg ⟨(([(.int .i64 (x.cl)), (.int .i64 (x.seq))] : List Value) ++ hc x.h ++ ([(.int .i64 (x.len)), (.int .i64 (x.sb)), (.int .i64 (x.sm)), (.slice (some ⟨g288, 0, none⟩) Q c289)] : List Value))⟩)) rfl (by kernel_rfl) ?_
      refine wl_pure (wants0 rfl) (d := 72) (v := (.int .i64 (0))) rfl (by kernel_rfl) ?_
      refine wl_do (wants0 rfl) (fun K341 hK341 => ?_)
      refine d_alloc (zs := (([(.int .i64 (0)), (.int .i64 (0))] : List Value) ++ hc hash0 ++ ([(.int .i64 (0)), (.int .i64 (0)), (.int .i64 (0)), (.slice none 0 0)] : List Value))) (z := (.agg ⟨(([(.int .i64 (0)), (.int .i64 (0))] : List Value) ++ hc hash0 ++ ([(.int .i64 (0)), (.int .i64 (0)), (.int .i64 (0)), (.slice none 0 0)] : List Value))⟩)) rfl H340 (by kernel_rfl) (by kernel_rfl) ?_
      intro b342 w343 (H344 : Sat w [restC w (fun _ => False), cellC b2 44 (([(.int .i64 (x.cl)), (.int .i64 (x.seq))] : List Value) ++ hc x.h ++ ([(.int .i64 (x.len)), (.int .i64 (x.sb)), (.int .i64 (x.sm))] : List Value)), cellC b10 36 ([(.int .i64 (F)), (.int .i64 (3))] : List Value), rowC 49 38 (.slice a D.length c) D.length (D.flatMap encSt), rowC 49 38 (.slice (some ⟨g288, 0, none⟩) ((refS x D N).length) c289) ((refS x D N).length) ((refS x D N).flatMap encSt), cellC b342 47 (([(.int .i64 (0)), (.int .i64 (0))] : List Value) ++ hc hash0 ++ ([(.int .i64 (0)), (.int .i64 (0)), (.int .i64 (0)), (.slice none 0 0)] : List Value))] w343)
      refine hK341 _ _ ?_
      clear hK341 K341
      refine wl_do (wants0 rfl) (fun K345 hK345 => ?_)
      refine d_storeX (vs := (([(.int .i64 (x.cl)), (.int .i64 (x.seq))] : List Value) ++ hc x.h ++ ([(.int .i64 (x.len)), (.int .i64 (x.sb)), (.int .i64 (x.sm)), (.slice (some ⟨g288, 0, none⟩) Q c289)] : List Value))) (cs' := (([(.int .i64 (x.cl)), (.int .i64 (x.seq))] : List Value) ++ hc x.h ++ ([(.int .i64 (x.len)), (.int .i64 (x.sb)), (.int .i64 (x.sm)), (.slice (some ⟨g288, 0, none⟩) Q c289)] : List Value))) rfl H344 5 rfl rfl rfl rfl (by kernel_rfl) (Nat.le_of_ble_eq_true (by kernel_rfl)) (Nat.le_of_ble_eq_true (by kernel_rfl)) (by kernel_rfl) (by kernel_rfl) ?_
      intro w346 (H347 : Sat w [restC w (fun _ => False), cellC b2 44 (([(.int .i64 (x.cl)), (.int .i64 (x.seq))] : List Value) ++ hc x.h ++ ([(.int .i64 (x.len)), (.int .i64 (x.sb)), (.int .i64 (x.sm))] : List Value)), cellC b10 36 ([(.int .i64 (F)), (.int .i64 (3))] : List Value), rowC 49 38 (.slice a D.length c) D.length (D.flatMap encSt), rowC 49 38 (.slice (some ⟨g288, 0, none⟩) ((refS x D N).length) c289) ((refS x D N).length) ((refS x D N).flatMap encSt), cellC b342 47 (([(.int .i64 (x.cl)), (.int .i64 (x.seq))] : List Value) ++ hc x.h ++ ([(.int .i64 (x.len)), (.int .i64 (x.sb)), (.int .i64 (x.sm)), (.slice (some ⟨g288, 0, none⟩) Q c289)] : List Value))] w346)
      refine hK345 _ _ ?_
      clear hK345 K345
      refine wl_pure (wants0 rfl) (d := 16) (v := (.int .i64 (0))) rfl (by kernel_rfl) ?_
      refine w_nil ?_
      refine then_normal ?_
      refine w_seq ?_
      refine w_lit ?_
      refine wl_pure (wants0 rfl) (d := 74) (v := (.agg ⟨([(.int .i64 (F)), (.int .i64 (3))] : List Value)⟩)) rfl (e_loadN (vs := ([(.int .i64 (F)), (.int .i64 (3))] : List Value)) rfl (by kernel_rfl) (by kernel_rfl) (by exact Nat.le_of_ble_eq_true (by kernel_rfl)) (H347.at 2 rfl) (by kernel_rfl)) ?_
      refine wl_pure (wants0 rfl) (d := 75) (v := (.agg ⟨(([(.int .i64 (x.cl)), (.int .i64 (x.seq))] : List Value) ++ hc x.h ++ ([(.int .i64 (x.len)), (.int .i64 (x.sb)), (.int .i64 (x.sm))] : List Value))⟩)) rfl (e_loadN (vs := (([(.int .i64 (x.cl)), (.int .i64 (x.seq))] : List Value) ++ hc x.h ++ ([(.int .i64 (x.len)), (.int .i64 (x.sb)), (.int .i64 (x.sm))] : List Value))) rfl (by kernel_rfl) (by kernel_rfl) (by exact Nat.le_of_ble_eq_true (by kernel_rfl)) (H347.at 1 rfl) (by kernel_rfl)) ?_
      refine wl_pure (wants0 rfl) (d := 76) (v := (.slice a D.length c)) rfl (by kernel_rfl) ?_
      refine wl_do (wants0 rfl) (fun K349 hK349 => ?_)
      refine d_call (d := 77) rfl (by kernel_rfl) (rMake_any w346 F 3 x N Q hN hQ hf a c D (ListAt.row (enc := encSt) (sz := 38) encSt_len (by decide) (H347.at 3 rfl)) hD12) ?_
      rintro _ w350 (⟨rfl, l352, u356⟩ | ⟨g353, c354, rfl, l352, k355, u356, q357⟩)
      · have H359 := H347.keepU u356
        refine ⟨_, rfl, ?_⟩
        refine hK349 _ _ ?_
        clear hK349 K349
        refine wl_pure (wants0 rfl) (d := 73) (v := (.tuple #[(.agg ⟨(([(.int .i64 (0)), (.int .i64 (0))] : List Value) ++ hc hash0 ++ ([(.int .i64 (0)), (.int .i64 (0)), (.int .i64 (0)), (.slice none 0 0)] : List Value))⟩), (.bool false)])) rfl (by kernel_rfl) ?_
        refine wl_pure (wants0 rfl) (d := 78) (v := (.agg ⟨(([(.int .i64 (0)), (.int .i64 (0))] : List Value) ++ hc hash0 ++ ([(.int .i64 (0)), (.int .i64 (0)), (.int .i64 (0)), (.slice none 0 0)] : List Value))⟩)) rfl (by kernel_rfl) ?_
        refine wl_pure (wants0 rfl) (d := 79) (v := (.bool false)) rfl (by kernel_rfl) ?_
        refine wl_do (wants0 rfl) (fun K360 hK360 => ?_)
        refine d_alloc (zs := (([(.int .i64 (0)), (.int .i64 (0))] : List Value) ++ hc hash0 ++ ([(.int .i64 (0)), (.int .i64 (0)), (.int .i64 (0)), (.slice none 0 0)] : List Value))) (z := (.agg ⟨(([(.int .i64 (0)), (.int .i64 (0))] : List Value) ++ hc hash0 ++ ([(.int .i64 (0)), (.int .i64 (0)), (.int .i64 (0)), (.slice none 0 0)] : List Value))⟩)) rfl H359 (by kernel_rfl) (by kernel_rfl) ?_
        intro b361 w362 (H363 : Sat w [restC w (fun _ => False), cellC b2 44 (([(.int .i64 (x.cl)), (.int .i64 (x.seq))] : List Value) ++ hc x.h ++ ([(.int .i64 (x.len)), (.int .i64 (x.sb)), (.int .i64 (x.sm))] : List Value)), cellC b10 36 ([(.int .i64 (F)), (.int .i64 (3))] : List Value), rowC 49 38 (.slice a D.length c) D.length (D.flatMap encSt), rowC 49 38 (.slice (some ⟨g288, 0, none⟩) ((refS x D N).length) c289) ((refS x D N).length) ((refS x D N).flatMap encSt), cellC b342 47 (([(.int .i64 (x.cl)), (.int .i64 (x.seq))] : List Value) ++ hc x.h ++ ([(.int .i64 (x.len)), (.int .i64 (x.sb)), (.int .i64 (x.sm)), (.slice (some ⟨g288, 0, none⟩) Q c289)] : List Value)), cellC b361 47 (([(.int .i64 (0)), (.int .i64 (0))] : List Value) ++ hc hash0 ++ ([(.int .i64 (0)), (.int .i64 (0)), (.int .i64 (0)), (.slice none 0 0)] : List Value))] w362)
        refine hK360 _ _ ?_
        clear hK360 K360
        refine wl_do (wants0 rfl) (fun K364 hK364 => ?_)
        refine d_storeX (vs := (([(.int .i64 (0)), (.int .i64 (0))] : List Value) ++ hc hash0 ++ ([(.int .i64 (0)), (.int .i64 (0)), (.int .i64 (0)), (.slice none 0 0)] : List Value))) (cs' := (([(.int .i64 (0)), (.int .i64 (0))] : List Value) ++ hc hash0 ++ ([(.int .i64 (0)), (.int .i64 (0)), (.int .i64 (0)), (.slice none 0 0)] : List Value))) rfl H363 6 rfl rfl rfl rfl (by kernel_rfl) (Nat.le_of_ble_eq_true (by kernel_rfl)) (Nat.le_of_ble_eq_true (by kernel_rfl)) (by kernel_rfl) (by kernel_rfl) ?_
        intro w365 (H366 : Sat w [restC w (fun _ => False), cellC b2 44 (([(.int .i64 (x.cl)), (.int .i64 (x.seq))] : List Value) ++ hc x.h ++ ([(.int .i64 (x.len)), (.int .i64 (x.sb)), (.int .i64 (x.sm))] : List Value)), cellC b10 36 ([(.int .i64 (F)), (.int .i64 (3))] : List Value), rowC 49 38 (.slice a D.length c) D.length (D.flatMap encSt), rowC 49 38 (.slice (some ⟨g288, 0, none⟩) ((refS x D N).length) c289) ((refS x D N).length) ((refS x D N).flatMap encSt), cellC b342 47 (([(.int .i64 (x.cl)), (.int .i64 (x.seq))] : List Value) ++ hc x.h ++ ([(.int .i64 (x.len)), (.int .i64 (x.sb)), (.int .i64 (x.sm)), (.slice (some ⟨g288, 0, none⟩) Q c289)] : List Value)), cellC b361 47 (([(.int .i64 (0)), (.int .i64 (0))] : List Value) ++ hc hash0 ++ ([(.int .i64 (0)), (.int .i64 (0)), (.int .i64 (0)), (.slice none 0 0)] : List Value))] w365)
        refine hK364 _ _ ?_
        clear hK364 K364
        refine wl_pure (wants0 rfl) (d := 18) (v := (.bool false)) rfl (by kernel_rfl) ?_
        refine w_nil ?_
        refine then_normal ?_
        refine w_seq ?_
        refine w_seq ?_
        exact (by omega : False).elim
      · have H368 : Sat w [restC w (fun _ => False), cellC b2 44 (([(.int .i64 (x.cl)), (.int .i64 (x.seq))] : List Value) ++ hc x.h ++ ([(.int .i64 (x.len)), (.int .i64 (x.sb)), (.int .i64 (x.sm))] : List Value)), cellC b10 36 ([(.int .i64 (F)), (.int .i64 (3))] : List Value), rowC 49 38 (.slice a D.length c) D.length (D.flatMap encSt), rowC 49 38 (.slice (some ⟨g288, 0, none⟩) ((refS x D N).length) c289) ((refS x D N).length) ((refS x D N).flatMap encSt), cellC b342 47 (([(.int .i64 (x.cl)), (.int .i64 (x.seq))] : List Value) ++ hc x.h ++ ([(.int .i64 (x.len)), (.int .i64 (x.sb)), (.int .i64 (x.sm)), (.slice (some ⟨g288, 0, none⟩) Q c289)] : List Value)), rowC 49 38 (.slice (some ⟨g353, 0, none⟩) (((refS x D N).take Q).length) c354) (((refS x D N).take Q).length) (((refS x D N).take Q).flatMap encSt)] w350 := H347.addU u356 k355 (fun b hb => by cases hb; exact q357)
        refine ⟨_, rfl, ?_⟩
        refine hK349 _ _ ?_
        clear hK349 K349
        refine wl_pure (wants0 rfl) (d := 73) (v := (.tuple #[(.agg ⟨(([(.int .i64 (x.cl)), (.int .i64 (x.seq))] : List Value) ++ hc x.h ++ ([(.int .i64 (x.len)), (.int .i64 (x.sb)), (.int .i64 (x.sm)), (.slice (some ⟨g353, 0, none⟩) Q c354)] : List Value))⟩), (.bool true)])) rfl (by kernel_rfl) ?_
        refine wl_pure (wants0 rfl) (d := 78) (v := (.agg ⟨(([(.int .i64 (x.cl)), (.int .i64 (x.seq))] : List Value) ++ hc x.h ++ ([(.int .i64 (x.len)), (.int .i64 (x.sb)), (.int .i64 (x.sm)), (.slice (some ⟨g353, 0, none⟩) Q c354)] : List Value))⟩)) rfl (by kernel_rfl) ?_
        refine wl_pure (wants0 rfl) (d := 79) (v := (.bool true)) rfl (by kernel_rfl) ?_
        refine wl_do (wants0 rfl) (fun K369 hK369 => ?_)
        refine d_alloc (zs := (([(.int .i64 (0)), (.int .i64 (0))] : List Value) ++ hc hash0 ++ ([(.int .i64 (0)), (.int .i64 (0)), (.int .i64 (0)), (.slice none 0 0)] : List Value))) (z := (.agg ⟨(([(.int .i64 (0)), (.int .i64 (0))] : List Value) ++ hc hash0 ++ ([(.int .i64 (0)), (.int .i64 (0)), (.int .i64 (0)), (.slice none 0 0)] : List Value))⟩)) rfl H368 (by kernel_rfl) (by kernel_rfl) ?_
        intro b370 w371 (H372 : Sat w [restC w (fun _ => False), cellC b2 44 (([(.int .i64 (x.cl)), (.int .i64 (x.seq))] : List Value) ++ hc x.h ++ ([(.int .i64 (x.len)), (.int .i64 (x.sb)), (.int .i64 (x.sm))] : List Value)), cellC b10 36 ([(.int .i64 (F)), (.int .i64 (3))] : List Value), rowC 49 38 (.slice a D.length c) D.length (D.flatMap encSt), rowC 49 38 (.slice (some ⟨g288, 0, none⟩) ((refS x D N).length) c289) ((refS x D N).length) ((refS x D N).flatMap encSt), cellC b342 47 (([(.int .i64 (x.cl)), (.int .i64 (x.seq))] : List Value) ++ hc x.h ++ ([(.int .i64 (x.len)), (.int .i64 (x.sb)), (.int .i64 (x.sm)), (.slice (some ⟨g288, 0, none⟩) Q c289)] : List Value)), rowC 49 38 (.slice (some ⟨g353, 0, none⟩) (((refS x D N).take Q).length) c354) (((refS x D N).take Q).length) (((refS x D N).take Q).flatMap encSt), cellC b370 47 (([(.int .i64 (0)), (.int .i64 (0))] : List Value) ++ hc hash0 ++ ([(.int .i64 (0)), (.int .i64 (0)), (.int .i64 (0)), (.slice none 0 0)] : List Value))] w371)
        refine hK369 _ _ ?_
        clear hK369 K369
        refine wl_do (wants0 rfl) (fun K373 hK373 => ?_)
        refine d_storeX (vs := (([(.int .i64 (x.cl)), (.int .i64 (x.seq))] : List Value) ++ hc x.h ++ ([(.int .i64 (x.len)), (.int .i64 (x.sb)), (.int .i64 (x.sm)), (.slice (some ⟨g353, 0, none⟩) Q c354)] : List Value))) (cs' := (([(.int .i64 (x.cl)), (.int .i64 (x.seq))] : List Value) ++ hc x.h ++ ([(.int .i64 (x.len)), (.int .i64 (x.sb)), (.int .i64 (x.sm)), (.slice (some ⟨g353, 0, none⟩) Q c354)] : List Value))) rfl H372 7 rfl rfl rfl rfl (by kernel_rfl) (Nat.le_of_ble_eq_true (by kernel_rfl)) (Nat.le_of_ble_eq_true (by kernel_rfl)) (by kernel_rfl) (by kernel_rfl) ?_
        intro w374 (H375 : Sat w [restC w (fun _ => False), cellC b2 44 (([(.int .i64 (x.cl)), (.int .i64 (x.seq))] : List Value) ++ hc x.h ++ ([(.int .i64 (x.len)), (.int .i64 (x.sb)), (.int .i64 (x.sm))] : List Value)), cellC b10 36 ([(.int .i64 (F)), (.int .i64 (3))] : List Value), rowC 49 38 (.slice a D.length c) D.length (D.flatMap encSt), rowC 49 38 (.slice (some ⟨g288, 0, none⟩) ((refS x D N).length) c289) ((refS x D N).length) ((refS x D N).flatMap encSt), cellC b342 47 (([(.int .i64 (x.cl)), (.int .i64 (x.seq))] : List Value) ++ hc x.h ++ ([(.int .i64 (x.len)), (.int .i64 (x.sb)), (.int .i64 (x.sm)), (.slice (some ⟨g288, 0, none⟩) Q c289)] : List Value)), rowC 49 38 (.slice (some ⟨g353, 0, none⟩) (((refS x D N).take Q).length) c354) (((refS x D N).take Q).length) (((refS x D N).take Q).flatMap encSt), cellC b370 47 (([(.int .i64 (x.cl)), (.int .i64 (x.seq))] : List Value) ++ hc x.h ++ ([(.int .i64 (x.len)), (.int .i64 (x.sb)), (.int .i64 (x.sm)), (.slice (some ⟨g353, 0, none⟩) Q c354)] : List Value))] w374)
        refine hK373 _ _ ?_
        clear hK373 K373
        refine wl_pure (wants0 rfl) (d := 18) (v := (.bool true)) rfl (by kernel_rfl) ?_
        refine w_nil ?_
        refine then_normal ?_
        refine w_seq ?_
        refine w_seq ?_
        refine w_lit ?_
        refine wl_pure (wants0 rfl) (d := 80) (v := (.bool true)) rfl (by kernel_rfl) ?_
        refine wl_pure (wants0 rfl) (d := 81) (v := (.bool false)) rfl (by kernel_rfl) ?_
        refine w_nil ?_
        refine then_normal ?_
        refine wp_iff rfl ?_
        refine w_skip ?_
        refine then_normal ?_
        refine w_seq ?_
        refine w_lit ?_
        refine wl_pure (wants0 rfl) (d := 92) (v := (.int .i64 (0))) rfl (by kernel_rfl) ?_
        refine wl_pure (wants0 rfl) (d := 93) (v := (.bool true)) rfl (by kernel_rfl) ?_
        refine wl_pure (wants0 rfl) (d := 94) (v := (.bool true)) rfl (by kernel_rfl) ?_
        refine wl_pure (wantsY 2 94 true rfl (by kernel_rfl) rfl (by kernel_rfl)) (d := 95) (v := (.agg ⟨(([(.int .i64 (x.cl)), (.int .i64 (x.seq))] : List Value) ++ hc x.h ++ ([(.int .i64 (x.len)), (.int .i64 (x.sb)), (.int .i64 (x.sm)), (.slice (some ⟨g288, 0, none⟩) Q c289)] : List Value))⟩)) rfl (e_loadN (vs := (([(.int .i64 (x.cl)), (.int .i64 (x.seq))] : List Value) ++ hc x.h ++ ([(.int .i64 (x.len)), (.int .i64 (x.sb)), (.int .i64 (x.sm)), (.slice (some ⟨g288, 0, none⟩) Q c289)] : List Value))) rfl (by kernel_rfl) (by kernel_rfl) (by exact Nat.le_of_ble_eq_true (by kernel_rfl)) (H375.at 5 rfl) (by kernel_rfl)) ?_
        refine wl_pure (wantsY 2 94 true rfl (by kernel_rfl) rfl (by kernel_rfl)) (d := 96) (v := (.agg ⟨(([(.int .i64 (x.cl)), (.int .i64 (x.seq))] : List Value) ++ hc x.h ++ ([(.int .i64 (x.len)), (.int .i64 (x.sb)), (.int .i64 (x.sm)), (.slice (some ⟨g353, 0, none⟩) Q c354)] : List Value))⟩)) rfl (e_loadN (vs := (([(.int .i64 (x.cl)), (.int .i64 (x.seq))] : List Value) ++ hc x.h ++ ([(.int .i64 (x.len)), (.int .i64 (x.sb)), (.int .i64 (x.sm)), (.slice (some ⟨g353, 0, none⟩) Q c354)] : List Value))) rfl (by kernel_rfl) (by kernel_rfl) (by exact Nat.le_of_ble_eq_true (by kernel_rfl)) (H375.at 7 rfl) (by kernel_rfl)) ?_
        refine wl_do (wantsY 2 94 true rfl (by kernel_rfl) rfl (by kernel_rfl)) (fun K377 hK377 => ?_)
        refine d_call (d := 97) rfl (by kernel_rfl) (certEq_any w374 x x (.slice (some ⟨g288, 0, none⟩) Q c289) (.slice (some ⟨g353, 0, none⟩) Q c354) ((refS x D N).take Q) ((refS x D N).take Q) (ListAt.takeN (ListAt.row (enc := encSt) (sz := 38) encSt_len (by decide) (H375.at 4 rfl)) (by omega)) (ListAt.lenN (by rw [List.length_take]; omega) (ListAt.row (enc := encSt) (sz := 38) encSt_len (by decide) (H375.at 6 rfl))) (by first | (simp; done) | (rw [List.length_take]; omega))) ?_
        rintro _ w378 ⟨rfl, u380⟩
        have H379 := H375.keepU u380
        refine ⟨_, rfl, ?_⟩
        refine hK377 _ _ ?_
        clear hK377 K377
        refine wl_pure (wants0 rfl) (d := 98) (v := (.bool (decide (x = x) && decide (((refS x D N).take Q) = ((refS x D N).take Q))))) rfl (by kernel_rfl) ?_
        refine wl_pure (wants0 rfl) (d := 99) (v := (.bool (decide (x = x) && decide (((refS x D N).take Q) = ((refS x D N).take Q))))) rfl (by kernel_rfl) ?_
        have b381 : (decide (x = x) && decide (((refS x D N).take Q) = ((refS x D N).take Q))) = true := by simp
        refine wl_know 99 (.bool true) (congrArg Value.bool b381) ?_
        refine wl_do (wantsY 7 99 true rfl (by kernel_rfl) rfl (by kernel_rfl)) (fun K382 hK382 => ?_)
        refine d_call (d := 100) rfl (by kernel_rfl) (wakes_any w378) ?_
        rintro _ w383 ⟨rfl, u385⟩
        have H384 := H379.keepU u385
        refine ⟨_, rfl, ?_⟩
        refine hK382 _ _ ?_
        clear hK382 K382
        refine wl_pure (wants0 rfl) (d := 101) (v := (.bool true)) rfl (by kernel_rfl) ?_
        refine wl_pure (wants0 rfl) (d := 10) (v := (.bool true)) rfl (by kernel_rfl) ?_
        refine w_nil ?_
        refine then_normal ?_
        refine w_ret ?_
        refine end1 rfl (res_tmp (v := (.bool true)) rfl) ?_
        exact ⟨rfl, H384.upd 0 rfl [] (fun _ h => h.elim)⟩

end Go.Proofs.Ytbpeofcoceaahaa
