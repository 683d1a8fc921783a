/- WHAT IS PROVED: the document's certificates made of stamps: a contract. Conditions: stated with each. -/
import Derived.Test.YtbpeofcoceaahaaMake10M
import Derived.Test.YtbpeofcoceaahaaCmp10
import Derived.Test.YtbpeofcoceaahaaSz10
namespace Go.Proofs.Ytbpeofcoceaahaa
open Go.RowKit

theorem firstR_at {x : CommitD} {L : List StampD} {r i : Nat} (hi : i < L.length) (h : (∀ j, j < i → isR x (r : Int) (L.getD j stamp0) = false) ∧ isR x (r : Int) (L.getD i stamp0) = true) : firstR x L r = some (L.getD i stamp0) := by
  unfold firstR
  rw [List.find?_eq_some_iff_getElem]
  have e : ∀ j (hj : j < L.length), L.getD j stamp0 = L[j] := fun j hj => by rw [List.getD_eq_getElem?_getD, List.getElem?_eq_getElem hj]; rfl
  refine ⟨h.2, i, hi, (e i hi).symm, fun j hj => ?_⟩
  have := h.1 j hj
  rw [e j (by omega)] at this
  rw [this]; rfl
theorem firstR_no {x : CommitD} {L : List StampD} {r : Nat} (h : ∀ j, j < L.length → isR x (r : Int) (L.getD j stamp0) = false) : firstR x L r = none := by
  unfold firstR
  rw [List.find?_eq_none]
  intro s hs
  obtain ⟨j, hj, rfl⟩ := List.mem_iff_getElem.1 hs
  have := h j hj
  rw [List.getD_eq_getElem?_getD, List.getElem?_eq_getElem hj] at this
  rw [show (some L[j]).getD stamp0 = L[j] from rfl] at this
  rw [this]; simp

def commit0 : CommitD := ⟨0, 0, hash0, 0, 0, 0⟩

theorem zrQ_anyN (w : World) (f cn : Int) (hf : 1 ≤ f ∧ f ≤ 3) (Q : Nat) (hQ : (Q : Int) = 2 * f + 1) : Calls Try.prog 41 #[.agg ⟨[.int .i64 f, .int .i64 cn]⟩] w fun e w' => e = .returned (.int .i64 (Q : Int)) ∧ Upd [] w w' := by
  rw [hQ]; exact zrQ_any w f cn (by omega)
set_option maxRecDepth 100000 in
set_option maxHeartbeats 2000000 in
theorem rMake_any (w : World) (f cn : Int) (x : CommitD) (N Q : Nat) (hN : (N : Int) = 3 * f + 1) (hQ : (Q : Int) = 2 * f + 1) (hf : 1 ≤ f ∧ f ≤ 3) (sa : Option Addr) (sc : Nat) (S : List StampD) (hS : ListAt encSt 38 w (.slice sa S.length sc) S) (hlS : S.length ≤ 12) :
    Calls Try.prog 32 #[(.agg ⟨([(.int .i64 (f)), (.int .i64 (cn))] : List Value)⟩), (.agg ⟨(([(.int .i64 (x.cl)), (.int .i64 (x.seq))] : List Value) ++ hc x.h ++ ([(.int .i64 (x.len)), (.int .i64 (x.sb)), (.int .i64 (x.sm))] : List Value))⟩), (.slice sa S.length sc)] w fun e w' => (e = .returned (.tuple #[.agg ⟨encCo commit0 ++ [.slice none 0 0]⟩, .bool false]) ∧ (refS x S N).length < Q ∧ Upd [] w w') ∨ ∃ g c, e = .returned (.tuple #[.agg ⟨encCo x ++ [.slice (some ⟨g, 0, none⟩) Q c]⟩, .bool true]) ∧ Q ≤ (refS x S N).length ∧ (rowC 49 38 (.slice (some ⟨g, 0, none⟩) ((refS x S N).take Q).length c) ((refS x S N).take Q).length (((refS x S N).take Q).flatMap encSt)).ok w' ∧ Upd [] w w' ∧ w.heap.size ≤ g := by
  have H := Sat.start0 w
  refine calls_fr Try.func32 rfl 77 rfl (Nat.le_of_ble_eq_true rfl) ?_
  refine w_seq ?_
  refine w_lit ?_
  refine wl_do (wants0 rfl) (fun K1 hK1 => ?_)
  refine d_box (vs := ([(.int .i64 (f)), (.int .i64 (cn))] : List Value)) rfl H rfl rfl ?_
  intro b2 w3 (H4 : Sat w [restC w (fun _ => False), cellC b2 36 ([(.int .i64 (f)), (.int .i64 (cn))] : List Value)] w3)
  refine hK1 _ _ ?_
  clear hK1 K1
  refine wl_do (wants0 rfl) (fun K5 hK5 => ?_)
  refine d_box (vs := (([(.int .i64 (x.cl)), (.int .i64 (x.seq))] : List Value) ++ hc x.h ++ ([(.int .i64 (x.len)), (.int .i64 (x.sb)), (.int .i64 (x.sm))] : List Value))) rfl H4 rfl rfl ?_
  intro b6 w7 (H8 : Sat w [restC w (fun _ => False), cellC b2 36 ([(.int .i64 (f)), (.int .i64 (cn))] : List Value), cellC b6 44 (([(.int .i64 (x.cl)), (.int .i64 (x.seq))] : List Value) ++ hc x.h ++ ([(.int .i64 (x.len)), (.int .i64 (x.sb)), (.int .i64 (x.sm))] : List Value))] w7)
  refine hK5 _ _ ?_
  clear hK5 K5
  refine wl_do (wants0 rfl) (fun K9 hK9 => ?_)
  refine d_alloc (zs := (([(.int .i64 (0)), (.int .i64 (0))] : List Value) ++ hc hash0 ++ ([(.int .i64 (0)), (.int .i64 (0)), (.int .i64 (0)), (.slice none 0 0)] : List Value))) (z := (.agg ⟨(([(.int .i64 (0)), (.int .i64 (0))] : List Value) ++ hc hash0 ++ ([(.int .i64 (0)), (.int .i64 (0)), (.int .i64 (0)), (.slice none 0 0)] : List Value))⟩)) rfl H8 (by kernel_rfl) (by kernel_rfl) ?_
  intro b10 w11 (H12 : Sat w [restC w (fun _ => False), cellC b2 36 ([(.int .i64 (f)), (.int .i64 (cn))] : List Value), cellC b6 44 (([(.int .i64 (x.cl)), (.int .i64 (x.seq))] : List Value) ++ hc x.h ++ ([(.int .i64 (x.len)), (.int .i64 (x.sb)), (.int .i64 (x.sm))] : List Value)), cellC b10 47 (([(.int .i64 (0)), (.int .i64 (0))] : List Value) ++ hc hash0 ++ ([(.int .i64 (0)), (.int .i64 (0)), (.int .i64 (0)), (.slice none 0 0)] : List Value))] w11)
  refine hK9 _ _ ?_
  clear hK9 K9
  refine wl_pure (wants0 rfl) (d := 7) (v := (.bool false)) rfl (by kernel_rfl) ?_
  refine w_nil ?_
  refine then_normal ?_
  refine w_seq ?_
  refine w_lit ?_
  refine wl_pure (wants0 rfl) (d := 11) (v := (.agg ⟨(([(.int .i64 (x.cl)), (.int .i64 (x.seq))] : List Value) ++ hc x.h ++ ([(.int .i64 (x.len)), (.int .i64 (x.sb)), (.int .i64 (x.sm))] : List Value))⟩)) rfl (e_loadN (vs := (([(.int .i64 (x.cl)), (.int .i64 (x.seq))] : List Value) ++ hc x.h ++ ([(.int .i64 (x.len)), (.int .i64 (x.sb)), (.int .i64 (x.sm))] : List Value))) rfl (by kernel_rfl) (by kernel_rfl) (by exact Nat.le_of_ble_eq_true (by kernel_rfl)) (H12.at 2 rfl) (by kernel_rfl)) ?_
  refine wl_pure (wants0 rfl) (d := 12) (v := (.agg ⟨(([(.int .i64 (x.cl)), (.int .i64 (x.seq))] : List Value) ++ hc x.h ++ ([(.int .i64 (x.len)), (.int .i64 (x.sb)), (.int .i64 (x.sm)), (.slice none 0 0)] : List Value))⟩)) rfl (by kernel_rfl) ?_
  refine wl_do (wants0 rfl) (fun K13 hK13 => ?_)
  refine d_alloc (zs := (([(.int .i64 (0)), (.int .i64 (0))] : List Value) ++ hc hash0 ++ ([(.int .i64 (0)), (.int .i64 (0)), (.int .i64 (0)), (.slice none 0 0)] : List Value))) (z := (.agg ⟨(([(.int .i64 (0)), (.int .i64 (0))] : List Value) ++ hc hash0 ++ ([(.int .i64 (0)), (.int .i64 (0)), (.int .i64 (0)), (.slice none 0 0)] : List Value))⟩)) rfl H12 (by kernel_rfl) (by kernel_rfl) ?_
  intro b14 w15 (H16 : Sat w [restC w (fun _ => False), cellC b2 36 ([(.int .i64 (f)), (.int .i64 (cn))] : List Value), cellC b6 44 (([(.int .i64 (x.cl)), (.int .i64 (x.seq))] : List Value) ++ hc x.h ++ ([(.int .i64 (x.len)), (.int .i64 (x.sb)), (.int .i64 (x.sm))] : List Value)), cellC b10 47 (([(.int .i64 (0)), (.int .i64 (0))] : List Value) ++ hc hash0 ++ ([(.int .i64 (0)), (.int .i64 (0)), (.int .i64 (0)), (.slice none 0 0)] : List Value)), cellC b14 47 (([(.int .i64 (0)), (.int .i64 (0))] : List Value) ++ hc hash0 ++ ([(.int .i64 (0)), (.int .i64 (0)), (.int .i64 (0)), (.slice none 0 0)] : List Value))] w15)
  refine hK13 _ _ ?_
  clear hK13 K13
  refine wl_do (wants0 rfl) (fun K17 hK17 => ?_)
  refine d_storeX (vs := (([(.int .i64 (x.cl)), (.int .i64 (x.seq))] : List Value) ++ hc x.h ++ ([(.int .i64 (x.len)), (.int .i64 (x.sb)), (.int .i64 (x.sm)), (.slice none 0 0)] : List Value))) (cs' := (([(.int .i64 (x.cl)), (.int .i64 (x.seq))] : List Value) ++ hc x.h ++ ([(.int .i64 (x.len)), (.int .i64 (x.sb)), (.int .i64 (x.sm)), (.slice none 0 0)] : List Value))) rfl H16 4 rfl rfl rfl rfl (by kernel_rfl) (Nat.le_of_ble_eq_true (by kernel_rfl)) (Nat.le_of_ble_eq_true (by kernel_rfl)) (by kernel_rfl) (by kernel_rfl) ?_
  intro w18 (H19 : Sat w [restC w (fun _ => False), cellC b2 36 ([(.int .i64 (f)), (.int .i64 (cn))] : List Value), cellC b6 44 (([(.int .i64 (x.cl)), (.int .i64 (x.seq))] : List Value) ++ hc x.h ++ ([(.int .i64 (x.len)), (.int .i64 (x.sb)), (.int .i64 (x.sm))] : List Value)), cellC b10 47 (([(.int .i64 (0)), (.int .i64 (0))] : List Value) ++ hc hash0 ++ ([(.int .i64 (0)), (.int .i64 (0)), (.int .i64 (0)), (.slice none 0 0)] : List Value)), cellC b14 47 (([(.int .i64 (x.cl)), (.int .i64 (x.seq))] : List Value) ++ hc x.h ++ ([(.int .i64 (x.len)), (.int .i64 (x.sb)), (.int .i64 (x.sm)), (.slice none 0 0)] : List Value))] w18)
  refine hK17 _ _ ?_
  clear hK17 K17
  refine w_nil ?_
  refine then_normal ?_
  refine w_seq ?_
  refine w_seq ?_
  refine w_lit ?_
  refine wl_pure (wants0 rfl) (d := 9) (v := (.int .i64 (0))) rfl (by kernel_rfl) ?_
  refine w_nil ?_
  refine then_normal ?_
  refine w_block ?_
  have H21 := H19.addNil 49 38
  refine wp_round [9, 10, 13, 14, 15, 16, 17, 18, 19, 20, 21, 22, 23, 24, 25, 26, 27, 28, 29, 30, 31, 32, 33, 34, 35, 36, 37, 38, 39, 40, 41, 42, 43, 44, 45, 46, 47, 48, 49, 50, 51, 52, 53, 54, 55, 56, 57, 58, 59, 60, 61, 62, 63, 64, 65, 66, 67, 68] (fun F_ W_ m_ => ∃ (r : Nat) (a : Option Addr) (c : Nat) (D : List StampD), F_ 9 = (.int .i64 ((r : Int))) ∧ (r ≤ N) ∧ (D = refS x S r) ∧ (D.length ≤ Q) ∧ Sat w [restC w (fun _ => False), cellC b2 36 ([(.int .i64 (f)), (.int .i64 (cn))] : List Value), cellC b6 44 (([(.int .i64 (x.cl)), (.int .i64 (x.seq))] : List Value) ++ hc x.h ++ ([(.int .i64 (x.len)), (.int .i64 (x.sb)), (.int .i64 (x.sm))] : List Value)), cellC b10 47 (([(.int .i64 (0)), (.int .i64 (0))] : List Value) ++ hc hash0 ++ ([(.int .i64 (0)), (.int .i64 (0)), (.int .i64 (0)), (.slice none 0 0)] : List Value)), cellC b14 47 (([(.int .i64 (x.cl)), (.int .i64 (x.seq))] : List Value) ++ hc x.h ++ ([(.int .i64 (x.len)), (.int .i64 (x.sb)), (.int .i64 (x.sm)), (.slice a D.length c)] : List Value)), rowC 49 38 (.slice a D.length c) D.length (D.flatMap encSt)] W_ ∧ m_ = N - r) _ ⟨0, none, 0, [], (show ((.int .i64 (0)) : Value) = _ by first | rfl | go_num), (Nat.zero_le _), rfl, (Nat.zero_le _), H21, rfl⟩ ?_
  rintro g22 w23 _ ⟨r, a, c, D, v25, hr, hD, hDQ, H24, rfl⟩
  refine wp_know 9 _ v25 ?_
  refine w_seq ?_
  refine w_seq ?_
  refine q_start H24 (by kernel_rfl) (by kernel_rfl) ?_
  refine q_val (wants0 rfl) (d := 13) (v := (.int .i64 ((r : Int)))) rfl (fun _ H' => (by kernel_rfl)) ?_
  refine q_val (wants0 rfl) (d := 14) (v := (.agg ⟨([(.int .i64 (f)), (.int .i64 (cn))] : List Value)⟩)) rfl (fun _ H' => (e_loadN (vs := ([(.int .i64 (f)), (.int .i64 (cn))] : List Value)) rfl (by kernel_rfl) (by kernel_rfl) (by exact Nat.le_of_ble_eq_true (by kernel_rfl)) (H'.at 1 rfl) (by kernel_rfl))) ?_
  refine q_call (wants0 rfl) (d := 15) (v := (.int .i64 (3 * f + 1))) rfl (fun _ _ => by kernel_rfl) (fun w' H' => (zrN_any w' f cn (by omega)).mono fun _ _ h => ⟨h.1, H'.keepU h.2⟩) ?_
  refine q_val (wants0 rfl) (d := 16) (v := (.bool (decide ((r : Int) < (3 * f + 1))))) rfl (fun _ H' => (by kernel_rfl)) ?_
  refine q_val (wants0 rfl) (d := 17) (v := (.bool (decide ((r : Int) < (3 * f + 1))))) rfl (fun _ H' => (by kernel_rfl)) ?_
  refine (bsplit (decide ((r : Int) < (3 * f + 1)))).elim (fun b27 => ?_) (fun b27 => ?_)
  · have g28 := of_decide_eq_true b27
    refine q_know 17 (.bool true) (congrArg Value.bool b27) ?_
    have g29 := of_decide_eq_true b27
    refine q_val (wantsY 4 17 true rfl (by kernel_rfl) rfl (by kernel_rfl)) (d := 18) (v := (.pointer (some ⟨b14, 37, none⟩))) rfl (fun _ H' => (by kernel_rfl)) ?_
    refine q_val (wantsY 4 17 true rfl (by kernel_rfl) rfl (by kernel_rfl)) (d := 19) (v := (.slice a D.length c)) rfl (fun _ H' => (e_load1 rfl (by kernel_rfl) (H'.cell 4 rfl (by kernel_rfl)))) ?_
    refine q_val (wantsY 4 17 true rfl (by kernel_rfl) rfl (by kernel_rfl)) (d := 20) (v := (.int .i64 ((D.length : Int)))) rfl (fun _ H' => (by kernel_rfl)) ?_
    refine q_val (wantsY 4 17 true rfl (by kernel_rfl) rfl (by kernel_rfl)) (d := 21) (v := (.agg ⟨([(.int .i64 (f)), (.int .i64 (cn))] : List Value)⟩)) rfl (fun _ H' => (e_loadN (vs := ([(.int .i64 (f)), (.int .i64 (cn))] : List Value)) rfl (by kernel_rfl) (by kernel_rfl) (by exact Nat.le_of_ble_eq_true (by kernel_rfl)) (H'.at 1 rfl) (by kernel_rfl))) ?_
    refine q_call (wantsY 4 17 true rfl (by kernel_rfl) rfl (by kernel_rfl)) (d := 22) (v := (.int .i64 ((Q : Int)))) rfl (fun _ _ => by kernel_rfl) (fun w' H' => (zrQ_anyN w' f cn hf Q hQ).mono fun _ _ h => ⟨h.1, H'.keepU h.2⟩) ?_
    refine q_val (wantsY 4 17 true rfl (by kernel_rfl) rfl (by kernel_rfl)) (d := 23) (v := (.bool (decide ((D.length : Int) < (Q : Int))))) rfl (fun _ H' => (by kernel_rfl)) ?_
    refine q_val (wants0 rfl) (d := 24) (v := (.bool (decide ((D.length : Int) < (Q : Int))))) rfl (fun _ H' => (by kernel_rfl)) ?_
    refine q_end ?_
    intro w30 H31
    refine then_normal ?_
    refine (bsplit (decide ((D.length : Int) < (Q : Int)))).elim (fun b32 => ?_) (fun b32 => ?_)
    · have g33 := of_decide_eq_true b32
      refine wp_know 24 (.bool true) (congrArg Value.bool b32) ?_
      have g34 := of_decide_eq_true b32
      refine wp_ift rfl ?_
      refine w_skip ?_
      refine then_normal ?_
      refine w_seq ?_
      refine w_block ?_
      refine w_seq ?_
      refine w_lit ?_
      refine wl_pure (wants0 rfl) (d := 27) (v := (.slice sa S.length sc)) rfl (by kernel_rfl) ?_
      refine wl_pure (wants0 rfl) (d := 28) (v := (.int .i64 ((S.length : Int)))) rfl (by kernel_rfl) ?_
      refine wl_pure (wants0 rfl) (d := 29) (v := (.int .i64 (0))) rfl (by kernel_rfl) ?_
      refine w_nil ?_
      refine then_normal ?_
      refine w_block ?_
      refine wp_round [10, 29, 30, 31, 32, 33, 34, 35, 36, 37, 38, 39, 40, 41, 42, 43, 44, 45, 46, 47, 48, 49, 50, 51, 52, 53, 54, 55, 56, 57, 58, 59, 60, 61, 62, 63, 64, 65, 66, 67, 68] (fun F_ W_ m_ => ∃ (i : Nat), F_ 29 = (.int .i64 ((i : Int))) ∧ (i ≤ S.length) ∧ (∀ j, j < i → isR x (r : Int) (S.getD j stamp0) = false) ∧ Sat w [restC w (fun _ => False), cellC b2 36 ([(.int .i64 (f)), (.int .i64 (cn))] : List Value), cellC b6 44 (([(.int .i64 (x.cl)), (.int .i64 (x.seq))] : List Value) ++ hc x.h ++ ([(.int .i64 (x.len)), (.int .i64 (x.sb)), (.int .i64 (x.sm))] : List Value)), cellC b10 47 (([(.int .i64 (0)), (.int .i64 (0))] : List Value) ++ hc hash0 ++ ([(.int .i64 (0)), (.int .i64 (0)), (.int .i64 (0)), (.slice none 0 0)] : List Value)), cellC b14 47 (([(.int .i64 (x.cl)), (.int .i64 (x.seq))] : List Value) ++ hc x.h ++ ([(.int .i64 (x.len)), (.int .i64 (x.sb)), (.int .i64 (x.sm)), (.slice a D.length c)] : List Value)), rowC 49 38 (.slice a D.length c) D.length (D.flatMap encSt)] W_ ∧ m_ = S.length - i) _ ⟨0, (show ((.int .i64 (0)) : Value) = _ by first | rfl | go_num), (Nat.zero_le _), (fun _ h => absurd h (Nat.not_lt_zero _)), H31, rfl⟩ ?_
      rintro g35 w36 _ ⟨i, v38, hi, hno, H37, rfl⟩
      refine wp_know 29 _ v38 ?_
      refine w_seq ?_
      refine w_lit ?_
      refine wl_pure (wants0 rfl) (d := 30) (v := (.bool (decide ((i : Int) < (S.length : Int))))) rfl (by kernel_rfl) ?_
      refine w_nil ?_
      refine then_normal ?_
      refine w_seq ?_
      refine (bsplit (decide ((i : Int) < (S.length : Int)))).elim (fun b40 => ?_) (fun b40 => ?_)
      · have g41 := of_decide_eq_true b40
        refine wp_know 30 (.bool true) (congrArg Value.bool b40) ?_
        have g42 := of_decide_eq_true b40
        refine wp_ift rfl ?_
        refine w_skip ?_
        refine then_normal ?_
        refine w_seq ?_
        refine w_block ?_
        refine w_seq ?_
        refine w_lit ?_
        refine wl_pure (wants0 rfl) (d := 31) (v := (.int .i64 ((i : Int)))) rfl (by kernel_rfl) ?_
        refine wl_pure (wants0 rfl) (d := 10) (v := (.int .i64 ((i : Int)))) rfl (by kernel_rfl) ?_
        refine w_nil ?_
        refine then_normal ?_
        refine wp_meetR [32, 33, 34, 35, 36, 37, 38, 39, 40, 41, 42, 43, 44, 45, 46, 47, 48, 49, 50, 51, 52, 53, 54, 55, 56, 57, 58] (fun G_ W_ => G_ 58 = (.bool (isR x (r : Int) (S.getD i stamp0))) ∧ Sat w [restC w (fun _ => False), cellC b2 36 ([(.int .i64 (f)), (.int .i64 (cn))] : List Value), cellC b6 44 (([(.int .i64 (x.cl)), (.int .i64 (x.seq))] : List Value) ++ hc x.h ++ ([(.int .i64 (x.len)), (.int .i64 (x.sb)), (.int .i64 (x.sm))] : List Value)), cellC b10 47 (([(.int .i64 (0)), (.int .i64 (0))] : List Value) ++ hc hash0 ++ ([(.int .i64 (0)), (.int .i64 (0)), (.int .i64 (0)), (.slice none 0 0)] : List Value)), cellC b14 47 (([(.int .i64 (x.cl)), (.int .i64 (x.seq))] : List Value) ++ hc x.h ++ ([(.int .i64 (x.len)), (.int .i64 (x.sb)), (.int .i64 (x.sm)), (.slice a D.length c)] : List Value)), rowC 49 38 (.slice a D.length c) D.length (D.flatMap encSt)] W_) ?_ ?_
        · refine q_start H37 (by kernel_rfl) (by kernel_rfl) ?_
          refine q_val (wants0 rfl) (d := 32) (v := (.slice sa S.length sc)) rfl (fun _ H' => (by kernel_rfl)) ?_
          refine q_val (wants0 rfl) (d := 33) (v := (.int .i64 ((i : Int)))) rfl (fun _ H' => (by kernel_rfl)) ?_
          obtain ⟨g44, o45, c46, e47, R48⟩ := SliceOf.atD hS stamp0 (show i < S.length by omega)
          refine q_val (wants0 rfl) (d := 34) (v := (.pointer (some ⟨g44, o45 + ((i : Int)).toNat * 38, none⟩))) rfl (fun _ H' => (e_indexAddrW (E := 49) (by kernel_rfl) (by kernel_rfl) (Nat.le_of_ble_eq_true rfl) rfl e47 rfl (by omega) (by omega))) ?_
          refine q_val (wants0 rfl) (d := 35) (v := (.pointer (some ⟨g44, o45 + ((i : Int)).toNat * 38, none⟩))) rfl (fun _ H' => (by kernel_rfl)) ?_
          refine q_val (wants0 rfl) (d := 36) (v := (.int .i64 ((S.getD i stamp0).r))) rfl (fun _ H' => (e_load1 rfl (by kernel_rfl) (H'.cellR 0 rfl (cells_at R48 0 (by kernel_rfl) (show o45 + ((i : Int)).toNat * 38 = o45 + i * 38 + 0 by omega)) (fun h => h)))) ?_
          refine q_val (wants0 rfl) (d := 37) (v := (.int .i64 ((r : Int)))) rfl (fun _ H' => (by kernel_rfl)) ?_
          refine q_val (wants0 rfl) (d := 38) (v := (.bool (decide (((S.getD i stamp0).r) = (r : Int))))) rfl (fun _ H' => (by kernel_rfl)) ?_
          refine q_val (wants0 rfl) (d := 39) (v := (.bool (decide (((S.getD i stamp0).r) = (r : Int))))) rfl (fun _ H' => (by kernel_rfl)) ?_
          refine (bsplit (decide (((S.getD i stamp0).r) = (r : Int)))).elim (fun b49 => ?_) (fun b49 => ?_)
          · have g50 := of_decide_eq_true b49
            refine q_know 39 (.bool true) (congrArg Value.bool b49) ?_
            have g51 := of_decide_eq_true b49
            refine q_val (wantsY 7 39 true rfl (by kernel_rfl) rfl (by kernel_rfl)) (d := 40) (v := (.slice sa S.length sc)) rfl (fun _ H' => (by kernel_rfl)) ?_
            refine q_val (wantsY 7 39 true rfl (by kernel_rfl) rfl (by kernel_rfl)) (d := 41) (v := (.int .i64 ((i : Int)))) rfl (fun _ H' => (by kernel_rfl)) ?_
            refine q_val (wantsY 7 39 true rfl (by kernel_rfl) rfl (by kernel_rfl)) (d := 42) (v := (.pointer (some ⟨g44, o45 + ((i : Int)).toNat * 38, none⟩))) rfl (fun _ H' => (e_indexAddrW (E := 49) (by kernel_rfl) (by kernel_rfl) (Nat.le_of_ble_eq_true rfl) rfl e47 rfl (by omega) (by omega))) ?_
            refine q_val (wantsY 7 39 true rfl (by kernel_rfl) rfl (by kernel_rfl)) (d := 43) (v := (.pointer (some ⟨g44, o45 + ((i : Int)).toNat * 38 + 1, none⟩))) rfl (fun _ H' => (by kernel_rfl)) ?_
            refine q_val (wantsY 7 39 true rfl (by kernel_rfl) rfl (by kernel_rfl)) (d := 44) (v := (.agg ⟨([(.int .i64 ((S.getD i stamp0).cl)), (.int .i64 ((S.getD i stamp0).seq))] : List Value)⟩)) rfl (fun _ H' => (e_loadRun (vs := ([(.int .i64 ((S.getD i stamp0).cl)), (.int .i64 ((S.getD i stamp0).seq))] : List Value)) rfl (by kernel_rfl) (by kernel_rfl) (Nat.le_of_ble_eq_true (by kernel_rfl)) (H'.runR 0 rfl (cells_run R48 1 (by kernel_rfl) (show o45 + ((i : Int)).toNat * 38 + 1 = o45 + i * 38 + 1 by omega)) (fun h => h)))) ?_
            refine q_val (wantsY 7 39 true rfl (by kernel_rfl) rfl (by kernel_rfl)) (d := 45) (v := (.pointer (some ⟨b6, 0, none⟩))) rfl (fun _ H' => (by kernel_rfl)) ?_
            refine q_val (wantsY 7 39 true rfl (by kernel_rfl) rfl (by kernel_rfl)) (d := 46) (v := (.agg ⟨([(.int .i64 (x.cl)), (.int .i64 (x.seq))] : List Value)⟩)) rfl (fun _ H' => (e_loadN (vs := ([(.int .i64 (x.cl)), (.int .i64 (x.seq))] : List Value)) rfl (by kernel_rfl) (by kernel_rfl) (by exact Nat.le_of_ble_eq_true (by kernel_rfl)) (H'.at 2 rfl) (by kernel_rfl))) ?_
            refine q_val (wantsY 7 39 true rfl (by kernel_rfl) rfl (by kernel_rfl)) (d := 47) (v := (.bool (decide (((S.getD i stamp0).cl) = x.cl ∧ ((S.getD i stamp0).seq) = x.seq)))) rfl (fun _ H' => (e_eqName ((S.getD i stamp0).cl) ((S.getD i stamp0).seq) x.cl x.seq rfl rfl)) ?_
            refine q_val (wants0 rfl) (d := 48) (v := (.bool (decide (((S.getD i stamp0).cl) = x.cl ∧ ((S.getD i stamp0).seq) = x.seq)))) rfl (fun _ H' => (by kernel_rfl)) ?_
            refine q_val (wants0 rfl) (d := 49) (v := (.bool (decide (((S.getD i stamp0).cl) = x.cl ∧ ((S.getD i stamp0).seq) = x.seq)))) rfl (fun _ H' => (by kernel_rfl)) ?_
            refine (bsplit (decide (((S.getD i stamp0).cl) = x.cl ∧ ((S.getD i stamp0).seq) = x.seq))).elim (fun b52 => ?_) (fun b52 => ?_)
            · refine q_know 49 (.bool true) (congrArg Value.bool b52) ?_
              refine q_val (wantsY 17 49 true rfl (by kernel_rfl) rfl (by kernel_rfl)) (d := 50) (v := (.slice sa S.length sc)) rfl (fun _ H' => (by kernel_rfl)) ?_
              refine q_val (wantsY 17 49 true rfl (by kernel_rfl) rfl (by kernel_rfl)) (d := 51) (v := (.int .i64 ((i : Int)))) rfl (fun _ H' => (by kernel_rfl)) ?_
              refine q_val (wantsY 17 49 true rfl (by kernel_rfl) rfl (by kernel_rfl)) (d := 52) (v := (.pointer (some ⟨g44, o45 + ((i : Int)).toNat * 38, none⟩))) rfl (fun _ H' => (e_indexAddrW (E := 49) (by kernel_rfl) (by kernel_rfl) (Nat.le_of_ble_eq_true rfl) rfl e47 rfl (by omega) (by omega))) ?_
              refine q_val (wantsY 17 49 true rfl (by kernel_rfl) rfl (by kernel_rfl)) (d := 53) (v := (.pointer (some ⟨g44, o45 + ((i : Int)).toNat * 38 + 3, none⟩))) rfl (fun _ H' => (by kernel_rfl)) ?_
              refine q_val (wantsY 17 49 true rfl (by kernel_rfl) rfl (by kernel_rfl)) (d := 54) (v := (.agg ⟨(hc (S.getD i stamp0).h)⟩)) rfl (fun _ H' => (e_loadRun (vs := (hc (S.getD i stamp0).h)) rfl (by kernel_rfl) (by kernel_rfl) (Nat.le_of_ble_eq_true (by kernel_rfl)) (H'.runR 0 rfl (cells_run R48 3 (by kernel_rfl) (show o45 + ((i : Int)).toNat * 38 + 3 = o45 + i * 38 + 3 by omega)) (fun h => h)))) ?_
              refine q_val (wantsY 17 49 true rfl (by kernel_rfl) rfl (by kernel_rfl)) (d := 55) (v := (.pointer (some ⟨b6, 2, none⟩))) rfl (fun _ H' => (by kernel_rfl)) ?_
              refine q_val (wantsY 17 49 true rfl (by kernel_rfl) rfl (by kernel_rfl)) (d := 56) (v := (.agg ⟨(hc x.h)⟩)) rfl (fun _ H' => (e_loadN (vs := (hc x.h)) rfl (by kernel_rfl) (by kernel_rfl) (by exact Nat.le_of_ble_eq_true (by kernel_rfl)) (H'.at 2 rfl) (by kernel_rfl))) ?_
              refine q_val (wantsY 17 49 true rfl (by kernel_rfl) rfl (by kernel_rfl)) (d := 57) (v := (.bool (decide (((S.getD i stamp0).h) = x.h)))) rfl (fun _ H' => (e_eqHash ((S.getD i stamp0).h) x.h rfl rfl)) ?_
              refine q_val (wants0 rfl) (d := 58) (v := (.bool (decide (((S.getD i stamp0).h) = x.h)))) rfl (fun _ H' => (by kernel_rfl)) ?_
              refine q_end ?_
              intro w53 H54
              refine meetR_at ?_ ⟨(congrArg Value.bool (show (decide (((S.getD i stamp0).h) = x.h)) = (isR x (r : Int) (S.getD i stamp0)) by simp only [isR, sameN, b49, b52, Bool.true_and])), H54⟩
              exact (same_upd rfl (same_upd rfl (same_upd rfl (same_upd rfl (same_upd rfl (same_upd rfl (same_upd rfl (same_upd rfl (same_upd rfl (same_upd rfl (same_upd rfl (same_upd rfl (same_upd rfl (same_upd rfl (same_upd rfl (same_upd rfl (same_upd rfl (same_upd rfl (same_upd rfl (same_upd rfl (same_upd rfl (same_upd rfl (same_upd rfl (same_upd rfl (same_upd rfl (same_upd rfl (same_upd rfl (same_upd rfl (same_upd rfl (same_refl))))))))))))))))))))))))))))))
            · refine q_know 49 (.bool false) (congrArg Value.bool b52) ?_
              refine q_pass (wantsN 17 49 true rfl (by kernel_rfl) rfl (by kernel_rfl)) rfl ?_
              refine q_pass (wantsN 17 49 true rfl (by kernel_rfl) rfl (by kernel_rfl)) rfl ?_
              refine q_pass (wantsN 17 49 true rfl (by kernel_rfl) rfl (by kernel_rfl)) rfl ?_
              refine q_pass (wantsN 17 49 true rfl (by kernel_rfl) rfl (by kernel_rfl)) rfl ?_
              refine q_pass (wantsN 17 49 true rfl (by kernel_rfl) rfl (by kernel_rfl)) rfl ?_
              refine q_pass (wantsN 17 49 true rfl (by kernel_rfl) rfl (by kernel_rfl)) rfl ?_
              refine q_pass (wantsN 17 49 true rfl (by kernel_rfl) rfl (by kernel_rfl)) rfl ?_
              refine q_pass (wantsN 17 49 true rfl (by kernel_rfl) rfl (by kernel_rfl)) rfl ?_
              refine q_val (wants0 rfl) (d := 58) (v := (.bool false)) rfl (fun _ H' => (by kernel_rfl)) ?_
              refine q_end ?_
              intro w55 H56
              refine meetR_at ?_ ⟨(congrArg Value.bool (show false = (isR x (r : Int) (S.getD i stamp0)) by simp only [isR, sameN, b49, b52, Bool.and_false, Bool.false_and])), H56⟩
              exact (same_upd rfl (same_upd rfl (same_upd rfl (same_upd rfl (same_upd rfl (same_upd rfl (same_upd rfl (same_upd rfl (same_upd rfl (same_upd rfl (same_upd rfl (same_upd rfl (same_upd rfl (same_upd rfl (same_upd rfl (same_upd rfl (same_upd rfl (same_upd rfl (same_upd rfl (same_upd rfl (same_upd rfl (same_upd rfl (same_upd rfl (same_upd rfl (same_upd rfl (same_upd rfl (same_upd rfl (same_upd rfl (same_upd rfl (same_refl))))))))))))))))))))))))))))))
          · have g57 := of_decide_eq_false b49
            refine q_know 39 (.bool false) (congrArg Value.bool b49) ?_
            have g58 := of_decide_eq_false b49
            refine q_pass (wantsN 7 39 true rfl (by kernel_rfl) rfl (by kernel_rfl)) rfl ?_
            refine q_pass (wantsN 7 39 true rfl (by kernel_rfl) rfl (by kernel_rfl)) rfl ?_
            refine q_pass (wantsN 7 39 true rfl (by kernel_rfl) rfl (by kernel_rfl)) rfl ?_
            refine q_pass (wantsN 7 39 true rfl (by kernel_rfl) rfl (by kernel_rfl)) rfl ?_
            refine q_pass (wantsN 7 39 true rfl (by kernel_rfl) rfl (by kernel_rfl)) rfl ?_
            refine q_pass (wantsN 7 39 true rfl (by kernel_rfl) rfl (by kernel_rfl)) rfl ?_
            refine q_pass (wantsN 7 39 true rfl (by kernel_rfl) rfl (by kernel_rfl)) rfl ?_
            refine q_pass (wantsN 7 39 true rfl (by kernel_rfl) rfl (by kernel_rfl)) rfl ?_
            refine q_val (wants0 rfl) (d := 48) (v := (.bool false)) rfl (fun _ H' => (by kernel_rfl)) ?_
            refine q_val (wants0 rfl) (d := 49) (v := (.bool false)) rfl (fun _ H' => (by kernel_rfl)) ?_
            refine q_pass (wantsN 17 49 true rfl (by kernel_rfl) rfl (by kernel_rfl)) rfl ?_
            refine q_pass (wantsN 17 49 true rfl (by kernel_rfl) rfl (by kernel_rfl)) rfl ?_
            refine q_pass (wantsN 17 49 true rfl (by kernel_rfl) rfl (by kernel_rfl)) rfl ?_
            refine q_pass (wantsN 17 49 true rfl (by kernel_rfl) rfl (by kernel_rfl)) rfl ?_
            refine q_pass (wantsN 17 49 true rfl (by kernel_rfl) rfl (by kernel_rfl)) rfl ?_
            refine q_pass (wantsN 17 49 true rfl (by kernel_rfl) rfl (by kernel_rfl)) rfl ?_
            refine q_pass (wantsN 17 49 true rfl (by kernel_rfl) rfl (by kernel_rfl)) rfl ?_
            refine q_pass (wantsN 17 49 true rfl (by kernel_rfl) rfl (by kernel_rfl)) rfl ?_
            refine q_val (wants0 rfl) (d := 58) (v := (.bool false)) rfl (fun _ H' => (by kernel_rfl)) ?_
            refine q_end ?_
            intro w59 H60
            refine meetR_at ?_ ⟨(congrArg Value.bool (show false = (isR x (r : Int) (S.getD i stamp0)) by simp only [isR, sameN, b49, Bool.false_and])), H60⟩
            exact (same_upd rfl (same_upd rfl (same_upd rfl (same_upd rfl (same_upd rfl (same_upd rfl (same_upd rfl (same_upd rfl (same_upd rfl (same_upd rfl (same_upd rfl (same_upd rfl (same_upd rfl (same_upd rfl (same_upd rfl (same_upd rfl (same_upd rfl (same_upd rfl (same_upd rfl (same_upd rfl (same_upd rfl (same_upd rfl (same_upd rfl (same_upd rfl (same_upd rfl (same_upd rfl (same_upd rfl (same_upd rfl (same_refl)))))))))))))))))))))))))))))
        · rintro f61 w62 ⟨v64, H63⟩
          refine wp_know 58 _ v64 ?_
          refine (bsplit (isR x (r : Int) (S.getD i stamp0))).elim (fun b65 => ?_) (fun b65 => ?_)
          · refine wp_know 58 (.bool true) (congrArg Value.bool b65) ?_
            refine wp_ift rfl ?_
            refine w_seq ?_
            obtain ⟨g66, o67, c68, e69, R70⟩ := SliceOf.atD hS stamp0 (show i < S.length by omega)
            obtain ⟨g71, o72, c73, e74, R75⟩ := SliceOf.atD hS stamp0 (show i < S.length by omega)
            refine k_start H63 [restC w (fun _ => False), cellC b2 36 ([(.int .i64 (f)), (.int .i64 (cn))] : List Value), cellC b6 44 (([(.int .i64 (x.cl)), (.int .i64 (x.seq))] : List Value) ++ hc x.h ++ ([(.int .i64 (x.len)), (.int .i64 (x.sb)), (.int .i64 (x.sm))] : List Value)), cellC b10 47 (([(.int .i64 (0)), (.int .i64 (0))] : List Value) ++ hc hash0 ++ ([(.int .i64 (0)), (.int .i64 (0)), (.int .i64 (0)), (.slice none 0 0)] : List Value)), cellC b14 47 (([(.int .i64 (x.cl)), (.int .i64 (x.seq))] : List Value) ++ hc x.h ++ ([(.int .i64 (x.len)), (.int .i64 (x.sb)), (.int .i64 (x.sm)), (.slice a D.length c)] : List Value))] [9] 10 rfl (by kernel_rfl) (fun Hx => (Hx.pick [0, 1, 2, 3, 4] (by decide))) ?_
            intro w76 H77 S78
            refine k_pure 0 rfl (by kernel_rfl) (by kernel_rfl) (by kernel_rfl) (fun _ _ _ h => h) S78 (wants0 rfl) rfl (d := 59) (v := (.pointer (some ⟨b14, 37, none⟩))) rfl (fun _ => (by kernel_rfl)) ?_
            refine k_val 1 rfl (by kernel_rfl) (by kernel_rfl) (by kernel_rfl) (fun _ _ _ h => h) S78 (wants0 rfl) rfl (by kernel_rfl) (d := 60) (v := (.slice a D.length c)) rfl (fun _ H' => (e_load1 rfl (by kernel_rfl) (H'.cell 4 rfl (by kernel_rfl)))) ?_
            refine k_pure 2 rfl (by kernel_rfl) (by kernel_rfl) (by kernel_rfl) (fun _ _ _ h => h) S78 (wants0 rfl) rfl (d := 61) (v := (.slice sa S.length sc)) rfl (fun _ => (by kernel_rfl)) ?_
            refine k_pure 3 rfl (by kernel_rfl) (by kernel_rfl) (by kernel_rfl) (fun _ _ _ h => h) S78 (wants0 rfl) rfl (d := 62) (v := (.int .i64 ((i : Int)))) rfl (fun _ => (by kernel_rfl)) ?_
            obtain ⟨g79, o80, c81, e82, R83⟩ := SliceOf.atD hS stamp0 (show i < S.length by omega)
            refine k_pure 4 rfl (by kernel_rfl) (by kernel_rfl) (by kernel_rfl) (fun _ _ _ h => h) S78 (wants0 rfl) rfl (d := 63) (v := (.pointer (some ⟨g79, o80 + ((i : Int)).toNat * 38, none⟩))) rfl (fun _ => (e_indexAddrW (E := 49) (by kernel_rfl) (by kernel_rfl) (Nat.le_of_ble_eq_true rfl) rfl e82 rfl (by omega) (by omega))) ?_
            refine k_val 5 rfl (by kernel_rfl) (by kernel_rfl) (by kernel_rfl) (fun _ _ _ h => h) S78 (wants0 rfl) rfl (by kernel_rfl) (d := 64) (v := (.agg ⟨(([(.int .i64 ((S.getD i stamp0).r)), (.int .i64 ((S.getD i stamp0).cl)), (.int .i64 ((S.getD i stamp0).seq))] : List Value) ++ hc (S.getD i stamp0).h ++ ([(.int .u64 ((S.getD i stamp0).t)), (.int .i64 ((S.getD i stamp0).sb)), (.int .i64 ((S.getD i stamp0).sm))] : List Value))⟩)) rfl (fun _ H' => (e_loadRun (vs := (([(.int .i64 ((S.getD i stamp0).r)), (.int .i64 ((S.getD i stamp0).cl)), (.int .i64 ((S.getD i stamp0).seq))] : List Value) ++ hc (S.getD i stamp0).h ++ ([(.int .u64 ((S.getD i stamp0).t)), (.int .i64 ((S.getD i stamp0).sb)), (.int .i64 ((S.getD i stamp0).sm))] : List Value))) rfl (by kernel_rfl) (by kernel_rfl) (Nat.le_of_ble_eq_true (by kernel_rfl)) (H'.runR 0 rfl (cells_run R83 0 (by kernel_rfl) (show o80 + ((i : Int)).toNat * 38 = o80 + i * 38 + 0 by omega)) (fun h => h)))) ?_
            refine k_do 6 rfl (by kernel_rfl) (wants0 rfl) rfl (fun K84 hK84 => ?_)
            refine d_buildSlice (e := 49) (size := 38) (bytes := 80) (z := (.agg ⟨(([(.int .i64 (0)), (.int .i64 (0)), (.int .i64 (0))] : List Value) ++ hc hash0 ++ ([(.int .u64 (0)), (.int .i64 (0)), (.int .i64 (0))] : List Value))⟩)) (pvs := [(0, (.agg ⟨(([(.int .i64 ((S.getD i stamp0).r)), (.int .i64 ((S.getD i stamp0).cl)), (.int .i64 ((S.getD i stamp0).seq))] : List Value) ++ hc (S.getD i stamp0).h ++ ([(.int .u64 ((S.getD i stamp0).t)), (.int .i64 ((S.getD i stamp0).sb)), (.int .i64 ((S.getD i stamp0).sm))] : List Value))⟩))]) (vs := (([(.int .i64 ((S.getD i stamp0).r)), (.int .i64 ((S.getD i stamp0).cl)), (.int .i64 ((S.getD i stamp0).seq))] : List Value) ++ hc (S.getD i stamp0).h ++ ([(.int .u64 ((S.getD i stamp0).t)), (.int .i64 ((S.getD i stamp0).sb)), (.int .i64 ((S.getD i stamp0).sm))] : List Value))) rfl H77 (by kernel_rfl) (by kernel_rfl) (by kernel_rfl) (by kernel_rfl) (by kernel_rfl) rfl rfl ?_
            intro b85 w86 (H87 : Sat w [restC w (fun _ => False), cellC b2 36 ([(.int .i64 (f)), (.int .i64 (cn))] : List Value), cellC b6 44 (([(.int .i64 (x.cl)), (.int .i64 (x.seq))] : List Value) ++ hc x.h ++ ([(.int .i64 (x.len)), (.int .i64 (x.sb)), (.int .i64 (x.sm))] : List Value)), cellC b10 47 (([(.int .i64 (0)), (.int .i64 (0))] : List Value) ++ hc hash0 ++ ([(.int .i64 (0)), (.int .i64 (0)), (.int .i64 (0)), (.slice none 0 0)] : List Value)), cellC b14 47 (([(.int .i64 (x.cl)), (.int .i64 (x.seq))] : List Value) ++ hc x.h ++ ([(.int .i64 (x.len)), (.int .i64 (x.sb)), (.int .i64 (x.sm)), (.slice a D.length c)] : List Value)), rowC 49 38 (.slice a D.length c) D.length (D.flatMap encSt), rowC 49 38 (.slice (some ⟨b85, 0, none⟩) 1 1) 1 (([(.int .i64 ((S.getD i stamp0).r)), (.int .i64 ((S.getD i stamp0).cl)), (.int .i64 ((S.getD i stamp0).seq))] : List Value) ++ hc (S.getD i stamp0).h ++ ([(.int .u64 ((S.getD i stamp0).t)), (.int .i64 ((S.getD i stamp0).sb)), (.int .i64 ((S.getD i stamp0).sm))] : List Value))] w86)
            have H88 : Sat w [restC w (fun _ => False), cellC b2 36 ([(.int .i64 (f)), (.int .i64 (cn))] : List Value), cellC b6 44 (([(.int .i64 (x.cl)), (.int .i64 (x.seq))] : List Value) ++ hc x.h ++ ([(.int .i64 (x.len)), (.int .i64 (x.sb)), (.int .i64 (x.sm))] : List Value)), cellC b10 47 (([(.int .i64 (0)), (.int .i64 (0))] : List Value) ++ hc hash0 ++ ([(.int .i64 (0)), (.int .i64 (0)), (.int .i64 (0)), (.slice none 0 0)] : List Value)), cellC b14 47 (([(.int .i64 (x.cl)), (.int .i64 (x.seq))] : List Value) ++ hc x.h ++ ([(.int .i64 (x.len)), (.int .i64 (x.sb)), (.int .i64 (x.sm)), (.slice a D.length c)] : List Value)), rowC 49 38 (.slice a D.length c) D.length (D.flatMap encSt), rowC 49 38 (.slice (some ⟨b85, 0, none⟩) 1 1) 1 ([(S.getD i stamp0)].flatMap encSt)] w86 := H87.cast (by rw [show ((([(.int .i64 ((S.getD i stamp0).r)), (.int .i64 ((S.getD i stamp0).cl)), (.int .i64 ((S.getD i stamp0).seq))] : List Value) ++ hc (S.getD i stamp0).h ++ ([(.int .u64 ((S.getD i stamp0).t)), (.int .i64 ((S.getD i stamp0).sb)), (.int .i64 ((S.getD i stamp0).sm))] : List Value)) : List Value) = [(S.getD i stamp0)].flatMap encSt from by simp only [List.flatMap_cons, List.flatMap_nil, List.append_nil]; rfl])
            have S89 := H88.pick [0, 1, 2, 3, 4] (by decide)
            refine hK84 _ _ S89 ?_
            clear hK84 K84
            refine k_do 7 rfl (by kernel_rfl) (wants0 rfl) rfl (fun K90 hK90 => ?_)
            refine d_append (T := 45) (e := 49) (size := 38) (bytes := 80) rfl H88 (by kernel_rfl) 5 6 rfl rfl rfl rfl (flat_one encSt encSt_one [(S.getD i stamp0)]) (by omega) (by omega) ?_
            intro v91 w92 (H93 : Sat w [restC w (fun _ => False), cellC b2 36 ([(.int .i64 (f)), (.int .i64 (cn))] : List Value), cellC b6 44 (([(.int .i64 (x.cl)), (.int .i64 (x.seq))] : List Value) ++ hc x.h ++ ([(.int .i64 (x.len)), (.int .i64 (x.sb)), (.int .i64 (x.sm))] : List Value)), cellC b10 47 (([(.int .i64 (0)), (.int .i64 (0))] : List Value) ++ hc hash0 ++ ([(.int .i64 (0)), (.int .i64 (0)), (.int .i64 (0)), (.slice none 0 0)] : List Value)), cellC b14 47 (([(.int .i64 (x.cl)), (.int .i64 (x.seq))] : List Value) ++ hc x.h ++ ([(.int .i64 (x.len)), (.int .i64 (x.sb)), (.int .i64 (x.sm)), (.slice a D.length c)] : List Value)), rowC 49 38 v91 (D.length + 1) ((D.flatMap encSt) ++ ([(S.getD i stamp0)].flatMap encSt)), rowC 49 38 (.slice (some ⟨b85, 0, none⟩) 1 1) 1 ([(S.getD i stamp0)].flatMap encSt)] w92)
            have H96 : Sat w [restC w (fun _ => False), cellC b2 36 ([(.int .i64 (f)), (.int .i64 (cn))] : List Value), cellC b6 44 (([(.int .i64 (x.cl)), (.int .i64 (x.seq))] : List Value) ++ hc x.h ++ ([(.int .i64 (x.len)), (.int .i64 (x.sb)), (.int .i64 (x.sm))] : List Value)), cellC b10 47 (([(.int .i64 (0)), (.int .i64 (0))] : List Value) ++ hc hash0 ++ ([(.int .i64 (0)), (.int .i64 (0)), (.int .i64 (0)), (.slice none 0 0)] : List Value)), cellC b14 47 (([(.int .i64 (x.cl)), (.int .i64 (x.seq))] : List Value) ++ hc x.h ++ ([(.int .i64 (x.len)), (.int .i64 (x.sb)), (.int .i64 (x.sm)), (.slice a D.length c)] : List Value)), rowC 49 38 v91 ((D ++ [(S.getD i stamp0)]).length) ((D ++ [(S.getD i stamp0)]).flatMap encSt), rowC 49 38 (.slice (some ⟨b85, 0, none⟩) 1 1) 1 ([(S.getD i stamp0)].flatMap encSt)] w92 := H93.cast (by simp only [List.length_append, List.flatMap_append] <;> rfl)
            obtain ⟨a94, c95, rfl⟩ := ownsRow_shape (H96.at 5 rfl)
            have S97 := H96.pick [0, 1, 2, 3, 4] (by decide)
            refine hK90 _ _ S97 ?_
            clear hK90 K90
            refine k_pure 8 rfl (by kernel_rfl) (by kernel_rfl) (by kernel_rfl) (fun _ _ _ h => h) S97 (wants0 rfl) rfl (d := 67) (v := (.pointer (some ⟨b14, 37, none⟩))) rfl (fun _ => (by kernel_rfl)) ?_
            refine k_brk 9 (Sat w [restC w (fun _ => False), cellC b2 36 ([(.int .i64 (f)), (.int .i64 (cn))] : List Value), cellC b6 44 (([(.int .i64 (x.cl)), (.int .i64 (x.seq))] : List Value) ++ hc x.h ++ ([(.int .i64 (x.len)), (.int .i64 (x.sb)), (.int .i64 (x.sm))] : List Value)), cellC b10 47 (([(.int .i64 (0)), (.int .i64 (0))] : List Value) ++ hc hash0 ++ ([(.int .i64 (0)), (.int .i64 (0)), (.int .i64 (0)), (.slice none 0 0)] : List Value))]) rfl (by kernel_rfl) (wants0 rfl) rfl (fun K98 hK98 => ?_)
            refine d_storeX (vs := ([(.slice a94 ((D ++ [(S.getD i stamp0)]).length) c95)] : List Value)) (cs' := (([(.int .i64 (x.cl)), (.int .i64 (x.seq))] : List Value) ++ hc x.h ++ ([(.int .i64 (x.len)), (.int .i64 (x.sb)), (.int .i64 (x.sm)), (.slice a94 ((D ++ [(S.getD i stamp0)]).length) c95)] : List Value))) rfl H96 4 rfl rfl rfl rfl (by kernel_rfl) (Nat.le_of_ble_eq_true (by kernel_rfl)) (Nat.le_of_ble_eq_true (by kernel_rfl)) (by kernel_rfl) (by kernel_rfl) ?_
            intro w99 (H100 : Sat w [restC w (fun _ => False), cellC b2 36 ([(.int .i64 (f)), (.int .i64 (cn))] : List Value), cellC b6 44 (([(.int .i64 (x.cl)), (.int .i64 (x.seq))] : List Value) ++ hc x.h ++ ([(.int .i64 (x.len)), (.int .i64 (x.sb)), (.int .i64 (x.sm))] : List Value)), cellC b10 47 (([(.int .i64 (0)), (.int .i64 (0))] : List Value) ++ hc hash0 ++ ([(.int .i64 (0)), (.int .i64 (0)), (.int .i64 (0)), (.slice none 0 0)] : List Value)), cellC b14 47 (([(.int .i64 (x.cl)), (.int .i64 (x.seq))] : List Value) ++ hc x.h ++ ([(.int .i64 (x.len)), (.int .i64 (x.sb)), (.int .i64 (x.sm)), (.slice a94 ((D ++ [(S.getD i stamp0)]).length) c95)] : List Value)), rowC 49 38 (.slice a94 ((D ++ [(S.getD i stamp0)]).length) c95) ((D ++ [(S.getD i stamp0)]).length) ((D ++ [(S.getD i stamp0)]).flatMap encSt), rowC 49 38 (.slice (some ⟨b85, 0, none⟩) 1 1) 1 ([(S.getD i stamp0)].flatMap encSt)] w99)
            have S102 := H100.pick [0, 1, 2, 3] (by decide)
            refine hK98 _ _ S102 ?_
            clear hK98 K98
            refine h_fin (by kernel_rfl) ?_
            refine then_normal ?_
            refine w_exit ?_
            refine blk_miss rfl ?_
            refine then_exit ?_
            refine back_exit ?_
            refine blk_hit ?_
            refine blk_normal ?_
            refine then_normal ?_
            refine w_lit ?_
            refine wl_pure (wants0 rfl) (d := 25) (v := (.int .i64 ((r : Int)))) rfl (by kernel_rfl) ?_
            refine wl_pure (wants0 rfl) (d := 26) (v := (.int .i64 ((r : Int) + 1))) rfl (e_int (z := (r : Int) + 1) (by kernel_rfl) (IntWalk.i64_in _ (by omega))) ?_
            refine wl_pure (wants0 rfl) (d := 9) (v := (.int .i64 ((r : Int) + 1))) rfl (by kernel_rfl) ?_
            refine w_nil ?_
            have H103 : Sat w [restC w (fun _ => False), cellC b2 36 ([(.int .i64 (f)), (.int .i64 (cn))] : List Value), cellC b6 44 (([(.int .i64 (x.cl)), (.int .i64 (x.seq))] : List Value) ++ hc x.h ++ ([(.int .i64 (x.len)), (.int .i64 (x.sb)), (.int .i64 (x.sm))] : List Value)), cellC b10 47 (([(.int .i64 (0)), (.int .i64 (0))] : List Value) ++ hc hash0 ++ ([(.int .i64 (0)), (.int .i64 (0)), (.int .i64 (0)), (.slice none 0 0)] : List Value)), cellC b14 47 (([(.int .i64 (x.cl)), (.int .i64 (x.seq))] : List Value) ++ hc x.h ++ ([(.int .i64 (x.len)), (.int .i64 (x.sb)), (.int .i64 (x.sm)), (.slice a94 ((D ++ [(S.getD i stamp0)]).length) c95)] : List Value)), rowC 49 38 (.slice a94 ((D ++ [(S.getD i stamp0)]).length) c95) ((D ++ [(S.getD i stamp0)]).length) ((D ++ [(S.getD i stamp0)]).flatMap encSt)] w99 := H100.pick [0, 1, 2, 3, 4, 5] (by decide)
            refine round_back ?_ _ ⟨(r + 1), a94, c95, (D ++ [(S.getD i stamp0)]), (show ((.int .i64 ((r : Int) + 1)) : Value) = _ by first | rfl | go_num), (by omega), (by rw [hD, refS_step, firstR_at (by omega) ⟨hno, b65⟩]; rfl), (by first | omega | (simp only [List.length_append, List.length_cons, List.length_nil]; omega)), H103, rfl⟩ (by omega)
            exact (same_upd rfl (same_upd rfl (same_upd rfl (same_upd rfl (same_upd rfl (same_upd rfl (same_upd rfl (same_upd rfl (same_upd rfl (same_upd rfl (same_upd rfl (same_upd rfl (same_upd rfl (same_upd rfl (same_ovr2 rfl (same_upd rfl (same_upd rfl (same_upd rfl (same_upd rfl (same_upd rfl (same_ovr2 rfl (same_upd rfl (same_upd rfl (same_upd rfl (same_upd rfl (same_upd rfl (same_upd rfl (same_upd rfl (same_upd rfl (same_upd rfl (same_upd rfl (same_upd rfl (same_upd rfl (same_upd rfl (same_upd rfl (same_upd rfl (same_upd rfl (same_upd rfl (same_upd rfl (same_ovr))))))))))))))))))))))))))))))))))))))))
          · refine wp_know 58 (.bool false) (congrArg Value.bool b65) ?_
            refine wp_iff rfl ?_
            refine w_skip ?_
            refine blk_normal ?_
            refine then_normal ?_
            refine w_lit ?_
            refine wl_pure (wants0 rfl) (d := 68) (v := (.int .i64 ((i : Int) + 1))) rfl (e_int (z := (i : Int) + 1) (by kernel_rfl) (IntWalk.i64_in _ (by omega))) ?_
            refine wl_pure (wants0 rfl) (d := 29) (v := (.int .i64 ((i : Int) + 1))) rfl (by kernel_rfl) ?_
            refine w_nil ?_
            refine round_back ?_ _ ⟨(i + 1), (show ((.int .i64 ((i : Int) + 1)) : Value) = _ by first | rfl | go_num), (by omega), (fun j hj => by rcases Nat.lt_or_ge j i with h | h; exact hno j h; rw [show j = i by omega]; exact b65), H63, rfl⟩ (by omega)
            exact (same_upd rfl (same_upd rfl (same_upd rfl (same_upd rfl (same_ovr2 rfl (same_upd rfl (same_upd rfl (same_upd rfl (same_upd rfl (same_upd rfl (same_ovr)))))))))))
      · have g104 := of_decide_eq_false b40
        refine wp_know 30 (.bool false) (congrArg Value.bool b40) ?_
        have g105 := of_decide_eq_false b40
        refine wp_iff rfl ?_
        refine w_exit ?_
        refine then_exit ?_
        refine back_exit ?_
        refine blk_hit ?_
        refine blk_normal ?_
        refine then_normal ?_
        refine w_lit ?_
        refine wl_pure (wants0 rfl) (d := 25) (v := (.int .i64 ((r : Int)))) rfl (by kernel_rfl) ?_
        refine wl_pure (wants0 rfl) (d := 26) (v := (.int .i64 ((r : Int) + 1))) rfl (e_int (z := (r : Int) + 1) (by kernel_rfl) (IntWalk.i64_in _ (by omega))) ?_
        refine wl_pure (wants0 rfl) (d := 9) (v := (.int .i64 ((r : Int) + 1))) rfl (by kernel_rfl) ?_
        refine w_nil ?_
        refine round_back ?_ _ ⟨(r + 1), a, c, D, (show ((.int .i64 ((r : Int) + 1)) : Value) = _ by first | rfl | go_num), (by omega), (by rw [hD, refS_step, firstR_no (fun j hj => hno j (by omega))]; exact (List.append_nil _).symm), (by first | omega | (simp only [List.length_append, List.length_cons, List.length_nil]; omega)), H37, rfl⟩ (by omega)
        exact (same_upd rfl (same_upd rfl (same_upd rfl (same_upd rfl (same_upd rfl (same_upd rfl (same_ovr2 rfl (same_upd rfl (same_upd rfl (same_upd rfl (same_upd rfl (same_upd rfl (same_upd rfl (same_upd rfl (same_upd rfl (same_upd rfl (same_upd rfl (same_upd rfl (same_upd rfl (same_upd rfl (same_upd rfl (same_upd rfl (same_upd rfl (same_upd rfl (same_upd rfl (same_ovr))))))))))))))))))))))))))
    · have g106 := of_decide_eq_false b32
      refine wp_know 24 (.bool false) (congrArg Value.bool b32) ?_
      have g107 := of_decide_eq_false b32
      refine wp_iff rfl ?_
      refine w_exit ?_
      refine then_exit ?_
      refine back_exit ?_
      refine blk_hit ?_
      refine then_normal ?_
      refine w_seq ?_
      refine w_seq ?_
      refine q_start H31 (by kernel_rfl) (by kernel_rfl) ?_
      refine q_val (wants0 rfl) (d := 69) (v := (.pointer (some ⟨b14, 37, none⟩))) rfl (fun _ H' => (by kernel_rfl)) ?_
      refine q_val (wants0 rfl) (d := 70) (v := (.slice a D.length c)) rfl (fun _ H' => (e_load1 rfl (by kernel_rfl) (H'.cell 4 rfl (by kernel_rfl)))) ?_
      refine q_val (wants0 rfl) (d := 71) (v := (.int .i64 ((D.length : Int)))) rfl (fun _ H' => (by kernel_rfl)) ?_
      refine q_val (wants0 rfl) (d := 72) (v := (.agg ⟨([(.int .i64 (f)), (.int .i64 (cn))] : List Value)⟩)) rfl (fun _ H' => (e_loadN (vs := ([(.int .i64 (f)), (.int .i64 (cn))] : List Value)) rfl (by kernel_rfl) (by kernel_rfl) (by exact Nat.le_of_ble_eq_true (by kernel_rfl)) (H'.at 1 rfl) (by kernel_rfl))) ?_
      refine q_call (wants0 rfl) (d := 73) (v := (.int .i64 ((Q : Int)))) rfl (fun _ _ => by kernel_rfl) (fun w' H' => (zrQ_anyN w' f cn hf Q hQ).mono fun _ _ h => ⟨h.1, H'.keepU h.2⟩) ?_
      refine q_val (wants0 rfl) (d := 74) (v := (.bool (decide ((D.length : Int) < (Q : Int))))) rfl (fun _ H' => (by kernel_rfl)) ?_
      refine q_end ?_
      intro w108 H109
      refine then_normal ?_
      refine wp_know 74 (.bool false) (congrArg Value.bool b32) ?_
      have g110 := of_decide_eq_false b32
      refine wp_iff rfl ?_
      refine w_skip ?_
      refine then_normal ?_
      refine w_seq ?_
      have hlQ : D.length = Q := by omega
      have hle : (refS x S r).length ≤ (refS x S N).length := refS_len_le x S hr
      have hT : (refS x S N).take Q = D := by rw [← hlQ, hD]; exact refS_prefix x S hr
      obtain ⟨g111, c112, e113⟩ := row_shape (H109.at 5 rfl) (by omega)
      obtain rfl : a = some ⟨g111, 0, none⟩ := by cases e113; rfl
      refine w_lit ?_
      refine wl_pure (wants0 rfl) (d := 76) (v := (.agg ⟨(([(.int .i64 (x.cl)), (.int .i64 (x.seq))] : List Value) ++ hc x.h ++ ([(.int .i64 (x.len)), (.int .i64 (x.sb)), (.int .i64 (x.sm)), (.slice (some ⟨g111, 0, none⟩) D.length c)] : List Value))⟩)) rfl (e_loadN (vs := (([(.int .i64 (x.cl)), (.int .i64 (x.seq))] : List Value) ++ hc x.h ++ ([(.int .i64 (x.len)), (.int .i64 (x.sb)), (.int .i64 (x.sm)), (.slice (some ⟨g111, 0, none⟩) D.length c)] : List Value))) rfl (by kernel_rfl) (by kernel_rfl) (by exact Nat.le_of_ble_eq_true (by kernel_rfl)) (H109.at 4 rfl) (by kernel_rfl)) ?_
      refine wl_do (wants0 rfl) (fun K114 hK114 => ?_)
      refine d_storeX (vs := (([(.int .i64 (x.cl)), (.int .i64 (x.seq))] : List Value) ++ hc x.h ++ ([(.int .i64 (x.len)), (.int .i64 (x.sb)), (.int .i64 (x.sm)), (.slice (some ⟨g111, 0, none⟩) D.length c)] : List Value))) (cs' := (([(.int .i64 (x.cl)), (.int .i64 (x.seq))] : List Value) ++ hc x.h ++ ([(.int .i64 (x.len)), (.int .i64 (x.sb)), (.int .i64 (x.sm)), (.slice (some ⟨g111, 0, none⟩) D.length c)] : List Value))) rfl H109 3 rfl rfl rfl rfl (by kernel_rfl) (Nat.le_of_ble_eq_true (by kernel_rfl)) (Nat.le_of_ble_eq_true (by kernel_rfl)) (by kernel_rfl) (by kernel_rfl) ?_
      intro w115 (H116 : Sat w [restC w (fun _ => False), cellC b2 36 ([(.int .i64 (f)), (.int .i64 (cn))] : List Value), cellC b6 44 (([(.int .i64 (x.cl)), (.int .i64 (x.seq))] : List Value) ++ hc x.h ++ ([(.int .i64 (x.len)), (.int .i64 (x.sb)), (.int .i64 (x.sm))] : List Value)), cellC b10 47 (([(.int .i64 (x.cl)), (.int .i64 (x.seq))] : List Value) ++ hc x.h ++ ([(.int .i64 (x.len)), (.int .i64 (x.sb)), (.int .i64 (x.sm)), (.slice (some ⟨g111, 0, none⟩) D.length c)] : List Value)), cellC b14 47 (([(.int .i64 (x.cl)), (.int .i64 (x.seq))] : List Value) ++ hc x.h ++ ([(.int .i64 (x.len)), (.int .i64 (x.sb)), (.int .i64 (x.sm)), (.slice (some ⟨g111, 0, none⟩) D.length c)] : List Value)), rowC 49 38 (.slice (some ⟨g111, 0, none⟩) D.length c) D.length (D.flatMap encSt)] w115)
      refine hK114 _ _ ?_
      clear hK114 K114
      refine wl_pure (wants0 rfl) (d := 7) (v := (.bool true)) rfl (by kernel_rfl) ?_
      refine w_nil ?_
      refine then_normal ?_
      refine w_ret ?_
      refine end2 rfl (res_cellN (vs := (([(.int .i64 (x.cl)), (.int .i64 (x.seq))] : List Value) ++ hc x.h ++ ([(.int .i64 (x.len)), (.int .i64 (x.sb)), (.int .i64 (x.sm)), (.slice (some ⟨g111, 0, none⟩) D.length c)] : List Value))) rfl (by kernel_rfl) (by kernel_rfl) (by exact Nat.le_of_ble_eq_true (by kernel_rfl)) (H116.at 3 rfl) (by kernel_rfl)) (res_tmp (v := (.bool true)) rfl) ?_
      rw [hlQ]
      exact .inr ⟨g111, c, rfl, by rw [← hD] at hle; omega, (by rw [hT]; exact H116.at 5 rfl), H116.upd 0 rfl [] (fun _ h => h.elim), (H116.fresh 0 rfl (fun _ h => h) 5 rfl rfl g111 rfl)⟩
  · have g118 := of_decide_eq_false b27
    refine q_know 17 (.bool false) (congrArg Value.bool b27) ?_
    have g119 := of_decide_eq_false b27
    refine q_pass (wantsN 4 17 true rfl (by kernel_rfl) rfl (by kernel_rfl)) rfl ?_
    refine q_pass (wantsN 4 17 true rfl (by kernel_rfl) rfl (by kernel_rfl)) rfl ?_
    refine q_pass (wantsN 4 17 true rfl (by kernel_rfl) rfl (by kernel_rfl)) rfl ?_
    refine q_pass (wantsN 4 17 true rfl (by kernel_rfl) rfl (by kernel_rfl)) rfl ?_
    refine q_pass (wantsN 4 17 true rfl (by kernel_rfl) rfl (by kernel_rfl)) rfl ?_
    refine q_pass (wantsN 4 17 true rfl (by kernel_rfl) rfl (by kernel_rfl)) rfl ?_
    refine q_val (wants0 rfl) (d := 24) (v := (.bool false)) rfl (fun _ H' => (by kernel_rfl)) ?_
    refine q_end ?_
    intro w120 H121
    refine then_normal ?_
    refine wp_iff rfl ?_
    refine w_exit ?_
    refine then_exit ?_
    refine back_exit ?_
    refine blk_hit ?_
    refine then_normal ?_
    refine w_seq ?_
    refine w_seq ?_
    refine q_start H121 (by kernel_rfl) (by kernel_rfl) ?_
    refine q_val (wants0 rfl) (d := 69) (v := (.pointer (some ⟨b14, 37, none⟩))) rfl (fun _ H' => (by kernel_rfl)) ?_
    refine q_val (wants0 rfl) (d := 70) (v := (.slice a D.length c)) rfl (fun _ H' => (e_load1 rfl (by kernel_rfl) (H'.cell 4 rfl (by kernel_rfl)))) ?_
    refine q_val (wants0 rfl) (d := 71) (v := (.int .i64 ((D.length : Int)))) rfl (fun _ H' => (by kernel_rfl)) ?_
    refine q_val (wants0 rfl) (d := 72) (v := (.agg ⟨([(.int .i64 (f)), (.int .i64 (cn))] : List Value)⟩)) rfl (fun _ H' => (e_loadN (vs := ([(.int .i64 (f)), (.int .i64 (cn))] : List Value)) rfl (by kernel_rfl) (by kernel_rfl) (by exact Nat.le_of_ble_eq_true (by kernel_rfl)) (H'.at 1 rfl) (by kernel_rfl))) ?_
    refine q_call (wants0 rfl) (d := 73) (v := (.int .i64 ((Q : Int)))) rfl (fun _ _ => by kernel_rfl) (fun w' H' => (zrQ_anyN w' f cn hf Q hQ).mono fun _ _ h => ⟨h.1, H'.keepU h.2⟩) ?_
    refine q_val (wants0 rfl) (d := 74) (v := (.bool (decide ((D.length : Int) < (Q : Int))))) rfl (fun _ H' => (by kernel_rfl)) ?_
    refine q_end ?_
    intro w122 H123
    refine then_normal ?_
    refine (bsplit (decide ((D.length : Int) < (Q : Int)))).elim (fun b124 => ?_) (fun b124 => ?_)
    · have g125 := of_decide_eq_true b124
      refine wp_know 74 (.bool true) (congrArg Value.bool b124) ?_
      have g126 := of_decide_eq_true b124
      refine wp_ift rfl ?_
      refine w_seq ?_
      refine w_lit ?_
      refine wl_pure (wants0 rfl) (d := 75) (v := (.agg ⟨(([(.int .i64 (0)), (.int .i64 (0))] : List Value) ++ hc hash0 ++ ([(.int .i64 (0)), (.int .i64 (0)), (.int .i64 (0)), (.slice none 0 0)] : List Value))⟩)) rfl (by kernel_rfl) ?_
      refine wl_do (wants0 rfl) (fun K127 hK127 => ?_)
      refine d_storeX (vs := (([(.int .i64 (0)), (.int .i64 (0))] : List Value) ++ hc hash0 ++ ([(.int .i64 (0)), (.int .i64 (0)), (.int .i64 (0)), (.slice none 0 0)] : List Value))) (cs' := (([(.int .i64 (0)), (.int .i64 (0))] : List Value) ++ hc hash0 ++ ([(.int .i64 (0)), (.int .i64 (0)), (.int .i64 (0)), (.slice none 0 0)] : List Value))) rfl H123 3 rfl rfl rfl rfl (by kernel_rfl) (Nat.le_of_ble_eq_true (by kernel_rfl)) (Nat.le_of_ble_eq_true (by kernel_rfl)) (by kernel_rfl) (by kernel_rfl) ?_
      intro w128 (H129 : Sat w [restC w (fun _ => False), cellC b2 36 ([(.int .i64 (f)), (.int .i64 (cn))] : List Value), cellC b6 44 (([(.int .i64 (x.cl)), (.int .i64 (x.seq))] : List Value) ++ hc x.h ++ ([(.int .i64 (x.len)), (.int .i64 (x.sb)), (.int .i64 (x.sm))] : List Value)), cellC b10 47 (([(.int .i64 (0)), (.int .i64 (0))] : List Value) ++ hc hash0 ++ ([(.int .i64 (0)), (.int .i64 (0)), (.int .i64 (0)), (.slice none 0 0)] : List Value)), cellC b14 47 (([(.int .i64 (x.cl)), (.int .i64 (x.seq))] : List Value) ++ hc x.h ++ ([(.int .i64 (x.len)), (.int .i64 (x.sb)), (.int .i64 (x.sm)), (.slice a D.length c)] : List Value)), rowC 49 38 (.slice a D.length c) D.length (D.flatMap encSt)] w128)
      refine hK127 _ _ ?_
      clear hK127 K127
      refine wl_pure (wants0 rfl) (d := 7) (v := (.bool false)) rfl (by kernel_rfl) ?_
      refine w_nil ?_
      refine then_normal ?_
      refine w_ret ?_
      refine then_ret ?_
      refine end2 rfl (res_cellN (vs := (([(.int .i64 (0)), (.int .i64 (0))] : List Value) ++ hc hash0 ++ ([(.int .i64 (0)), (.int .i64 (0)), (.int .i64 (0)), (.slice none 0 0)] : List Value))) rfl (by kernel_rfl) (by kernel_rfl) (by exact Nat.le_of_ble_eq_true (by kernel_rfl)) (H129.at 3 rfl) (by kernel_rfl)) (res_tmp (v := (.bool false)) rfl) ?_
      have hx : (refS x S N).length < Q := by rcases Nat.lt_or_ge r N with h | h; omega; rw [show N = r by omega, ← hD]; omega
      exact .inl ⟨rfl, hx, H129.upd 0 rfl [] (fun _ h => h.elim)⟩
    · have g131 := of_decide_eq_false b124
      refine wp_know 74 (.bool false) (congrArg Value.bool b124) ?_
      have g132 := of_decide_eq_false b124
      refine wp_iff rfl ?_
      refine w_skip ?_
      refine then_normal ?_
      refine w_seq ?_
      have hlQ : D.length = Q := by omega
      have hle : (refS x S r).length ≤ (refS x S N).length := refS_len_le x S hr
      have hT : (refS x S N).take Q = D := by rw [← hlQ, hD]; exact refS_prefix x S hr
      obtain ⟨g133, c134, e135⟩ := row_shape (H123.at 5 rfl) (by omega)
      obtain rfl : a = some ⟨g133, 0, none⟩ := by cases e135; rfl
      refine w_lit ?_
      refine wl_pure (wants0 rfl) (d := 76) (v := (.agg ⟨(([(.int .i64 (x.cl)), (.int .i64 (x.seq))] : List Value) ++ hc x.h ++ ([(.int .i64 (x.len)), (.int .i64 (x.sb)), (.int .i64 (x.sm)), (.slice (some ⟨g133, 0, none⟩) D.length c)] : List Value))⟩)) rfl (e_loadN (vs := (([(.int .i64 (x.cl)), (.int .i64 (x.seq))] : List Value) ++ hc x.h ++ ([(.int .i64 (x.len)), (.int .i64 (x.sb)), (.int .i64 (x.sm)), (.slice (some ⟨g133, 0, none⟩) D.length c)] : List Value))) rfl (by kernel_rfl) (by kernel_rfl) (by exact Nat.le_of_ble_eq_true (by kernel_rfl)) (H123.at 4 rfl) (by kernel_rfl)) ?_
      refine wl_do (wants0 rfl) (fun K136 hK136 => ?_)
      refine d_storeX (vs := (([(.int .i64 (x.cl)), (.int .i64 (x.seq))] : List Value) ++ hc x.h ++ ([(.int .i64 (x.len)), (.int .i64 (x.sb)), (.int .i64 (x.sm)), (.slice (some ⟨g133, 0, none⟩) D.length c)] : List Value))) (cs' := (([(.int .i64 (x.cl)), (.int .i64 (x.seq))] : List Value) ++ hc x.h ++ ([(.int .i64 (x.len)), (.int .i64 (x.sb)), (.int .i64 (x.sm)), (.slice (some ⟨g133, 0, none⟩) D.length c)] : List Value))) rfl H123 3 rfl rfl rfl rfl (by kernel_rfl) (Nat.le_of_ble_eq_true (by kernel_rfl)) (Nat.le_of_ble_eq_true (by kernel_rfl)) (by kernel_rfl) (by kernel_rfl) ?_
      intro w137 (H138 : Sat w [restC w (fun _ => False), cellC b2 36 ([(.int .i64 (f)), (.int .i64 (cn))] : List Value), cellC b6 44 (([(.int .i64 (x.cl)), (.int .i64 (x.seq))] : List Value) ++ hc x.h ++ ([(.int .i64 (x.len)), (.int .i64 (x.sb)), (.int .i64 (x.sm))] : List Value)), cellC b10 47 (([(.int .i64 (x.cl)), (.int .i64 (x.seq))] : List Value) ++ hc x.h ++ ([(.int .i64 (x.len)), (.int .i64 (x.sb)), (.int .i64 (x.sm)), (.slice (some ⟨g133, 0, none⟩) D.length c)] : List Value)), cellC b14 47 (([(.int .i64 (x.cl)), (.int .i64 (x.seq))] : List Value) ++ hc x.h ++ ([(.int .i64 (x.len)), (.int .i64 (x.sb)), (.int .i64 (x.sm)), (.slice (some ⟨g133, 0, none⟩) D.length c)] : List Value)), rowC 49 38 (.slice (some ⟨g133, 0, none⟩) D.length c) D.length (D.flatMap encSt)] w137)
      refine hK136 _ _ ?_
      clear hK136 K136
      refine wl_pure (wants0 rfl) (d := 7) (v := (.bool true)) rfl (by kernel_rfl) ?_
      refine w_nil ?_
      refine then_normal ?_
      refine w_ret ?_
      refine end2 rfl (res_cellN (vs := (([(.int .i64 (x.cl)), (.int .i64 (x.seq))] : List Value) ++ hc x.h ++ ([(.int .i64 (x.len)), (.int .i64 (x.sb)), (.int .i64 (x.sm)), (.slice (some ⟨g133, 0, none⟩) D.length c)] : List Value))) rfl (by kernel_rfl) (by kernel_rfl) (by exact Nat.le_of_ble_eq_true (by kernel_rfl)) (H138.at 3 rfl) (by kernel_rfl)) (res_tmp (v := (.bool true)) rfl) ?_
      rw [hlQ]
      exact .inr ⟨g133, c, rfl, by rw [← hD] at hle; omega, (by rw [hT]; exact H138.at 5 rfl), H138.upd 0 rfl [] (fun _ h => h.elim), (H138.fresh 0 rfl (fun _ h => h) 5 rfl rfl g133 rfl)⟩

end Go.Proofs.Ytbpeofcoceaahaa
