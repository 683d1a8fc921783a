/- WHAT IS PROVED: the walk of CertRaw. Conditions: stated with it. -/
import Derived.Test.YtbpeofcoceaahaaNew10
import Derived.Test.YtbpeofcoceaahaaRg2
import Derived.Test.YtbpeofcoceaahaaRg3
namespace Go.Proofs.Ytbpeofcoceaahaa
open Go.RowKit

set_option maxRecDepth 100000 in
set_option maxHeartbeats 2000000 in
theorem raw10_walk (w : World) (f cn : Int) (sa : Option Addr) (sc : Nat) (S : List StampD) (hS : ListAt encSt 38 w (.slice sa S.length sc) S) (x : CommitD) (hx : CoOk x) (ht : StsOk (S.take 9)) (s : StampD) (hs : StOk s) (hlS : S.length ≤ 9223372036854775807) :
    Calls Try.prog 6 #[(.agg ⟨([(.int .i64 (f)), (.int .i64 (cn))] : List Value)⟩), (.agg ⟨(([(.int .i64 (x.cl)), (.int .i64 (x.seq))] : List Value) ++ hc x.h ++ ([(.int .i64 (x.len)), (.int .i64 (x.sb)), (.int .i64 (x.sm)), (.slice sa S.length sc)] : List Value))⟩), (.agg ⟨(([(.int .i64 (s.r)), (.int .i64 (s.cl)), (.int .i64 (s.seq))] : List Value) ++ hc s.h ++ ([(.int .u64 (s.t)), (.int .i64 (s.sb)), (.int .i64 (s.sm))] : List Value))⟩)] w fun e w' => e = .returned (.bool true) ∧ Upd [] w w' := by
  have H := Sat.start0 w
  refine calls_fr Try.func6 rfl 63 rfl (Nat.le_of_ble_eq_true rfl) ?_
  refine w_seq ?_
  refine w_lit ?_
  refine wl_do (wants0 rfl) (fun K1 hK1 => ?_)
  refine d_box (vs := ([(.int .i64 (f)), (.int .i64 (cn))] : List Value)) rfl H rfl rfl ?_
  intro b2 w3 (H4 : Sat w [restC w (fun _ => False), cellC b2 36 ([(.int .i64 (f)), (.int .i64 (cn))] : List Value)] w3)
  refine hK1 _ _ ?_
  clear hK1 K1
  refine wl_do (wants0 rfl) (fun K5 hK5 => ?_)
  refine d_box (vs := (([(.int .i64 (x.cl)), (.int .i64 (x.seq))] : List Value) ++ hc x.h ++ ([(.int .i64 (x.len)), (.int .i64 (x.sb)), (.int .i64 (x.sm)), (.slice sa S.length sc)] : List Value))) rfl H4 rfl rfl ?_
  intro b6 w7 (H8 : Sat w [restC w (fun _ => False), cellC b2 36 ([(.int .i64 (f)), (.int .i64 (cn))] : List Value), cellC b6 47 (([(.int .i64 (x.cl)), (.int .i64 (x.seq))] : List Value) ++ hc x.h ++ ([(.int .i64 (x.len)), (.int .i64 (x.sb)), (.int .i64 (x.sm)), (.slice sa S.length sc)] : List Value))] w7)
  refine hK5 _ _ ?_
  clear hK5 K5
  refine wl_do (wants0 rfl) (fun K9 hK9 => ?_)
  refine d_box (vs := (([(.int .i64 (s.r)), (.int .i64 (s.cl)), (.int .i64 (s.seq))] : List Value) ++ hc s.h ++ ([(.int .u64 (s.t)), (.int .i64 (s.sb)), (.int .i64 (s.sm))] : List Value))) rfl H8 rfl rfl ?_
  intro b10 w11 (H12 : Sat w [restC w (fun _ => False), cellC b2 36 ([(.int .i64 (f)), (.int .i64 (cn))] : List Value), cellC b6 47 (([(.int .i64 (x.cl)), (.int .i64 (x.seq))] : List Value) ++ hc x.h ++ ([(.int .i64 (x.len)), (.int .i64 (x.sb)), (.int .i64 (x.sm)), (.slice sa S.length sc)] : List Value)), cellC b10 49 (([(.int .i64 (s.r)), (.int .i64 (s.cl)), (.int .i64 (s.seq))] : List Value) ++ hc s.h ++ ([(.int .u64 (s.t)), (.int .i64 (s.sb)), (.int .i64 (s.sm))] : List Value))] w11)
  refine hK9 _ _ ?_
  clear hK9 K9
  refine wl_pure (wants0 rfl) (d := 6) (v := (.bool false)) rfl (by kernel_rfl) ?_
  refine w_nil ?_
  refine then_normal ?_
  refine w_seq ?_
  refine w_seq ?_
  refine w_lit ?_
  refine wl_pure (wants0 rfl) (d := 9) (v := (.pointer (some ⟨b2, 0, none⟩))) rfl (by kernel_rfl) ?_
  refine wl_pure (wants0 rfl) (d := 10) (v := (.int .i64 (f))) rfl (e_load1 rfl (by kernel_rfl) (H12.cell 1 rfl rfl)) ?_
  refine wl_pure (wants0 rfl) (d := 11) (v := (.bool (decide (f > 1099511627776)))) rfl (by kernel_rfl) ?_
  refine wl_pure (wants0 rfl) (d := 12) (v := (.bool (decide (f > 1099511627776)))) rfl (by kernel_rfl) ?_
  refine (bsplit (decide (f > 1099511627776))).elim (fun b13 => ?_) (fun b13 => ?_)
  · have g14 := of_decide_eq_true b13
    refine wl_know 12 (.bool true) (congrArg Value.bool b13) ?_
    have g15 := of_decide_eq_true b13
    refine wl_pass (wantsN 3 12 false rfl (by kernel_rfl) rfl (by kernel_rfl)) rfl ?_
    refine wl_pass (wantsN 3 12 false rfl (by kernel_rfl) rfl (by kernel_rfl)) rfl ?_
    refine wl_pass (wantsN 3 12 false rfl (by kernel_rfl) rfl (by kernel_rfl)) rfl ?_
    refine wl_pure (wants0 rfl) (d := 16) (v := (.bool true)) rfl (by kernel_rfl) ?_
    refine w_nil ?_
    refine then_normal ?_
    refine wp_ift rfl ?_
    refine w_lit ?_
    refine wl_pure (wants0 rfl) (d := 17) (v := (.pointer (some ⟨b2, 0, none⟩))) rfl (by kernel_rfl) ?_
    refine wl_do (wants0 rfl) (fun K16 hK16 => ?_)
    refine d_storeX (vs := ([(.int .i64 (1))] : List Value)) (cs' := ([(.int .i64 (1)), (.int .i64 (cn))] : List Value)) rfl H12 1 rfl rfl rfl rfl (by kernel_rfl) (Nat.le_of_ble_eq_true (by kernel_rfl)) (Nat.le_of_ble_eq_true (by kernel_rfl)) (by kernel_rfl) (by kernel_rfl) ?_
    intro w17 (H18 : Sat w [restC w (fun _ => False), cellC b2 36 ([(.int .i64 (1)), (.int .i64 (cn))] : List Value), cellC b6 47 (([(.int .i64 (x.cl)), (.int .i64 (x.seq))] : List Value) ++ hc x.h ++ ([(.int .i64 (x.len)), (.int .i64 (x.sb)), (.int .i64 (x.sm)), (.slice sa S.length sc)] : List Value)), cellC b10 49 (([(.int .i64 (s.r)), (.int .i64 (s.cl)), (.int .i64 (s.seq))] : List Value) ++ hc s.h ++ ([(.int .u64 (s.t)), (.int .i64 (s.sb)), (.int .i64 (s.sm))] : List Value))] w17)
    refine hK16 _ _ ?_
    clear hK16 K16
    refine w_nil ?_
    refine then_normal ?_
    refine w_seq ?_
    refine w_lit ?_
    refine wl_pure (wants0 rfl) (d := 18) (v := (.pointer (some ⟨b6, 37, none⟩))) rfl (by kernel_rfl) ?_
    refine wl_pure (wants0 rfl) (d := 19) (v := (.slice sa S.length sc)) rfl (e_load1 rfl (by kernel_rfl) (H18.cell 2 rfl (by kernel_rfl))) ?_
    refine wl_do (wants0 rfl) (fun K20 hK20 => ?_)
    refine d_call (d := 20) rfl (by kernel_rfl) (cutS_any w17 sa sc S (ListAt.now H18 0 rfl hS) (by omega) 9 (by decide)) ?_
    rintro _ w21 ⟨u22, rfl, k23, p24, q25⟩
    have H26 : Sat w [restC w (fun _ => False), cellC b2 36 ([(.int .i64 (1)), (.int .i64 (cn))] : List Value), cellC b6 47 (([(.int .i64 (x.cl)), (.int .i64 (x.seq))] : List Value) ++ hc x.h ++ ([(.int .i64 (x.len)), (.int .i64 (x.sb)), (.int .i64 (x.sm)), (.slice sa S.length sc)] : List Value)), cellC b10 49 (([(.int .i64 (s.r)), (.int .i64 (s.cl)), (.int .i64 (s.seq))] : List Value) ++ hc s.h ++ ([(.int .u64 (s.t)), (.int .i64 (s.sb)), (.int .i64 (s.sm))] : List Value)), rowC 49 38 u22 ((S.take 9).length) ((S.take 9).flatMap encSt)] w21 := H18.addU p24 k23 q25
    obtain ⟨a27, c28, rfl⟩ := ownsRow_shape (H26.at 4 rfl)
    have h9 : (S.take 9).length ≤ 9 := by rw [List.length_take]; omega
    refine ⟨_, rfl, ?_⟩
    refine hK20 _ _ ?_
    clear hK20 K20
    refine wl_pure (wants0 rfl) (d := 21) (v := (.pointer (some ⟨b6, 37, none⟩))) rfl (by kernel_rfl) ?_
    refine wl_do (wants0 rfl) (fun K29 hK29 => ?_)
    refine d_storeX (vs := ([(.slice a27 ((S.take 9).length) c28)] : List Value)) (cs' := (([(.int .i64 (x.cl)), (.int .i64 (x.seq))] : List Value) ++ hc x.h ++ ([(.int .i64 (x.len)), (.int .i64 (x.sb)), (.int .i64 (x.sm)), (.slice a27 ((S.take 9).length) c28)] : List Value))) rfl H26 2 rfl rfl rfl rfl (by kernel_rfl) (Nat.le_of_ble_eq_true (by kernel_rfl)) (Nat.le_of_ble_eq_true (by kernel_rfl)) (by kernel_rfl) (by kernel_rfl) ?_
    intro w30 (H31 : Sat w [restC w (fun _ => False), cellC b2 36 ([(.int .i64 (1)), (.int .i64 (cn))] : List Value), cellC b6 47 (([(.int .i64 (x.cl)), (.int .i64 (x.seq))] : List Value) ++ hc x.h ++ ([(.int .i64 (x.len)), (.int .i64 (x.sb)), (.int .i64 (x.sm)), (.slice a27 ((S.take 9).length) c28)] : List Value)), cellC b10 49 (([(.int .i64 (s.r)), (.int .i64 (s.cl)), (.int .i64 (s.seq))] : List Value) ++ hc s.h ++ ([(.int .u64 (s.t)), (.int .i64 (s.sb)), (.int .i64 (s.sm))] : List Value)), rowC 49 38 (.slice a27 ((S.take 9).length) c28) ((S.take 9).length) ((S.take 9).flatMap encSt)] w30)
    refine hK29 _ _ ?_
    clear hK29 K29
    refine w_nil ?_
    refine then_normal ?_
    refine w_seq ?_
    refine w_lit ?_
    refine wl_do (wants0 rfl) (fun K33 hK33 => ?_)
    refine d_call (d := 23) rfl (by kernel_rfl) (new10_any w30) ?_
    rintro _ w34 ⟨b35, m36, r37, rfl, k38, p39, q40⟩
    have H41 : Sat w [restC w (fun _ => False), cellC b2 36 ([(.int .i64 (1)), (.int .i64 (cn))] : List Value), cellC b6 47 (([(.int .i64 (x.cl)), (.int .i64 (x.seq))] : List Value) ++ hc x.h ++ ([(.int .i64 (x.len)), (.int .i64 (x.sb)), (.int .i64 (x.sm)), (.slice a27 ((S.take 9).length) c28)] : List Value)), cellC b10 49 (([(.int .i64 (s.r)), (.int .i64 (s.cl)), (.int .i64 (s.seq))] : List Value) ++ hc s.h ++ ([(.int .u64 (s.t)), (.int .i64 (s.sb)), (.int .i64 (s.sm))] : List Value)), rowC 49 38 (.slice a27 ((S.take 9).length) c28) ((S.take 9).length) ((S.take 9).flatMap encSt), sepC [cellC b35 107 [.map (some m36)], mapC m36 signedV (Value.int .i64) (marks []), cellC r37 88 [.slice none 0 0]]] w34 := H31.addU p39 k38 q40
    have H42 : Sat w [restC w (fun _ => False), cellC b2 36 ([(.int .i64 (1)), (.int .i64 (cn))] : List Value), cellC b6 47 (([(.int .i64 (x.cl)), (.int .i64 (x.seq))] : List Value) ++ hc x.h ++ ([(.int .i64 (x.len)), (.int .i64 (x.sb)), (.int .i64 (x.sm)), (.slice a27 ((S.take 9).length) c28)] : List Value)), cellC b10 49 (([(.int .i64 (s.r)), (.int .i64 (s.cl)), (.int .i64 (s.seq))] : List Value) ++ hc s.h ++ ([(.int .u64 (s.t)), (.int .i64 (s.sb)), (.int .i64 (s.sm))] : List Value)), rowC 49 38 (.slice a27 ((S.take 9).length) c28) ((S.take 9).length) ((S.take 9).flatMap encSt), cellC b35 107 ([(.map (some m36))] : List Value), mapC m36 signedV (Value.int .i64) (marks []), cellC r37 88 ([(.slice none (([] : List Signed).length) 0)] : List Value)] w34 := H41.open 5 rfl
    have H43 : Sat w [restC w (fun _ => False), cellC b2 36 ([(.int .i64 (1)), (.int .i64 (cn))] : List Value), cellC b6 47 (([(.int .i64 (x.cl)), (.int .i64 (x.seq))] : List Value) ++ hc x.h ++ ([(.int .i64 (x.len)), (.int .i64 (x.sb)), (.int .i64 (x.sm)), (.slice a27 ((S.take 9).length) c28)] : List Value)), cellC b10 49 (([(.int .i64 (s.r)), (.int .i64 (s.cl)), (.int .i64 (s.seq))] : List Value) ++ hc s.h ++ ([(.int .u64 (s.t)), (.int .i64 (s.sb)), (.int .i64 (s.sm))] : List Value)), rowC 49 38 (.slice a27 ((S.take 9).length) c28) ((S.take 9).length) ((S.take 9).flatMap encSt), cellC b35 107 ([(.map (some m36))] : List Value), mapC m36 signedV (Value.int .i64) (marks []), cellC r37 88 ([(.slice none (([] : List Signed).length) 0)] : List Value), rowC 120 2 (.slice none (([] : List Signed).length) 0) (([] : List Signed).length) (([] : List Signed).flatMap encS)] w34 := H42.addNil 120 2
    refine ⟨_, rfl, ?_⟩
    refine hK33 _ _ ?_
    clear hK33 K33
    refine wl_pure (wants0 rfl) (d := 22) (v := (.tuple #[(.agg ⟨([(.pointer (some ⟨b35, 0, none⟩)), (.pointer (some ⟨r37, 0, none⟩))] : List Value)⟩), (.bool true)])) rfl (by kernel_rfl) ?_
    refine wl_pure (wants0 rfl) (d := 24) (v := (.agg ⟨([(.pointer (some ⟨b35, 0, none⟩)), (.pointer (some ⟨r37, 0, none⟩))] : List Value)⟩)) rfl (by kernel_rfl) ?_
    refine wl_pure (wants0 rfl) (d := 25) (v := (.bool true)) rfl (by kernel_rfl) ?_
    refine wl_do (wants0 rfl) (fun K44 hK44 => ?_)
    refine d_alloc (zs := ([(.pointer none), (.pointer none)] : List Value)) (z := (.agg ⟨([(.pointer none), (.pointer none)] : List Value)⟩)) rfl H43 (by kernel_rfl) (by kernel_rfl) ?_
    intro b45 w46 (H47 : Sat w [restC w (fun _ => False), cellC b2 36 ([(.int .i64 (1)), (.int .i64 (cn))] : List Value), cellC b6 47 (([(.int .i64 (x.cl)), (.int .i64 (x.seq))] : List Value) ++ hc x.h ++ ([(.int .i64 (x.len)), (.int .i64 (x.sb)), (.int .i64 (x.sm)), (.slice a27 ((S.take 9).length) c28)] : List Value)), cellC b10 49 (([(.int .i64 (s.r)), (.int .i64 (s.cl)), (.int .i64 (s.seq))] : List Value) ++ hc s.h ++ ([(.int .u64 (s.t)), (.int .i64 (s.sb)), (.int .i64 (s.sm))] : List Value)), rowC 49 38 (.slice a27 ((S.take 9).length) c28) ((S.take 9).length) ((S.take 9).flatMap encSt), cellC b35 107 ([(.map (some m36))] : List Value), mapC m36 signedV (Value.int .i64) (marks []), cellC r37 88 ([(.slice none (([] : List Signed).length) 0)] : List Value), rowC 120 2 (.slice none (([] : List Signed).length) 0) (([] : List Signed).length) (([] : List Signed).flatMap encS), cellC b45 54 ([(.pointer none), (.pointer none)] : List Value)] w46)
    refine hK44 _ _ ?_
    clear hK44 K44
    refine wl_do (wants0 rfl) (fun K48 hK48 => ?_)
    refine d_storeX (vs := ([(.pointer (some ⟨b35, 0, none⟩)), (.pointer (some ⟨r37, 0, none⟩))] : List Value)) (cs' := ([(.pointer (some ⟨b35, 0, none⟩)), (.pointer (some ⟨r37, 0, none⟩))] : List Value)) rfl H47 9 rfl rfl rfl rfl (by kernel_rfl) (Nat.le_of_ble_eq_true (by kernel_rfl)) (Nat.le_of_ble_eq_true (by kernel_rfl)) (by kernel_rfl) (by kernel_rfl) ?_
    intro w49 (H50 : Sat w [restC w (fun _ => False), cellC b2 36 ([(.int .i64 (1)), (.int .i64 (cn))] : List Value), cellC b6 47 (([(.int .i64 (x.cl)), (.int .i64 (x.seq))] : List Value) ++ hc x.h ++ ([(.int .i64 (x.len)), (.int .i64 (x.sb)), (.int .i64 (x.sm)), (.slice a27 ((S.take 9).length) c28)] : List Value)), cellC b10 49 (([(.int .i64 (s.r)), (.int .i64 (s.cl)), (.int .i64 (s.seq))] : List Value) ++ hc s.h ++ ([(.int .u64 (s.t)), (.int .i64 (s.sb)), (.int .i64 (s.sm))] : List Value)), rowC 49 38 (.slice a27 ((S.take 9).length) c28) ((S.take 9).length) ((S.take 9).flatMap encSt), cellC b35 107 ([(.map (some m36))] : List Value), mapC m36 signedV (Value.int .i64) (marks []), cellC r37 88 ([(.slice none (([] : List Signed).length) 0)] : List Value), rowC 120 2 (.slice none (([] : List Signed).length) 0) (([] : List Signed).length) (([] : List Signed).flatMap encS), cellC b45 54 ([(.pointer (some ⟨b35, 0, none⟩)), (.pointer (some ⟨r37, 0, none⟩))] : List Value)] w49)
    refine hK48 _ _ ?_
    clear hK48 K48
    refine wl_pure (wants0 rfl) (d := 8) (v := (.bool true)) rfl (by kernel_rfl) ?_
    refine w_nil ?_
    refine then_normal ?_
    refine w_seq ?_
    refine q_start H50 (by kernel_rfl) (by kernel_rfl) ?_
    refine q_val (wants0 rfl) (d := 26) (v := (.bool true)) rfl (fun _ H' => (by kernel_rfl)) ?_
    refine q_val (wants0 rfl) (d := 27) (v := (.bool true)) rfl (fun _ H' => (by kernel_rfl)) ?_
    refine q_val (wantsY 1 27 true rfl (by kernel_rfl) rfl (by kernel_rfl)) (d := 28) (v := (.agg ⟨([(.int .i64 (1)), (.int .i64 (cn))] : List Value)⟩)) rfl (fun _ H' => (e_loadN (vs := ([(.int .i64 (1)), (.int .i64 (cn))] : List Value)) rfl (by kernel_rfl) (by kernel_rfl) (by exact Nat.le_of_ble_eq_true (by kernel_rfl)) (H'.at 1 rfl) (by kernel_rfl))) ?_
    refine q_val (wantsY 1 27 true rfl (by kernel_rfl) rfl (by kernel_rfl)) (d := 29) (v := (.pointer (some ⟨b45, 0, none⟩))) rfl (fun _ H' => (by kernel_rfl)) ?_
    refine q_val (wantsY 1 27 true rfl (by kernel_rfl) rfl (by kernel_rfl)) (d := 30) (v := (.pointer (some ⟨b35, 0, none⟩))) rfl (fun _ H' => (e_load1 rfl (by kernel_rfl) (H'.cell 9 rfl rfl))) ?_
    refine q_val (wantsY 1 27 true rfl (by kernel_rfl) rfl (by kernel_rfl)) (d := 31) (v := (.agg ⟨(([(.int .i64 (x.cl)), (.int .i64 (x.seq))] : List Value) ++ hc x.h ++ ([(.int .i64 (x.len)), (.int .i64 (x.sb)), (.int .i64 (x.sm)), (.slice a27 ((S.take 9).length) c28)] : List Value))⟩)) rfl (fun _ H' => (e_loadN (vs := (([(.int .i64 (x.cl)), (.int .i64 (x.seq))] : List Value) ++ hc x.h ++ ([(.int .i64 (x.len)), (.int .i64 (x.sb)), (.int .i64 (x.sm)), (.slice a27 ((S.take 9).length) c28)] : List Value))) rfl (by kernel_rfl) (by kernel_rfl) (by exact Nat.le_of_ble_eq_true (by kernel_rfl)) (H'.at 2 rfl) (by kernel_rfl))) ?_
    refine q_call (wantsY 1 27 true rfl (by kernel_rfl) rfl (by kernel_rfl)) (d := 32) (v := (.bool (rightX 1 cn ([]) x (S.take 9)))) rfl (fun _ _ => by kernel_rfl) (fun w' H' => (wRightX_any w' 1 cn (by omega) b35 m36 ([]) (H'.at 5 rfl) (H'.at 6 rfl) x hx a27 c28 (S.take 9) (ListAt.row (enc := encSt) (sz := 38) encSt_len (by decide) (H'.at 4 rfl)) ht (by omega)).mono fun _ _ h => ⟨h.1, H'.keepU h.2⟩) ?_
    refine q_val (wantsY 1 27 true rfl (by kernel_rfl) rfl (by kernel_rfl)) (d := 33) (v := (.agg ⟨([(.int .i64 (1)), (.int .i64 (cn))] : List Value)⟩)) rfl (fun _ H' => (e_loadN (vs := ([(.int .i64 (1)), (.int .i64 (cn))] : List Value)) rfl (by kernel_rfl) (by kernel_rfl) (by exact Nat.le_of_ble_eq_true (by kernel_rfl)) (H'.at 1 rfl) (by kernel_rfl))) ?_
    refine q_val (wantsY 1 27 true rfl (by kernel_rfl) rfl (by kernel_rfl)) (d := 34) (v := (.pointer (some ⟨b45, 1, none⟩))) rfl (fun _ H' => (by kernel_rfl)) ?_
    refine q_val (wantsY 1 27 true rfl (by kernel_rfl) rfl (by kernel_rfl)) (d := 35) (v := (.pointer (some ⟨r37, 0, none⟩))) rfl (fun _ H' => (e_load1 rfl (by kernel_rfl) (H'.cell 9 rfl rfl))) ?_
    refine q_val (wantsY 1 27 true rfl (by kernel_rfl) rfl (by kernel_rfl)) (d := 36) (v := (.agg ⟨(([(.int .i64 (x.cl)), (.int .i64 (x.seq))] : List Value) ++ hc x.h ++ ([(.int .i64 (x.len)), (.int .i64 (x.sb)), (.int .i64 (x.sm)), (.slice a27 ((S.take 9).length) c28)] : List Value))⟩)) rfl (fun _ H' => (e_loadN (vs := (([(.int .i64 (x.cl)), (.int .i64 (x.seq))] : List Value) ++ hc x.h ++ ([(.int .i64 (x.len)), (.int .i64 (x.sb)), (.int .i64 (x.sm)), (.slice a27 ((S.take 9).length) c28)] : List Value))) rfl (by kernel_rfl) (by kernel_rfl) (by exact Nat.le_of_ble_eq_true (by kernel_rfl)) (H'.at 2 rfl) (by kernel_rfl))) ?_
    refine q_call (wantsY 1 27 true rfl (by kernel_rfl) rfl (by kernel_rfl)) (d := 37) (v := (.bool (rightX 1 cn ([] : List Signed) x (S.take 9)))) rfl (fun _ _ => by kernel_rfl) (fun w' H' => (rRightX_any w' 1 cn (by omega) r37 none 0 ([] : List Signed) (H'.at 7 rfl) (H'.at 8 rfl) List.nodup_nil (by decide) x hx a27 c28 (S.take 9) (ListAt.row (enc := encSt) (sz := 38) encSt_len (by decide) (H'.at 4 rfl)) ht (by omega)).mono fun _ _ h => ⟨h.1, H'.keepU h.2⟩) ?_
    refine q_val (wantsY 1 27 true rfl (by kernel_rfl) rfl (by kernel_rfl)) (d := 38) (v := (.bool ((rightX 1 cn ([]) x (S.take 9)) == (rightX 1 cn ([] : List Signed) x (S.take 9))))) rfl (fun _ H' => (by kernel_rfl)) ?_
    refine q_val (wants0 rfl) (d := 39) (v := (.bool ((rightX 1 cn ([]) x (S.take 9)) == (rightX 1 cn ([] : List Signed) x (S.take 9))))) rfl (fun _ H' => (by kernel_rfl)) ?_
    refine q_val (wants0 rfl) (d := 40) (v := (.bool ((rightX 1 cn ([]) x (S.take 9)) == (rightX 1 cn ([] : List Signed) x (S.take 9))))) rfl (fun _ H' => (by kernel_rfl)) ?_
    have b52 : ((rightX 1 cn ([]) x (S.take 9)) == (rightX 1 cn ([] : List Signed) x (S.take 9))) = true := by exact beq_self_eq_true _
    refine q_know 40 (.bool true) (congrArg Value.bool b52) ?_
    refine q_val (wantsY 14 40 true rfl (by kernel_rfl) rfl (by kernel_rfl)) (d := 41) (v := (.agg ⟨(([(.int .i64 (x.cl)), (.int .i64 (x.seq))] : List Value) ++ hc x.h ++ ([(.int .i64 (x.len)), (.int .i64 (x.sb)), (.int .i64 (x.sm)), (.slice a27 ((S.take 9).length) c28)] : List Value))⟩)) rfl (fun _ H' => (e_loadN (vs := (([(.int .i64 (x.cl)), (.int .i64 (x.seq))] : List Value) ++ hc x.h ++ ([(.int .i64 (x.len)), (.int .i64 (x.sb)), (.int .i64 (x.sm)), (.slice a27 ((S.take 9).length) c28)] : List Value))) rfl (by kernel_rfl) (by kernel_rfl) (by exact Nat.le_of_ble_eq_true (by kernel_rfl)) (H'.at 2 rfl) (by kernel_rfl))) ?_
    refine q_call (wantsY 14 40 true rfl (by kernel_rfl) rfl (by kernel_rfl)) (d := 42) (v := (.int .u64 (timeD (S.take 9)))) rfl (fun _ _ => by kernel_rfl) (fun w' H' => (wTime_any w' x a27 c28 (S.take 9) (ListAt.row (enc := encSt) (sz := 38) encSt_len (by decide) (H'.at 4 rfl)) (by omega)).mono fun _ _ h => ⟨h.1, H'.keepU h.2⟩) ?_
    refine q_val (wantsY 14 40 true rfl (by kernel_rfl) rfl (by kernel_rfl)) (d := 43) (v := (.agg ⟨(([(.int .i64 (x.cl)), (.int .i64 (x.seq))] : List Value) ++ hc x.h ++ ([(.int .i64 (x.len)), (.int .i64 (x.sb)), (.int .i64 (x.sm)), (.slice a27 ((S.take 9).length) c28)] : List Value))⟩)) rfl (fun _ H' => (e_loadN (vs := (([(.int .i64 (x.cl)), (.int .i64 (x.seq))] : List Value) ++ hc x.h ++ ([(.int .i64 (x.len)), (.int .i64 (x.sb)), (.int .i64 (x.sm)), (.slice a27 ((S.take 9).length) c28)] : List Value))) rfl (by kernel_rfl) (by kernel_rfl) (by exact Nat.le_of_ble_eq_true (by kernel_rfl)) (H'.at 2 rfl) (by kernel_rfl))) ?_
    refine q_call (wantsY 14 40 true rfl (by kernel_rfl) rfl (by kernel_rfl)) (d := 44) (v := (.int .u64 (timeD (S.take 9)))) rfl (fun _ _ => by kernel_rfl) (fun w' H' => (rTime_any w' x a27 c28 (S.take 9) (ListAt.row (enc := encSt) (sz := 38) encSt_len (by decide) (H'.at 4 rfl)) (by omega)).mono fun _ _ h => ⟨h.1, H'.keepU h.2⟩) ?_
    refine q_val (wantsY 14 40 true rfl (by kernel_rfl) rfl (by kernel_rfl)) (d := 45) (v := (.bool (decide ((timeD (S.take 9)) = (timeD (S.take 9)))))) rfl (fun _ H' => (by kernel_rfl)) ?_
    refine q_val (wants0 rfl) (d := 46) (v := (.bool (decide ((timeD (S.take 9)) = (timeD (S.take 9)))))) rfl (fun _ H' => (by kernel_rfl)) ?_
    refine q_val (wants0 rfl) (d := 47) (v := (.bool (decide ((timeD (S.take 9)) = (timeD (S.take 9)))))) rfl (fun _ H' => (by kernel_rfl)) ?_
    have b53 : (decide ((timeD (S.take 9)) = (timeD (S.take 9)))) = true := by exact decide_eq_true rfl
    refine q_know 47 (.bool true) (congrArg Value.bool b53) ?_
    have g54 := of_decide_eq_true b53
    refine q_val (wantsY 21 47 true rfl (by kernel_rfl) rfl (by kernel_rfl)) (d := 48) (v := (.agg ⟨([(.int .i64 (1)), (.int .i64 (cn))] : List Value)⟩)) rfl (fun _ H' => (e_loadN (vs := ([(.int .i64 (1)), (.int .i64 (cn))] : List Value)) rfl (by kernel_rfl) (by kernel_rfl) (by exact Nat.le_of_ble_eq_true (by kernel_rfl)) (H'.at 1 rfl) (by kernel_rfl))) ?_
    refine q_val (wantsY 21 47 true rfl (by kernel_rfl) rfl (by kernel_rfl)) (d := 49) (v := (.pointer (some ⟨b45, 0, none⟩))) rfl (fun _ H' => (by kernel_rfl)) ?_
    refine q_val (wantsY 21 47 true rfl (by kernel_rfl) rfl (by kernel_rfl)) (d := 50) (v := (.pointer (some ⟨b35, 0, none⟩))) rfl (fun _ H' => (e_load1 rfl (by kernel_rfl) (H'.cell 9 rfl rfl))) ?_
    refine q_val (wantsY 21 47 true rfl (by kernel_rfl) rfl (by kernel_rfl)) (d := 51) (v := (.agg ⟨(([(.int .i64 (s.r)), (.int .i64 (s.cl)), (.int .i64 (s.seq))] : List Value) ++ hc s.h ++ ([(.int .u64 (s.t)), (.int .i64 (s.sb)), (.int .i64 (s.sm))] : List Value))⟩)) rfl (fun _ H' => (e_loadN (vs := (([(.int .i64 (s.r)), (.int .i64 (s.cl)), (.int .i64 (s.seq))] : List Value) ++ hc s.h ++ ([(.int .u64 (s.t)), (.int .i64 (s.sb)), (.int .i64 (s.sm))] : List Value))) rfl (by kernel_rfl) (by kernel_rfl) (by exact Nat.le_of_ble_eq_true (by kernel_rfl)) (H'.at 3 rfl) (by kernel_rfl))) ?_
    refine q_call (wantsY 21 47 true rfl (by kernel_rfl) rfl (by kernel_rfl)) (d := 52) (v := (.bool (rightS 1 ([]) s))) rfl (fun _ _ => by kernel_rfl) (fun w' H' => (wRightS_any w' 1 cn (by omega) b35 m36 ([]) (H'.at 5 rfl) (H'.at 6 rfl) s hs).mono fun _ _ h => ⟨h.1, H'.keepU h.2⟩) ?_
    refine q_val (wantsY 21 47 true rfl (by kernel_rfl) rfl (by kernel_rfl)) (d := 53) (v := (.agg ⟨([(.int .i64 (1)), (.int .i64 (cn))] : List Value)⟩)) rfl (fun _ H' => (e_loadN (vs := ([(.int .i64 (1)), (.int .i64 (cn))] : List Value)) rfl (by kernel_rfl) (by kernel_rfl) (by exact Nat.le_of_ble_eq_true (by kernel_rfl)) (H'.at 1 rfl) (by kernel_rfl))) ?_
    refine q_val (wantsY 21 47 true rfl (by kernel_rfl) rfl (by kernel_rfl)) (d := 54) (v := (.pointer (some ⟨b45, 1, none⟩))) rfl (fun _ H' => (by kernel_rfl)) ?_
    refine q_val (wantsY 21 47 true rfl (by kernel_rfl) rfl (by kernel_rfl)) (d := 55) (v := (.pointer (some ⟨r37, 0, none⟩))) rfl (fun _ H' => (e_load1 rfl (by kernel_rfl) (H'.cell 9 rfl rfl))) ?_
    refine q_val (wantsY 21 47 true rfl (by kernel_rfl) rfl (by kernel_rfl)) (d := 56) (v := (.agg ⟨(([(.int .i64 (s.r)), (.int .i64 (s.cl)), (.int .i64 (s.seq))] : List Value) ++ hc s.h ++ ([(.int .u64 (s.t)), (.int .i64 (s.sb)), (.int .i64 (s.sm))] : List Value))⟩)) rfl (fun _ H' => (e_loadN (vs := (([(.int .i64 (s.r)), (.int .i64 (s.cl)), (.int .i64 (s.seq))] : List Value) ++ hc s.h ++ ([(.int .u64 (s.t)), (.int .i64 (s.sb)), (.int .i64 (s.sm))] : List Value))) rfl (by kernel_rfl) (by kernel_rfl) (by exact Nat.le_of_ble_eq_true (by kernel_rfl)) (H'.at 3 rfl) (by kernel_rfl))) ?_
    refine q_call (wantsY 21 47 true rfl (by kernel_rfl) rfl (by kernel_rfl)) (d := 57) (v := (.bool (rightS 1 ([] : List Signed) s))) rfl (fun _ _ => by kernel_rfl) (fun w' H' => (rRightS_any w' 1 cn (by omega) r37 none 0 ([] : List Signed) (H'.at 7 rfl) (H'.at 8 rfl) List.nodup_nil (by decide) s hs).mono fun _ _ h => ⟨h.1, H'.keepU h.2⟩) ?_
    refine q_val (wantsY 21 47 true rfl (by kernel_rfl) rfl (by kernel_rfl)) (d := 58) (v := (.bool ((rightS 1 ([]) s) == (rightS 1 ([] : List Signed) s)))) rfl (fun _ H' => (by kernel_rfl)) ?_
    refine q_val (wants0 rfl) (d := 59) (v := (.bool ((rightS 1 ([]) s) == (rightS 1 ([] : List Signed) s)))) rfl (fun _ H' => (by kernel_rfl)) ?_
    refine q_val (wants0 rfl) (d := 60) (v := (.bool ((rightS 1 ([]) s) == (rightS 1 ([] : List Signed) s)))) rfl (fun _ H' => (by kernel_rfl)) ?_
    have b55 : ((rightS 1 ([]) s) == (rightS 1 ([] : List Signed) s)) = true := by exact beq_self_eq_true _
    refine q_know 60 (.bool true) (congrArg Value.bool b55) ?_
    refine q_call (wantsY 34 60 true rfl (by kernel_rfl) rfl (by kernel_rfl)) (d := 61) (v := (.bool true)) rfl (fun _ _ => by kernel_rfl) (fun w' H' => (wakes_any w').mono fun _ _ h => ⟨h.1, H'.keepU h.2⟩) ?_
    refine q_val (wants0 rfl) (d := 62) (v := (.bool true)) rfl (fun _ H' => (by kernel_rfl)) ?_
    refine q_val (wants0 rfl) (d := 6) (v := (.bool true)) rfl (fun _ H' => (by kernel_rfl)) ?_
    refine q_end ?_
    intro w56 H57
    refine then_normal ?_
    refine w_ret ?_
    refine end1 rfl (res_tmp (v := (.bool true)) rfl) ?_
    exact ⟨rfl, H57.upd 0 rfl [] (fun _ h => h.elim)⟩
  · have g58 := of_decide_eq_false b13
    refine wl_know 12 (.bool false) (congrArg Value.bool b13) ?_
    have g59 := of_decide_eq_false b13
    refine wl_pure (wantsY 3 12 false rfl (by kernel_rfl) rfl (by kernel_rfl)) (d := 13) (v := (.pointer (some ⟨b2, 0, none⟩))) rfl (by kernel_rfl) ?_
    refine wl_pure (wantsY 3 12 false rfl (by kernel_rfl) rfl (by kernel_rfl)) (d := 14) (v := (.int .i64 (f))) rfl (e_load1 rfl (by kernel_rfl) (H12.cell 1 rfl rfl)) ?_
    refine wl_pure (wantsY 3 12 false rfl (by kernel_rfl) rfl (by kernel_rfl)) (d := 15) (v := (.bool (decide (f < (-1099511627776))))) rfl (by kernel_rfl) ?_
    refine wl_pure (wants0 rfl) (d := 16) (v := (.bool (decide (f < (-1099511627776))))) rfl (by kernel_rfl) ?_
    refine w_nil ?_
    refine then_normal ?_
    refine (bsplit (decide (f < (-1099511627776)))).elim (fun b60 => ?_) (fun b60 => ?_)
    · have g61 := of_decide_eq_true b60
      refine wp_know 16 (.bool true) (congrArg Value.bool b60) ?_
      have g62 := of_decide_eq_true b60
      refine wp_ift rfl ?_
      refine w_lit ?_
      refine wl_pure (wants0 rfl) (d := 17) (v := (.pointer (some ⟨b2, 0, none⟩))) rfl (by kernel_rfl) ?_
      refine wl_do (wants0 rfl) (fun K63 hK63 => ?_)
      refine d_storeX (vs := ([(.int .i64 (1))] : List Value)) (cs' := ([(.int .i64 (1)), (.int .i64 (cn))] : List Value)) rfl H12 1 rfl rfl rfl rfl (by kernel_rfl) (Nat.le_of_ble_eq_true (by kernel_rfl)) (Nat.le_of_ble_eq_true (by kernel_rfl)) (by kernel_rfl) (by kernel_rfl) ?_
      intro w64 (H65 : Sat w [restC w (fun _ => False), cellC b2 36 ([(.int .i64 (1)), (.int .i64 (cn))] : List Value), cellC b6 47 (([(.int .i64 (x.cl)), (.int .i64 (x.seq))] : List Value) ++ hc x.h ++ ([(.int .i64 (x.len)), (.int .i64 (x.sb)), (.int .i64 (x.sm)), (.slice sa S.length sc)] : List Value)), cellC b10 49 (([(.int .i64 (s.r)), (.int .i64 (s.cl)), (.int .i64 (s.seq))] : List Value) ++ hc s.h ++ ([(.int .u64 (s.t)), (.int .i64 (s.sb)), (.int .i64 (s.sm))] : List Value))] w64)
      refine hK63 _ _ ?_
      clear hK63 K63
      refine w_nil ?_
      refine then_normal ?_
      refine w_seq ?_
      refine w_lit ?_
      refine wl_pure (wants0 rfl) (d := 18) (v := (.pointer (some ⟨b6, 37, none⟩))) rfl (by kernel_rfl) ?_
      refine wl_pure (wants0 rfl) (d := 19) (v := (.slice sa S.length sc)) rfl (e_load1 rfl (by kernel_rfl) (H65.cell 2 rfl (by kernel_rfl))) ?_
      refine wl_do (wants0 rfl) (fun K67 hK67 => ?_)
      refine d_call (d := 20) rfl (by kernel_rfl) (cutS_any w64 sa sc S (ListAt.now H65 0 rfl hS) (by omega) 9 (by decide)) ?_
      rintro _ w68 ⟨u69, rfl, k70, p71, q72⟩
      have H73 : Sat w [restC w (fun _ => False), cellC b2 36 ([(.int .i64 (1)), (.int .i64 (cn))] : List Value), cellC b6 47 (([(.int .i64 (x.cl)), (.int .i64 (x.seq))] : List Value) ++ hc x.h ++ ([(.int .i64 (x.len)), (.int .i64 (x.sb)), (.int .i64 (x.sm)), (.slice sa S.length sc)] : List Value)), cellC b10 49 (([(.int .i64 (s.r)), (.int .i64 (s.cl)), (.int .i64 (s.seq))] : List Value) ++ hc s.h ++ ([(.int .u64 (s.t)), (.int .i64 (s.sb)), (.int .i64 (s.sm))] : List Value)), rowC 49 38 u69 ((S.take 9).length) ((S.take 9).flatMap encSt)] w68 := H65.addU p71 k70 q72
      obtain ⟨a74, c75, rfl⟩ := ownsRow_shape (H73.at 4 rfl)
      have h9 : (S.take 9).length ≤ 9 := by rw [List.length_take]; omega
      refine ⟨_, rfl, ?_⟩
      refine hK67 _ _ ?_
      clear hK67 K67
      refine wl_pure (wants0 rfl) (d := 21) (v := (.pointer (some ⟨b6, 37, none⟩))) rfl (by kernel_rfl) ?_
      refine wl_do (wants0 rfl) (fun K76 hK76 => ?_)
      refine d_storeX (vs := ([(.slice a74 ((S.take 9).length) c75)] : List Value)) (cs' := (([(.int .i64 (x.cl)), (.int .i64 (x.seq))] : List Value) ++ hc x.h ++ ([(.int .i64 (x.len)), (.int .i64 (x.sb)), (.int .i64 (x.sm)), (.slice a74 ((S.take 9).length) c75)] : List Value))) rfl H73 2 rfl rfl rfl rfl (by kernel_rfl) (Nat.le_of_ble_eq_true (by kernel_rfl)) (Nat.le_of_ble_eq_true (by kernel_rfl)) (by kernel_rfl) (by kernel_rfl) ?_
      intro w77 (H78 : Sat w [restC w (fun _ => False), cellC b2 36 ([(.int .i64 (1)), (.int .i64 (cn))] : List Value), cellC b6 47 (([(.int .i64 (x.cl)), (.int .i64 (x.seq))] : List Value) ++ hc x.h ++ ([(.int .i64 (x.len)), (.int .i64 (x.sb)), (.int .i64 (x.sm)), (.slice a74 ((S.take 9).length) c75)] : List Value)), cellC b10 49 (([(.int .i64 (s.r)), (.int .i64 (s.cl)), (.int .i64 (s.seq))] : List Value) ++ hc s.h ++ ([(.int .u64 (s.t)), (.int .i64 (s.sb)), (.int .i64 (s.sm))] : List Value)), rowC 49 38 (.slice a74 ((S.take 9).length) c75) ((S.take 9).length) ((S.take 9).flatMap encSt)] w77)
      refine hK76 _ _ ?_
      clear hK76 K76
      refine w_nil ?_
      refine then_normal ?_
      refine w_seq ?_
      refine w_lit ?_
      refine wl_do (wants0 rfl) (fun K80 hK80 => ?_)
      refine d_call (d := 23) rfl (by kernel_rfl) (new10_any w77) ?_
      rintro _ w81 ⟨b82, m83, r84, rfl, k85, p86, q87⟩
      have H88 : Sat w [restC w (fun _ => False), cellC b2 36 ([(.int .i64 (1)), (.int .i64 (cn))] : List Value), cellC b6 47 (([(.int .i64 (x.cl)), (.int .i64 (x.seq))] : List Value) ++ hc x.h ++ ([(.int .i64 (x.len)), (.int .i64 (x.sb)), (.int .i64 (x.sm)), (.slice a74 ((S.take 9).length) c75)] : List Value)), cellC b10 49 (([(.int .i64 (s.r)), (.int .i64 (s.cl)), (.int .i64 (s.seq))] : List Value) ++ hc s.h ++ ([(.int .u64 (s.t)), (.int .i64 (s.sb)), (.int .i64 (s.sm))] : List Value)), rowC 49 38 (.slice a74 ((S.take 9).length) c75) ((S.take 9).length) ((S.take 9).flatMap encSt), sepC [cellC b82 107 [.map (some m83)], mapC m83 signedV (Value.int .i64) (marks []), cellC r84 88 [.slice none 0 0]]] w81 := H78.addU p86 k85 q87
      have H89 : Sat w [restC w (fun _ => False), cellC b2 36 ([(.int .i64 (1)), (.int .i64 (cn))] : List Value), cellC b6 47 (([(.int .i64 (x.cl)), (.int .i64 (x.seq))] : List Value) ++ hc x.h ++ ([(.int .i64 (x.len)), (.int .i64 (x.sb)), (.int .i64 (x.sm)), (.slice a74 ((S.take 9).length) c75)] : List Value)), cellC b10 49 (([(.int .i64 (s.r)), (.int .i64 (s.cl)), (.int .i64 (s.seq))] : List Value) ++ hc s.h ++ ([(.int .u64 (s.t)), (.int .i64 (s.sb)), (.int .i64 (s.sm))] : List Value)), rowC 49 38 (.slice a74 ((S.take 9).length) c75) ((S.take 9).length) ((S.take 9).flatMap encSt), cellC b82 107 ([(.map (some m83))] : List Value), mapC m83 signedV (Value.int .i64) (marks []), cellC r84 88 ([(.slice none (([] : List Signed).length) 0)] : List Value)] w81 := H88.open 5 rfl
      have H90 : Sat w [restC w (fun _ => False), cellC b2 36 ([(.int .i64 (1)), (.int .i64 (cn))] : List Value), cellC b6 47 (([(.int .i64 (x.cl)), (.int .i64 (x.seq))] : List Value) ++ hc x.h ++ ([(.int .i64 (x.len)), (.int .i64 (x.sb)), (.int .i64 (x.sm)), (.slice a74 ((S.take 9).length) c75)] : List Value)), cellC b10 49 (([(.int .i64 (s.r)), (.int .i64 (s.cl)), (.int .i64 (s.seq))] : List Value) ++ hc s.h ++ ([(.int .u64 (s.t)), (.int .i64 (s.sb)), (.int .i64 (s.sm))] : List Value)), rowC 49 38 (.slice a74 ((S.take 9).length) c75) ((S.take 9).length) ((S.take 9).flatMap encSt), cellC b82 107 ([(.map (some m83))] : List Value), mapC m83 signedV (Value.int .i64) (marks []), cellC r84 88 ([(.slice none (([] : List Signed).length) 0)] : List Value), rowC 120 2 (.slice none (([] : List Signed).length) 0) (([] : List Signed).length) (([] : List Signed).flatMap encS)] w81 := H89.addNil 120 2
      refine ⟨_, rfl, ?_⟩
      refine hK80 _ _ ?_
      clear hK80 K80
      refine wl_pure (wants0 rfl) (d := 22) (v := (.tuple #[(.agg ⟨([(.pointer (some ⟨b82, 0, none⟩)), (.pointer (some ⟨r84, 0, none⟩))] : List Value)⟩), (.bool true)])) rfl (by kernel_rfl) ?_
      refine wl_pure (wants0 rfl) (d := 24) (v := (.agg ⟨([(.pointer (some ⟨b82, 0, none⟩)), (.pointer (some ⟨r84, 0, none⟩))] : List Value)⟩)) rfl (by kernel_rfl) ?_
      refine wl_pure (wants0 rfl) (d := 25) (v := (.bool true)) rfl (by kernel_rfl) ?_
      refine wl_do (wants0 rfl) (fun K91 hK91 => ?_)
      refine d_alloc (zs := ([(.pointer none), (.pointer none)] : List Value)) (z := (.agg ⟨([(.pointer none), (.pointer none)] : List Value)⟩)) rfl H90 (by kernel_rfl) (by kernel_rfl) ?_
      intro b92 w93 (H94 : Sat w [restC w (fun _ => False), cellC b2 36 ([(.int .i64 (1)), (.int .i64 (cn))] : List Value), cellC b6 47 (([(.int .i64 (x.cl)), (.int .i64 (x.seq))] : List Value) ++ hc x.h ++ ([(.int .i64 (x.len)), (.int .i64 (x.sb)), (.int .i64 (x.sm)), (.slice a74 ((S.take 9).length) c75)] : List Value)), cellC b10 49 (([(.int .i64 (s.r)), (.int .i64 (s.cl)), (.int .i64 (s.seq))] : List Value) ++ hc s.h ++ ([(.int .u64 (s.t)), (.int .i64 (s.sb)), (.int .i64 (s.sm))] : List Value)), rowC 49 38 (.slice a74 ((S.take 9).length) c75) ((S.take 9).length) ((S.take 9).flatMap encSt), cellC b82 107 ([(.map (some m83))] : List Value), mapC m83 signedV (Value.int .i64) (marks []), cellC r84 88 ([(.slice none (([] : List Signed).length) 0)] : List Value), rowC 120 2 (.slice none (([] : List Signed).length) 0) (([] : List Signed).length) (([] : List Signed).flatMap encS), cellC b92 54 ([(.pointer none), (.pointer none)] : List Value)] w93)
      refine hK91 _ _ ?_
      clear hK91 K91
      refine wl_do (wants0 rfl) (fun K95 hK95 => ?_)
      refine d_storeX (vs := ([(.pointer (some ⟨b82, 0, none⟩)), (.pointer (some ⟨r84, 0, none⟩))] : List Value)) (cs' := ([(.pointer (some ⟨b82, 0, none⟩)), (.pointer (some ⟨r84, 0, none⟩))] : List Value)) rfl H94 9 rfl rfl rfl rfl (by kernel_rfl) (Nat.le_of_ble_eq_true (by kernel_rfl)) (Nat.le_of_ble_eq_true (by kernel_rfl)) (by kernel_rfl) (by kernel_rfl) ?_
      intro w96 (H97 : Sat w [restC w (fun _ => False), cellC b2 36 ([(.int .i64 (1)), (.int .i64 (cn))] : List Value), cellC b6 47 (([(.int .i64 (x.cl)), (.int .i64 (x.seq))] : List Value) ++ hc x.h ++ ([(.int .i64 (x.len)), (.int .i64 (x.sb)), (.int .i64 (x.sm)), (.slice a74 ((S.take 9).length) c75)] : List Value)), cellC b10 49 (([(.int .i64 (s.r)), (.int .i64 (s.cl)), (.int .i64 (s.seq))] : List Value) ++ hc s.h ++ ([(.int .u64 (s.t)), (.int .i64 (s.sb)), (.int .i64 (s.sm))] : List Value)), rowC 49 38 (.slice a74 ((S.take 9).length) c75) ((S.take 9).length) ((S.take 9).flatMap encSt), cellC b82 107 ([(.map (some m83))] : List Value), mapC m83 signedV (Value.int .i64) (marks []), cellC r84 88 ([(.slice none (([] : List Signed).length) 0)] : List Value), rowC 120 2 (.slice none (([] : List Signed).length) 0) (([] : List Signed).length) (([] : List Signed).flatMap encS), cellC b92 54 ([(.pointer (some ⟨b82, 0, none⟩)), (.pointer (some ⟨r84, 0, none⟩))] : List Value)] w96)
      refine hK95 _ _ ?_
      clear hK95 K95
      refine wl_pure (wants0 rfl) (d := 8) (v := (.bool true)) rfl (by kernel_rfl) ?_
      refine w_nil ?_
      refine then_normal ?_
      refine w_seq ?_
      refine q_start H97 (by kernel_rfl) (by kernel_rfl) ?_
      refine q_val (wants0 rfl) (d := 26) (v := (.bool true)) rfl (fun _ H' => (by kernel_rfl)) ?_
      refine q_val (wants0 rfl) (d := 27) (v := (.bool true)) rfl (fun _ H' => (by kernel_rfl)) ?_
      refine q_val (wantsY 1 27 true rfl (by kernel_rfl) rfl (by kernel_rfl)) (d := 28) (v := (.agg ⟨([(.int .i64 (1)), (.int .i64 (cn))] : List Value)⟩)) rfl (fun _ H' => (e_loadN (vs := ([(.int .i64 (1)), (.int .i64 (cn))] : List Value)) rfl (by kernel_rfl) (by kernel_rfl) (by exact Nat.le_of_ble_eq_true (by kernel_rfl)) (H'.at 1 rfl) (by kernel_rfl))) ?_
      refine q_val (wantsY 1 27 true rfl (by kernel_rfl) rfl (by kernel_rfl)) (d := 29) (v := (.pointer (some ⟨b92, 0, none⟩))) rfl (fun _ H' => (by kernel_rfl)) ?_
      refine q_val (wantsY 1 27 true rfl (by kernel_rfl) rfl (by kernel_rfl)) (d := 30) (v := (.pointer (some ⟨b82, 0, none⟩))) rfl (fun _ H' => (e_load1 rfl (by kernel_rfl) (H'.cell 9 rfl rfl))) ?_
      refine q_val (wantsY 1 27 true rfl (by kernel_rfl) rfl (by kernel_rfl)) (d := 31) (v := (.agg ⟨(([(.int .i64 (x.cl)), (.int .i64 (x.seq))] : List Value) ++ hc x.h ++ ([(.int .i64 (x.len)), (.int .i64 (x.sb)), (.int .i64 (x.sm)), (.slice a74 ((S.take 9).length) c75)] : List Value))⟩)) rfl (fun _ H' => (e_loadN (vs := (([(.int .i64 (x.cl)), (.int .i64 (x.seq))] : List Value) ++ hc x.h ++ ([(.int .i64 (x.len)), (.int .i64 (x.sb)), (.int .i64 (x.sm)), (.slice a74 ((S.take 9).length) c75)] : List Value))) rfl (by kernel_rfl) (by kernel_rfl) (by exact Nat.le_of_ble_eq_true (by kernel_rfl)) (H'.at 2 rfl) (by kernel_rfl))) ?_
      refine q_call (wantsY 1 27 true rfl (by kernel_rfl) rfl (by kernel_rfl)) (d := 32) (v := (.bool (rightX 1 cn ([]) x (S.take 9)))) rfl (fun _ _ => by kernel_rfl) (fun w' H' => (wRightX_any w' 1 cn (by omega) b82 m83 ([]) (H'.at 5 rfl) (H'.at 6 rfl) x hx a74 c75 (S.take 9) (ListAt.row (enc := encSt) (sz := 38) encSt_len (by decide) (H'.at 4 rfl)) ht (by omega)).mono fun _ _ h => ⟨h.1, H'.keepU h.2⟩) ?_
      refine q_val (wantsY 1 27 true rfl (by kernel_rfl) rfl (by kernel_rfl)) (d := 33) (v := (.agg ⟨([(.int .i64 (1)), (.int .i64 (cn))] : List Value)⟩)) rfl (fun _ H' => (e_loadN (vs := ([(.int .i64 (1)), (.int .i64 (cn))] : List Value)) rfl (by kernel_rfl) (by kernel_rfl) (by exact Nat.le_of_ble_eq_true (by kernel_rfl)) (H'.at 1 rfl) (by kernel_rfl))) ?_
      refine q_val (wantsY 1 27 true rfl (by kernel_rfl) rfl (by kernel_rfl)) (d := 34) (v := (.pointer (some ⟨b92, 1, none⟩))) rfl (fun _ H' => (by kernel_rfl)) ?_
      refine q_val (wantsY 1 27 true rfl (by kernel_rfl) rfl (by kernel_rfl)) (d := 35) (v := (.pointer (some ⟨r84, 0, none⟩))) rfl (fun _ H' => (e_load1 rfl (by kernel_rfl) (H'.cell 9 rfl rfl))) ?_
      refine q_val (wantsY 1 27 true rfl (by kernel_rfl) rfl (by kernel_rfl)) (d := 36) (v := (.agg ⟨(([(.int .i64 (x.cl)), (.int .i64 (x.seq))] : List Value) ++ hc x.h ++ ([(.int .i64 (x.len)), (.int .i64 (x.sb)), (.int .i64 (x.sm)), (.slice a74 ((S.take 9).length) c75)] : List Value))⟩)) rfl (fun _ H' => (e_loadN (vs := (([(.int .i64 (x.cl)), (.int .i64 (x.seq))] : List Value) ++ hc x.h ++ ([(.int .i64 (x.len)), (.int .i64 (x.sb)), (.int .i64 (x.sm)), (.slice a74 ((S.take 9).length) c75)] : List Value))) rfl (by kernel_rfl) (by kernel_rfl) (by exact Nat.le_of_ble_eq_true (by kernel_rfl)) (H'.at 2 rfl) (by kernel_rfl))) ?_
      refine q_call (wantsY 1 27 true rfl (by kernel_rfl) rfl (by kernel_rfl)) (d := 37) (v := (.bool (rightX 1 cn ([] : List Signed) x (S.take 9)))) rfl (fun _ _ => by kernel_rfl) (fun w' H' => (rRightX_any w' 1 cn (by omega) r84 none 0 ([] : List Signed) (H'.at 7 rfl) (H'.at 8 rfl) List.nodup_nil (by decide) x hx a74 c75 (S.take 9) (ListAt.row (enc := encSt) (sz := 38) encSt_len (by decide) (H'.at 4 rfl)) ht (by omega)).mono fun _ _ h => ⟨h.1, H'.keepU h.2⟩) ?_
      refine q_val (wantsY 1 27 true rfl (by kernel_rfl) rfl (by kernel_rfl)) (d := 38) (v := (.bool ((rightX 1 cn ([]) x (S.take 9)) == (rightX 1 cn ([] : List Signed) x (S.take 9))))) rfl (fun _ H' => (by kernel_rfl)) ?_
      refine q_val (wants0 rfl) (d := 39) (v := (.bool ((rightX 1 cn ([]) x (S.take 9)) == (rightX 1 cn ([] : List Signed) x (S.take 9))))) rfl (fun _ H' => (by kernel_rfl)) ?_
      refine q_val (wants0 rfl) (d := 40) (v := (.bool ((rightX 1 cn ([]) x (S.take 9)) == (rightX 1 cn ([] : List Signed) x (S.take 9))))) rfl (fun _ H' => (by kernel_rfl)) ?_
      have b99 : ((rightX 1 cn ([]) x (S.take 9)) == (rightX 1 cn ([] : List Signed) x (S.take 9))) = true := by exact beq_self_eq_true _
      refine q_know 40 (.bool true) (congrArg Value.bool b99) ?_
      refine q_val (wantsY 14 40 true rfl (by kernel_rfl) rfl (by kernel_rfl)) (d := 41) (v := (.agg ⟨(([(.int .i64 (x.cl)), (.int .i64 (x.seq))] : List Value) ++ hc x.h ++ ([(.int .i64 (x.len)), (.int .i64 (x.sb)), (.int .i64 (x.sm)), (.slice a74 ((S.take 9).length) c75)] : List Value))⟩)) rfl (fun _ H' => (e_loadN (vs := (([(.int .i64 (x.cl)), (.int .i64 (x.seq))] : List Value) ++ hc x.h ++ ([(.int .i64 (x.len)), (.int .i64 (x.sb)), (.int .i64 (x.sm)), (.slice a74 ((S.take 9).length) c75)] : List Value))) rfl (by kernel_rfl) (by kernel_rfl) (by exact Nat.le_of_ble_eq_true (by kernel_rfl)) (H'.at 2 rfl) (by kernel_rfl))) ?_
      refine q_call (wantsY 14 40 true rfl (by kernel_rfl) rfl (by kernel_rfl)) (d := 42) (v := (.int .u64 (timeD (S.take 9)))) rfl (fun _ _ => by kernel_rfl) (fun w' H' => (wTime_any w' x a74 c75 (S.take 9) (ListAt.row (enc := encSt) (sz := 38) encSt_len (by decide) (H'.at 4 rfl)) (by omega)).mono fun _ _ h => ⟨h.1, H'.keepU h.2⟩) ?_
      refine q_val (wantsY 14 40 true rfl (by kernel_rfl) rfl (by kernel_rfl)) (d := 43) (v := (.agg ⟨(([(.int .i64 (x.cl)), (.int .i64 (x.seq))] : List Value) ++ hc x.h ++ ([(.int .i64 (x.len)), (.int .i64 (x.sb)), (.int .i64 (x.sm)), (.slice a74 ((S.take 9).length) c75)] : List Value))⟩)) rfl (fun _ H' => (e_loadN (vs := (([(.int .i64 (x.cl)), (.int .i64 (x.seq))] : List Value) ++ hc x.h ++ ([(.int .i64 (x.len)), (.int .i64 (x.sb)), (.int .i64 (x.sm)), (.slice a74 ((S.take 9).length) c75)] : List Value))) rfl (by kernel_rfl) (by kernel_rfl) (by exact Nat.le_of_ble_eq_true (by kernel_rfl)) (H'.at 2 rfl) (by kernel_rfl))) ?_
      refine q_call (wantsY 14 40 true rfl (by kernel_rfl) rfl (by kernel_rfl)) (d := 44) (v := (.int .u64 (timeD (S.take 9)))) rfl (fun _ _ => by kernel_rfl) (fun w' H' => (rTime_any w' x a74 c75 (S.take 9) (ListAt.row (enc := encSt) (sz := 38) encSt_len (by decide) (H'.at 4 rfl)) (by omega)).mono fun _ _ h => ⟨h.1, H'.keepU h.2⟩) ?_
      refine q_val (wantsY 14 40 true rfl (by kernel_rfl) rfl (by kernel_rfl)) (d := 45) (v := (.bool (decide ((timeD (S.take 9)) = (timeD (S.take 9)))))) rfl (fun _ H' => (by kernel_rfl)) ?_
      refine q_val (wants0 rfl) (d := 46) (v := (.bool (decide ((timeD (S.take 9)) = (timeD (S.take 9)))))) rfl (fun _ H' => (by kernel_rfl)) ?_
      refine q_val (wants0 rfl) (d := 47) (v := (.bool (decide ((timeD (S.take 9)) = (timeD (S.take 9)))))) rfl (fun _ H' => (by kernel_rfl)) ?_
      have b100 : (decide ((timeD (S.take 9)) = (timeD (S.take 9)))) = true := by exact decide_eq_true rfl
      refine q_know 47 (.bool true) (congrArg Value.bool b100) ?_
      have g101 := of_decide_eq_true b100
      refine q_val (wantsY 21 47 true rfl (by kernel_rfl) rfl (by kernel_rfl)) (d := 48) (v := (.agg ⟨([(.int .i64 (1)), (.int .i64 (cn))] : List Value)⟩)) rfl (fun _ H' => (e_loadN (vs := ([(.int .i64 (1)), (.int .i64 (cn))] : List Value)) rfl (by kernel_rfl) (by kernel_rfl) (by exact Nat.le_of_ble_eq_true (by kernel_rfl)) (H'.at 1 rfl) (by kernel_rfl))) ?_
      refine q_val (wantsY 21 47 true rfl (by kernel_rfl) rfl (by kernel_rfl)) (d := 49) (v := (.pointer (some ⟨b92, 0, none⟩))) rfl (fun _ H' => (by kernel_rfl)) ?_
      refine q_val (wantsY 21 47 true rfl (by kernel_rfl) rfl (by kernel_rfl)) (d := 50) (v := (.pointer (some ⟨b82, 0, none⟩))) rfl (fun _ H' => (e_load1 rfl (by kernel_rfl) (H'.cell 9 rfl rfl))) ?_
      refine q_val (wantsY 21 47 true rfl (by kernel_rfl) rfl (by kernel_rfl)) (d := 51) (v := (.agg ⟨(([(.int .i64 (s.r)), (.int .i64 (s.cl)), (.int .i64 (s.seq))] : List Value) ++ hc s.h ++ ([(.int .u64 (s.t)), (.int .i64 (s.sb)), (.int .i64 (s.sm))] : List Value))⟩)) rfl (fun _ H' => (e_loadN (vs := (([(.int .i64 (s.r)), (.int .i64 (s.cl)), (.int .i64 (s.seq))] : List Value) ++ hc s.h ++ ([(.int .u64 (s.t)), (.int .i64 (s.sb)), (.int .i64 (s.sm))] : List Value))) rfl (by kernel_rfl) (by kernel_rfl) (by exact Nat.le_of_ble_eq_true (by kernel_rfl)) (H'.at 3 rfl) (by kernel_rfl))) ?_
      refine q_call (wantsY 21 47 true rfl (by kernel_rfl) rfl (by kernel_rfl)) (d := 52) (v := (.bool (rightS 1 ([]) s))) rfl (fun _ _ => by kernel_rfl) (fun w' H' => (wRightS_any w' 1 cn (by omega) b82 m83 ([]) (H'.at 5 rfl) (H'.at 6 rfl) s hs).mono fun _ _ h => ⟨h.1, H'.keepU h.2⟩) ?_
      refine q_val (wantsY 21 47 true rfl (by kernel_rfl) rfl (by kernel_rfl)) (d := 53) (v := (.agg ⟨([(.int .i64 (1)), (.int .i64 (cn))] : List Value)⟩)) rfl (fun _ H' => (e_loadN (vs := ([(.int .i64 (1)), (.int .i64 (cn))] : List Value)) rfl (by kernel_rfl) (by kernel_rfl) (by exact Nat.le_of_ble_eq_true (by kernel_rfl)) (H'.at 1 rfl) (by kernel_rfl))) ?_
      refine q_val (wantsY 21 47 true rfl (by kernel_rfl) rfl (by kernel_rfl)) (d := 54) (v := (.pointer (some ⟨b92, 1, none⟩))) rfl (fun _ H' => (by kernel_rfl)) ?_
      refine q_val (wantsY 21 47 true rfl (by kernel_rfl) rfl (by kernel_rfl)) (d := 55) (v := (.pointer (some ⟨r84, 0, none⟩))) rfl (fun _ H' => (e_load1 rfl (by kernel_rfl) (H'.cell 9 rfl rfl))) ?_
      refine q_val (wantsY 21 47 true rfl (by kernel_rfl) rfl (by kernel_rfl)) (d := 56) (v := (.agg ⟨(([(.int .i64 (s.r)), (.int .i64 (s.cl)), (.int .i64 (s.seq))] : List Value) ++ hc s.h ++ ([(.int .u64 (s.t)), (.int .i64 (s.sb)), (.int .i64 (s.sm))] : List Value))⟩)) rfl (fun _ H' => (e_loadN (vs := (([(.int .i64 (s.r)), (.int .i64 (s.cl)), (.int .i64 (s.seq))] : List Value) ++ hc s.h ++ ([(.int .u64 (s.t)), (.int .i64 (s.sb)), (.int .i64 (s.sm))] : List Value))) rfl (by kernel_rfl) (by kernel_rfl) (by exact Nat.le_of_ble_eq_true (by kernel_rfl)) (H'.at 3 rfl) (by kernel_rfl))) ?_
      refine q_call (wantsY 21 47 true rfl (by kernel_rfl) rfl (by kernel_rfl)) (d := 57) (v := (.bool (rightS 1 ([] : List Signed) s))) rfl (fun _ _ => by kernel_rfl) (fun w' H' => (rRightS_any w' 1 cn (by omega) r84 none 0 ([] : List Signed) (H'.at 7 rfl) (H'.at 8 rfl) List.nodup_nil (by decide) s hs).mono fun _ _ h => ⟨h.1, H'.keepU h.2⟩) ?_
      refine q_val (wantsY 21 47 true rfl (by kernel_rfl) rfl (by kernel_rfl)) (d := 58) (v := (.bool ((rightS 1 ([]) s) == (rightS 1 ([] : List Signed) s)))) rfl (fun _ H' => (by kernel_rfl)) ?_
      refine q_val (wants0 rfl) (d := 59) (v := (.bool ((rightS 1 ([]) s) == (rightS 1 ([] : List Signed) s)))) rfl (fun _ H' => (by kernel_rfl)) ?_
      refine q_val (wants0 rfl) (d := 60) (v := (.bool ((rightS 1 ([]) s) == (rightS 1 ([] : List Signed) s)))) rfl (fun _ H' => (by kernel_rfl)) ?_
      have b102 : ((rightS 1 ([]) s) == (rightS 1 ([] : List Signed) s)) = true := by exact beq_self_eq_true _
      refine q_know 60 (.bool true) (congrArg Value.bool b102) ?_
      refine q_call (wantsY 34 60 true rfl (by kernel_rfl) rfl (by kernel_rfl)) (d := 61) (v := (.bool true)) rfl (fun _ _ => by kernel_rfl) (fun w' H' => (wakes_any w').mono fun _ _ h => ⟨h.1, H'.keepU h.2⟩) ?_
      refine q_val (wants0 rfl) (d := 62) (v := (.bool true)) rfl (fun _ H' => (by kernel_rfl)) ?_
      refine q_val (wants0 rfl) (d := 6) (v := (.bool true)) rfl (fun _ H' => (by kernel_rfl)) ?_
      refine q_end ?_
      intro w103 H104
      refine then_normal ?_
      refine w_ret ?_
      refine end1 rfl (res_tmp (v := (.bool true)) rfl) ?_
      exact ⟨rfl, H104.upd 0 rfl [] (fun _ h => h.elim)⟩
    · have g105 := of_decide_eq_false b60
      refine wp_know 16 (.bool false) (congrArg Value.bool b60) ?_
      have g106 := of_decide_eq_false b60
      refine wp_iff rfl ?_
      refine w_skip ?_
      refine then_normal ?_
      refine w_seq ?_
      refine w_lit ?_
      refine wl_pure (wants0 rfl) (d := 18) (v := (.pointer (some ⟨b6, 37, none⟩))) rfl (by kernel_rfl) ?_
      refine wl_pure (wants0 rfl) (d := 19) (v := (.slice sa S.length sc)) rfl (e_load1 rfl (by kernel_rfl) (H12.cell 2 rfl (by kernel_rfl))) ?_
      refine wl_do (wants0 rfl) (fun K107 hK107 => ?_)
      refine d_call (d := 20) rfl (by kernel_rfl) (cutS_any w11 sa sc S (ListAt.now H12 0 rfl hS) (by omega) 9 (by decide)) ?_
      rintro _ w108 ⟨u109, rfl, k110, p111, q112⟩
      have H113 : Sat w [restC w (fun _ => False), cellC b2 36 ([(.int .i64 (f)), (.int .i64 (cn))] : List Value), cellC b6 47 (([(.int .i64 (x.cl)), (.int .i64 (x.seq))] : List Value) ++ hc x.h ++ ([(.int .i64 (x.len)), (.int .i64 (x.sb)), (.int .i64 (x.sm)), (.slice sa S.length sc)] : List Value)), cellC b10 49 (([(.int .i64 (s.r)), (.int .i64 (s.cl)), (.int .i64 (s.seq))] : List Value) ++ hc s.h ++ ([(.int .u64 (s.t)), (.int .i64 (s.sb)), (.int .i64 (s.sm))] : List Value)), rowC 49 38 u109 ((S.take 9).length) ((S.take 9).flatMap encSt)] w108 := H12.addU p111 k110 q112
      obtain ⟨a114, c115, rfl⟩ := ownsRow_shape (H113.at 4 rfl)
      have h9 : (S.take 9).length ≤ 9 := by rw [List.length_take]; omega
      refine ⟨_, rfl, ?_⟩
      refine hK107 _ _ ?_
      clear hK107 K107
      refine wl_pure (wants0 rfl) (d := 21) (v := (.pointer (some ⟨b6, 37, none⟩))) rfl (by kernel_rfl) ?_
      refine wl_do (wants0 rfl) (fun K116 hK116 => ?_)
      refine d_storeX (vs := ([(.slice a114 ((S.take 9).length) c115)] : List Value)) (cs' := (([(.int .i64 (x.cl)), (.int .i64 (x.seq))] : List Value) ++ hc x.h ++ ([(.int .i64 (x.len)), (.int .i64 (x.sb)), (.int .i64 (x.sm)), (.slice a114 ((S.take 9).length) c115)] : List Value))) rfl H113 2 rfl rfl rfl rfl (by kernel_rfl) (Nat.le_of_ble_eq_true (by kernel_rfl)) (Nat.le_of_ble_eq_true (by kernel_rfl)) (by kernel_rfl) (by kernel_rfl) ?_
      intro w117 (H118 : Sat w [restC w (fun _ => False), cellC b2 36 ([(.int .i64 (f)), (.int .i64 (cn))] : List Value), cellC b6 47 (([(.int .i64 (x.cl)), (.int .i64 (x.seq))] : List Value) ++ hc x.h ++ ([(.int .i64 (x.len)), (.int .i64 (x.sb)), (.int .i64 (x.sm)), (.slice a114 ((S.take 9).length) c115)] : List Value)), cellC b10 49 (([(.int .i64 (s.r)), (.int .i64 (s.cl)), (.int .i64 (s.seq))] : List Value) ++ hc s.h ++ ([(.int .u64 (s.t)), (.int .i64 (s.sb)), (.int .i64 (s.sm))] : List Value)), rowC 49 38 (.slice a114 ((S.take 9).length) c115) ((S.take 9).length) ((S.take 9).flatMap encSt)] w117)
      refine hK116 _ _ ?_
      clear hK116 K116
      refine w_nil ?_
      refine then_normal ?_
      refine w_seq ?_
      refine w_lit ?_
      refine wl_do (wants0 rfl) (fun K120 hK120 => ?_)
      refine d_call (d := 23) rfl (by kernel_rfl) (new10_any w117) ?_
      rintro _ w121 ⟨b122, m123, r124, rfl, k125, p126, q127⟩
      have H128 : Sat w [restC w (fun _ => False), cellC b2 36 ([(.int .i64 (f)), (.int .i64 (cn))] : List Value), cellC b6 47 (([(.int .i64 (x.cl)), (.int .i64 (x.seq))] : List Value) ++ hc x.h ++ ([(.int .i64 (x.len)), (.int .i64 (x.sb)), (.int .i64 (x.sm)), (.slice a114 ((S.take 9).length) c115)] : List Value)), cellC b10 49 (([(.int .i64 (s.r)), (.int .i64 (s.cl)), (.int .i64 (s.seq))] : List Value) ++ hc s.h ++ ([(.int .u64 (s.t)), (.int .i64 (s.sb)), (.int .i64 (s.sm))] : List Value)), rowC 49 38 (.slice a114 ((S.take 9).length) c115) ((S.take 9).length) ((S.take 9).flatMap encSt), sepC [cellC b122 107 [.map (some m123)], mapC m123 signedV (Value.int .i64) (marks []), cellC r124 88 [.slice none 0 0]]] w121 := H118.addU p126 k125 q127
      have H129 : Sat w [restC w (fun _ => False), cellC b2 36 ([(.int .i64 (f)), (.int .i64 (cn))] : List Value), cellC b6 47 (([(.int .i64 (x.cl)), (.int .i64 (x.seq))] : List Value) ++ hc x.h ++ ([(.int .i64 (x.len)), (.int .i64 (x.sb)), (.int .i64 (x.sm)), (.slice a114 ((S.take 9).length) c115)] : List Value)), cellC b10 49 (([(.int .i64 (s.r)), (.int .i64 (s.cl)), (.int .i64 (s.seq))] : List Value) ++ hc s.h ++ ([(.int .u64 (s.t)), (.int .i64 (s.sb)), (.int .i64 (s.sm))] : List Value)), rowC 49 38 (.slice a114 ((S.take 9).length) c115) ((S.take 9).length) ((S.take 9).flatMap encSt), cellC b122 107 ([(.map (some m123))] : List Value), mapC m123 signedV (Value.int .i64) (marks []), cellC r124 88 ([(.slice none (([] : List Signed).length) 0)] : List Value)] w121 := H128.open 5 rfl
      have H130 : Sat w [restC w (fun _ => False), cellC b2 36 ([(.int .i64 (f)), (.int .i64 (cn))] : List Value), cellC b6 47 (([(.int .i64 (x.cl)), (.int .i64 (x.seq))] : List Value) ++ hc x.h ++ ([(.int .i64 (x.len)), (.int .i64 (x.sb)), (.int .i64 (x.sm)), (.slice a114 ((S.take 9).length) c115)] : List Value)), cellC b10 49 (([(.int .i64 (s.r)), (.int .i64 (s.cl)), (.int .i64 (s.seq))] : List Value) ++ hc s.h ++ ([(.int .u64 (s.t)), (.int .i64 (s.sb)), (.int .i64 (s.sm))] : List Value)), rowC 49 38 (.slice a114 ((S.take 9).length) c115) ((S.take 9).length) ((S.take 9).flatMap encSt), cellC b122 107 ([(.map (some m123))] : List Value), mapC m123 signedV (Value.int .i64) (marks []), cellC r124 88 ([(.slice none (([] : List Signed).length) 0)] : List Value), rowC 120 2 (.slice none (([] : List Signed).length) 0) (([] : List Signed).length) (([] : List Signed).flatMap encS)] w121 := H129.addNil 120 2
      refine ⟨_, rfl, ?_⟩
      refine hK120 _ _ ?_
      clear hK120 K120
      refine wl_pure (wants0 rfl) (d := 22) (v := (.tuple #[(.agg ⟨([(.pointer (some ⟨b122, 0, none⟩)), (.pointer (some ⟨r124, 0, none⟩))] : List Value)⟩), (.bool true)])) rfl (by kernel_rfl) ?_
      refine wl_pure (wants0 rfl) (d := 24) (v := (.agg ⟨([(.pointer (some ⟨b122, 0, none⟩)), (.pointer (some ⟨r124, 0, none⟩))] : List Value)⟩)) rfl (by kernel_rfl) ?_
      refine wl_pure (wants0 rfl) (d := 25) (v := (.bool true)) rfl (by kernel_rfl) ?_
      refine wl_do (wants0 rfl) (fun K131 hK131 => ?_)
      refine d_alloc (zs := ([(.pointer none), (.pointer none)] : List Value)) (z := (.agg ⟨([(.pointer none), (.pointer none)] : List Value)⟩)) rfl H130 (by kernel_rfl) (by kernel_rfl) ?_
      intro b132 w133 (H134 : Sat w [restC w (fun _ => False), cellC b2 36 ([(.int .i64 (f)), (.int .i64 (cn))] : List Value), cellC b6 47 (([(.int .i64 (x.cl)), (.int .i64 (x.seq))] : List Value) ++ hc x.h ++ ([(.int .i64 (x.len)), (.int .i64 (x.sb)), (.int .i64 (x.sm)), (.slice a114 ((S.take 9).length) c115)] : List Value)), cellC b10 49 (([(.int .i64 (s.r)), (.int .i64 (s.cl)), (.int .i64 (s.seq))] : List Value) ++ hc s.h ++ ([(.int .u64 (s.t)), (.int .i64 (s.sb)), (.int .i64 (s.sm))] : List Value)), rowC 49 38 (.slice a114 ((S.take 9).length) c115) ((S.take 9).length) ((S.take 9).flatMap encSt), cellC b122 107 ([(.map (some m123))] : List Value), mapC m123 signedV (Value.int .i64) (marks []), cellC r124 88 ([(.slice none (([] : List Signed).length) 0)] : List Value), rowC 120 2 (.slice none (([] : List Signed).length) 0) (([] : List Signed).length) (([] : List Signed).flatMap encS), cellC b132 54 ([(.pointer none), (.pointer none)] : List Value)] w133)
      refine hK131 _ _ ?_
      clear hK131 K131
      refine wl_do (wants0 rfl) (fun K135 hK135 => ?_)
      refine d_storeX (vs := ([(.pointer (some ⟨b122, 0, none⟩)), (.pointer (some ⟨r124, 0, none⟩))] : List Value)) (cs' := ([(.pointer (some ⟨b122, 0, none⟩)), (.pointer (some ⟨r124, 0, none⟩))] : List Value)) rfl H134 9 rfl rfl rfl rfl (by kernel_rfl) (Nat.le_of_ble_eq_true (by kernel_rfl)) (Nat.le_of_ble_eq_true (by kernel_rfl)) (by kernel_rfl) (by kernel_rfl) ?_
      intro w136 (H137 : Sat w [restC w (fun _ => False), cellC b2 36 ([(.int .i64 (f)), (.int .i64 (cn))] : List Value), cellC b6 47 (([(.int .i64 (x.cl)), (.int .i64 (x.seq))] : List Value) ++ hc x.h ++ ([(.int .i64 (x.len)), (.int .i64 (x.sb)), (.int .i64 (x.sm)), (.slice a114 ((S.take 9).length) c115)] : List Value)), cellC b10 49 (([(.int .i64 (s.r)), (.int .i64 (s.cl)), (.int .i64 (s.seq))] : List Value) ++ hc s.h ++ ([(.int .u64 (s.t)), (.int .i64 (s.sb)), (.int .i64 (s.sm))] : List Value)), rowC 49 38 (.slice a114 ((S.take 9).length) c115) ((S.take 9).length) ((S.take 9).flatMap encSt), cellC b122 107 ([(.map (some m123))] : List Value), mapC m123 signedV (Value.int .i64) (marks []), cellC r124 88 ([(.slice none (([] : List Signed).length) 0)] : List Value), rowC 120 2 (.slice none (([] : List Signed).length) 0) (([] : List Signed).length) (([] : List Signed).flatMap encS), cellC b132 54 ([(.pointer (some ⟨b122, 0, none⟩)), (.pointer (some ⟨r124, 0, none⟩))] : List Value)] w136)
      refine hK135 _ _ ?_
      clear hK135 K135
      refine wl_pure (wants0 rfl) (d := 8) (v := (.bool true)) rfl (by kernel_rfl) ?_
      refine w_nil ?_
      refine then_normal ?_
      refine w_seq ?_
      refine q_start H137 (by kernel_rfl) (by kernel_rfl) ?_
      refine q_val (wants0 rfl) (d := 26) (v := (.bool true)) rfl (fun _ H' => (by kernel_rfl)) ?_
      refine q_val (wants0 rfl) (d := 27) (v := (.bool true)) rfl (fun _ H' => (by kernel_rfl)) ?_
      refine q_val (wantsY 1 27 true rfl (by kernel_rfl) rfl (by kernel_rfl)) (d := 28) (v := (.agg ⟨([(.int .i64 (f)), (.int .i64 (cn))] : List Value)⟩)) rfl (fun _ H' => (e_loadN (vs := ([(.int .i64 (f)), (.int .i64 (cn))] : List Value)) rfl (by kernel_rfl) (by kernel_rfl) (by exact Nat.le_of_ble_eq_true (by kernel_rfl)) (H'.at 1 rfl) (by kernel_rfl))) ?_
      refine q_val (wantsY 1 27 true rfl (by kernel_rfl) rfl (by kernel_rfl)) (d := 29) (v := (.pointer (some ⟨b132, 0, none⟩))) rfl (fun _ H' => (by kernel_rfl)) ?_
      refine q_val (wantsY 1 27 true rfl (by kernel_rfl) rfl (by kernel_rfl)) (d := 30) (v := (.pointer (some ⟨b122, 0, none⟩))) rfl (fun _ H' => (e_load1 rfl (by kernel_rfl) (H'.cell 9 rfl rfl))) ?_
      refine q_val (wantsY 1 27 true rfl (by kernel_rfl) rfl (by kernel_rfl)) (d := 31) (v := (.agg ⟨(([(.int .i64 (x.cl)), (.int .i64 (x.seq))] : List Value) ++ hc x.h ++ ([(.int .i64 (x.len)), (.int .i64 (x.sb)), (.int .i64 (x.sm)), (.slice a114 ((S.take 9).length) c115)] : List Value))⟩)) rfl (fun _ H' => (e_loadN (vs := (([(.int .i64 (x.cl)), (.int .i64 (x.seq))] : List Value) ++ hc x.h ++ ([(.int .i64 (x.len)), (.int .i64 (x.sb)), (.int .i64 (x.sm)), (.slice a114 ((S.take 9).length) c115)] : List Value))) rfl (by kernel_rfl) (by kernel_rfl) (by exact Nat.le_of_ble_eq_true (by kernel_rfl)) (H'.at 2 rfl) (by kernel_rfl))) ?_
      refine q_call (wantsY 1 27 true rfl (by kernel_rfl) rfl (by kernel_rfl)) (d := 32) (v := (.bool (rightX f cn ([]) x (S.take 9)))) rfl (fun _ _ => by kernel_rfl) (fun w' H' => (wRightX_any w' f cn (by omega) b122 m123 ([]) (H'.at 5 rfl) (H'.at 6 rfl) x hx a114 c115 (S.take 9) (ListAt.row (enc := encSt) (sz := 38) encSt_len (by decide) (H'.at 4 rfl)) ht (by omega)).mono fun _ _ h => ⟨h.1, H'.keepU h.2⟩) ?_
      refine q_val (wantsY 1 27 true rfl (by kernel_rfl) rfl (by kernel_rfl)) (d := 33) (v := (.agg ⟨([(.int .i64 (f)), (.int .i64 (cn))] : List Value)⟩)) rfl (fun _ H' => (e_loadN (vs := ([(.int .i64 (f)), (.int .i64 (cn))] : List Value)) rfl (by kernel_rfl) (by kernel_rfl) (by exact Nat.le_of_ble_eq_true (by kernel_rfl)) (H'.at 1 rfl) (by kernel_rfl))) ?_
      refine q_val (wantsY 1 27 true rfl (by kernel_rfl) rfl (by kernel_rfl)) (d := 34) (v := (.pointer (some ⟨b132, 1, none⟩))) rfl (fun _ H' => (by kernel_rfl)) ?_
      refine q_val (wantsY 1 27 true rfl (by kernel_rfl) rfl (by kernel_rfl)) (d := 35) (v := (.pointer (some ⟨r124, 0, none⟩))) rfl (fun _ H' => (e_load1 rfl (by kernel_rfl) (H'.cell 9 rfl rfl))) ?_
      refine q_val (wantsY 1 27 true rfl (by kernel_rfl) rfl (by kernel_rfl)) (d := 36) (v := (.agg ⟨(([(.int .i64 (x.cl)), (.int .i64 (x.seq))] : List Value) ++ hc x.h ++ ([(.int .i64 (x.len)), (.int .i64 (x.sb)), (.int .i64 (x.sm)), (.slice a114 ((S.take 9).length) c115)] : List Value))⟩)) rfl (fun _ H' => (e_loadN (vs := (([(.int .i64 (x.cl)), (.int .i64 (x.seq))] : List Value) ++ hc x.h ++ ([(.int .i64 (x.len)), (.int .i64 (x.sb)), (.int .i64 (x.sm)), (.slice a114 ((S.take 9).length) c115)] : List Value))) rfl (by kernel_rfl) (by kernel_rfl) (by exact Nat.le_of_ble_eq_true (by kernel_rfl)) (H'.at 2 rfl) (by kernel_rfl))) ?_
      refine q_call (wantsY 1 27 true rfl (by kernel_rfl) rfl (by kernel_rfl)) (d := 37) (v := (.bool (rightX f cn ([] : List Signed) x (S.take 9)))) rfl (fun _ _ => by kernel_rfl) (fun w' H' => (rRightX_any w' f cn (by omega) r124 none 0 ([] : List Signed) (H'.at 7 rfl) (H'.at 8 rfl) List.nodup_nil (by decide) x hx a114 c115 (S.take 9) (ListAt.row (enc := encSt) (sz := 38) encSt_len (by decide) (H'.at 4 rfl)) ht (by omega)).mono fun _ _ h => ⟨h.1, H'.keepU h.2⟩) ?_
      refine q_val (wantsY 1 27 true rfl (by kernel_rfl) rfl (by kernel_rfl)) (d := 38) (v := (.bool ((rightX f cn ([]) x (S.take 9)) == (rightX f cn ([] : List Signed) x (S.take 9))))) rfl (fun _ H' => (by kernel_rfl)) ?_
      refine q_val (wants0 rfl) (d := 39) (v := (.bool ((rightX f cn ([]) x (S.take 9)) == (rightX f cn ([] : List Signed) x (S.take 9))))) rfl (fun _ H' => (by kernel_rfl)) ?_
      refine q_val (wants0 rfl) (d := 40) (v := (.bool ((rightX f cn ([]) x (S.take 9)) == (rightX f cn ([] : List Signed) x (S.take 9))))) rfl (fun _ H' => (by kernel_rfl)) ?_
      have b139 : ((rightX f cn ([]) x (S.take 9)) == (rightX f cn ([] : List Signed) x (S.take 9))) = true := by exact beq_self_eq_true _
      refine q_know 40 (.bool true) (congrArg Value.bool b139) ?_
      refine q_val (wantsY 14 40 true rfl (by kernel_rfl) rfl (by kernel_rfl)) (d := 41) (v := (.agg ⟨(([(.int .i64 (x.cl)), (.int .i64 (x.seq))] : List Value) ++ hc x.h ++ ([(.int .i64 (x.len)), (.int .i64 (x.sb)), (.int .i64 (x.sm)), (.slice a114 ((S.take 9).length) c115)] : List Value))⟩)) rfl (fun _ H' => (e_loadN (vs := (([(.int .i64 (x.cl)), (.int .i64 (x.seq))] : List Value) ++ hc x.h ++ ([(.int .i64 (x.len)), (.int .i64 (x.sb)), (.int .i64 (x.sm)), (.slice a114 ((S.take 9).length) c115)] : List Value))) rfl (by kernel_rfl) (by kernel_rfl) (by exact Nat.le_of_ble_eq_true (by kernel_rfl)) (H'.at 2 rfl) (by kernel_rfl))) ?_
      refine q_call (wantsY 14 40 true rfl (by kernel_rfl) rfl (by kernel_rfl)) (d := 42) (v := (.int .u64 (timeD (S.take 9)))) rfl (fun _ _ => by kernel_rfl) (fun w' H' => (wTime_any w' x a114 c115 (S.take 9) (ListAt.row (enc := encSt) (sz := 38) encSt_len (by decide) (H'.at 4 rfl)) (by omega)).mono fun _ _ h => ⟨h.1, H'.keepU h.2⟩) ?_
      refine q_val (wantsY 14 40 true rfl (by kernel_rfl) rfl (by kernel_rfl)) (d := 43) (v := (.agg ⟨(([(.int .i64 (x.cl)), (.int .i64 (x.seq))] : List Value) ++ hc x.h ++ ([(.int .i64 (x.len)), (.int .i64 (x.sb)), (.int .i64 (x.sm)), (.slice a114 ((S.take 9).length) c115)] : List Value))⟩)) rfl (fun _ H' => (e_loadN (vs := (([(.int .i64 (x.cl)), (.int .i64 (x.seq))] : List Value) ++ hc x.h ++ ([(.int .i64 (x.len)), (.int .i64 (x.sb)), (.int .i64 (x.sm)), (.slice a114 ((S.take 9).length) c115)] : List Value))) rfl (by kernel_rfl) (by kernel_rfl) (by exact Nat.le_of_ble_eq_true (by kernel_rfl)) (H'.at 2 rfl) (by kernel_rfl))) ?_
      refine q_call (wantsY 14 40 true rfl (by kernel_rfl) rfl (by kernel_rfl)) (d := 44) (v := (.int .u64 (timeD (S.take 9)))) rfl (fun _ _ => by kernel_rfl) (fun w' H' => (rTime_any w' x a114 c115 (S.take 9) (ListAt.row (enc := encSt) (sz := 38) encSt_len (by decide) (H'.at 4 rfl)) (by omega)).mono fun _ _ h => ⟨h.1, H'.keepU h.2⟩) ?_
      refine q_val (wantsY 14 40 true rfl (by kernel_rfl) rfl (by kernel_rfl)) (d := 45) (v := (.bool (decide ((timeD (S.take 9)) = (timeD (S.take 9)))))) rfl (fun _ H' => (by kernel_rfl)) ?_
      refine q_val (wants0 rfl) (d := 46) (v := (.bool (decide ((timeD (S.take 9)) = (timeD (S.take 9)))))) rfl (fun _ H' => (by kernel_rfl)) ?_
      refine q_val (wants0 rfl) (d := 47) (v := (.bool (decide ((timeD (S.take 9)) = (timeD (S.take 9)))))) rfl (fun _ H' => (by kernel_rfl)) ?_
      have b140 : (decide ((timeD (S.take 9)) = (timeD (S.take 9)))) = true := by exact decide_eq_true rfl
      refine q_know 47 (.bool true) (congrArg Value.bool b140) ?_
      have g141 := of_decide_eq_true b140
      refine q_val (wantsY 21 47 true rfl (by kernel_rfl) rfl (by kernel_rfl)) (d := 48) (v := (.agg ⟨([(.int .i64 (f)), (.int .i64 (cn))] : List Value)⟩)) rfl (fun _ H' => (e_loadN (vs := ([(.int .i64 (f)), (.int .i64 (cn))] : List Value)) rfl (by kernel_rfl) (by kernel_rfl) (by exact Nat.le_of_ble_eq_true (by kernel_rfl)) (H'.at 1 rfl) (by kernel_rfl))) ?_
      refine q_val (wantsY 21 47 true rfl (by kernel_rfl) rfl (by kernel_rfl)) (d := 49) (v := (.pointer (some ⟨b132, 0, none⟩))) rfl (fun _ H' => (by kernel_rfl)) ?_
      refine q_val (wantsY 21 47 true rfl (by kernel_rfl) rfl (by kernel_rfl)) (d := 50) (v := (.pointer (some ⟨b122, 0, none⟩))) rfl (fun _ H' => (e_load1 rfl (by kernel_rfl) (H'.cell 9 rfl rfl))) ?_
      refine q_val (wantsY 21 47 true rfl (by kernel_rfl) rfl (by kernel_rfl)) (d := 51) (v := (.agg ⟨(([(.int .i64 (s.r)), (.int .i64 (s.cl)), (.int .i64 (s.seq))] : List Value) ++ hc s.h ++ ([(.int .u64 (s.t)), (.int .i64 (s.sb)), (.int .i64 (s.sm))] : List Value))⟩)) rfl (fun _ H' => (e_loadN (vs := (([(.int .i64 (s.r)), (.int .i64 (s.cl)), (.int .i64 (s.seq))] : List Value) ++ hc s.h ++ ([(.int .u64 (s.t)), (.int .i64 (s.sb)), (.int .i64 (s.sm))] : List Value))) rfl (by kernel_rfl) (by kernel_rfl) (by exact Nat.le_of_ble_eq_true (by kernel_rfl)) (H'.at 3 rfl) (by kernel_rfl))) ?_
      refine q_call (wantsY 21 47 true rfl (by kernel_rfl) rfl (by kernel_rfl)) (d := 52) (v := (.bool (rightS f ([]) s))) rfl (fun _ _ => by kernel_rfl) (fun w' H' => (wRightS_any w' f cn (by omega) b122 m123 ([]) (H'.at 5 rfl) (H'.at 6 rfl) s hs).mono fun _ _ h => ⟨h.1, H'.keepU h.2⟩) ?_
      refine q_val (wantsY 21 47 true rfl (by kernel_rfl) rfl (by kernel_rfl)) (d := 53) (v := (.agg ⟨([(.int .i64 (f)), (.int .i64 (cn))] : List Value)⟩)) rfl (fun _ H' => (e_loadN (vs := ([(.int .i64 (f)), (.int .i64 (cn))] : List Value)) rfl (by kernel_rfl) (by kernel_rfl) (by exact Nat.le_of_ble_eq_true (by kernel_rfl)) (H'.at 1 rfl) (by kernel_rfl))) ?_
      refine q_val (wantsY 21 47 true rfl (by kernel_rfl) rfl (by kernel_rfl)) (d := 54) (v := (.pointer (some ⟨b132, 1, none⟩))) rfl (fun _ H' => (by kernel_rfl)) ?_
      refine q_val (wantsY 21 47 true rfl (by kernel_rfl) rfl (by kernel_rfl)) (d := 55) (v := (.pointer (some ⟨r124, 0, none⟩))) rfl (fun _ H' => (e_load1 rfl (by kernel_rfl) (H'.cell 9 rfl rfl))) ?_
      refine q_val (wantsY 21 47 true rfl (by kernel_rfl) rfl (by kernel_rfl)) (d := 56) (v := (.agg ⟨(([(.int .i64 (s.r)), (.int .i64 (s.cl)), (.int .i64 (s.seq))] : List Value) ++ hc s.h ++ ([(.int .u64 (s.t)), (.int .i64 (s.sb)), (.int .i64 (s.sm))] : List Value))⟩)) rfl (fun _ H' => (e_loadN (vs := (([(.int .i64 (s.r)), (.int .i64 (s.cl)), (.int .i64 (s.seq))] : List Value) ++ hc s.h ++ ([(.int .u64 (s.t)), (.int .i64 (s.sb)), (.int .i64 (s.sm))] : List Value))) rfl (by kernel_rfl) (by kernel_rfl) (by exact Nat.le_of_ble_eq_true (by kernel_rfl)) (H'.at 3 rfl) (by kernel_rfl))) ?_
      refine q_call (wantsY 21 47 true rfl (by kernel_rfl) rfl (by kernel_rfl)) (d := 57) (v := (.bool (rightS f ([] : List Signed) s))) rfl (fun _ _ => by kernel_rfl) (fun w' H' => (rRightS_any w' f cn (by omega) r124 none 0 ([] : List Signed) (H'.at 7 rfl) (H'.at 8 rfl) List.nodup_nil (by decide) s hs).mono fun _ _ h => ⟨h.1, H'.keepU h.2⟩) ?_
      refine q_val (wantsY 21 47 true rfl (by kernel_rfl) rfl (by kernel_rfl)) (d := 58) (v := (.bool ((rightS f ([]) s) == (rightS f ([] : List Signed) s)))) rfl (fun _ H' => (by kernel_rfl)) ?_
      refine q_val (wants0 rfl) (d := 59) (v := (.bool ((rightS f ([]) s) == (rightS f ([] : List Signed) s)))) rfl (fun _ H' => (by kernel_rfl)) ?_
      refine q_val (wants0 rfl) (d := 60) (v := (.bool ((rightS f ([]) s) == (rightS f ([] : List Signed) s)))) rfl (fun _ H' => (by kernel_rfl)) ?_
      have b142 : ((rightS f ([]) s) == (rightS f ([] : List Signed) s)) = true := by exact beq_self_eq_true _
      refine q_know 60 (.bool true) (congrArg Value.bool b142) ?_
      refine q_call (wantsY 34 60 true rfl (by kernel_rfl) rfl (by kernel_rfl)) (d := 61) (v := (.bool true)) rfl (fun _ _ => by kernel_rfl) (fun w' H' => (wakes_any w').mono fun _ _ h => ⟨h.1, H'.keepU h.2⟩) ?_
      refine q_val (wants0 rfl) (d := 62) (v := (.bool true)) rfl (fun _ H' => (by kernel_rfl)) ?_
      refine q_val (wants0 rfl) (d := 6) (v := (.bool true)) rfl (fun _ H' => (by kernel_rfl)) ?_
      refine q_end ?_
      intro w143 H144
      refine then_normal ?_
      refine w_ret ?_
      refine end1 rfl (res_tmp (v := (.bool true)) rfl) ?_
      exact ⟨rfl, H144.upd 0 rfl [] (fun _ h => h.elim)⟩

end Go.Proofs.Ytbpeofcoceaahaa
