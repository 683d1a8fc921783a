/- WHAT IS PROVED: the contract of an input's Cut. Conditions: stated with it. -/
import Derived.Test.YthjmbhneifjeeaaShort
import Derived.Test.YthjmbhneifjeeaaInputs14
namespace Go.Proofs.Ythjmbhneifjeeaa
open Go.RowKit

set_option maxRecDepth 100000 in
set_option maxHeartbeats 400000 in
theorem cutI_any (w : World) (x : InputD) (n : Int) (hn : n ≤ 1000000) :
  Calls Try.prog 24 #[(.agg ⟨(([(.int .i64 (x.doo)), (.int .i64 (x.kind)), (.int .i64 (x.round)), (.int .i64 (x.valid)), (.int .i64 (x.replica))] : List Value) ++ hc x.h ++ ([(.bool (x.ok)), (.bool (x.raw))] : List Value))⟩), (.int .i64 (n))] w fun e w' => e = .returned (.agg ⟨inL (cutI n x)⟩) ∧ Upd [] w w' := by
 have H := Sat.start0 w
 have hb1 := within_lim x.kind 3 (by omega)
 have hb2 := within_lim x.round 4 (by omega)
 have hb3 := within_lim x.valid 4 (by omega)
 refine calls_fr Try.func24 rfl 50 rfl (Nat.le_of_ble_eq_true rfl) ?_
 refine w_seq ?_
 refine w_lit ?_
 refine wl_do (wants0 rfl) (fun K1 hK1 => ?_)
 refine d_box (vs := (([(.int .i64 (x.doo)), (.int .i64 (x.kind)), (.int .i64 (x.round)), (.int .i64 (x.valid)), (.int .i64 (x.replica))] : List Value) ++ hc x.h ++ ([(.bool (x.ok)), (.bool (x.raw))] : List Value))) rfl H rfl rfl ?_
 intro b2 w3 (H4 : Sat w [restC w (fun _ => False), cellC b2 57 (([(.int .i64 (x.doo)), (.int .i64 (x.kind)), (.int .i64 (x.round)), (.int .i64 (x.valid)), (.int .i64 (x.replica))] : List Value) ++ hc x.h ++ ([(.bool (x.ok)), (.bool (x.raw))] : List Value))] w3)
 refine hK1 _ _ ?_
 clear hK1 K1
 refine wl_do (wants0 rfl) (fun K5 hK5 => ?_)
 refine d_alloc (zs := (([(.int .i64 (0)), (.int .i64 (0)), (.int .i64 (0)), (.int .i64 (0)), (.int .i64 (0))] : List Value) ++ hc hash0 ++ ([(.bool false), (.bool false)] : List Value))) (z := (.agg ⟨(([(.int .i64 (0)), (.int .i64 (0)), (.int .i64 (0)), (.int .i64 (0)), (.int .i64 (0))] : List Value) ++ hc hash0 ++ ([(.bool false), (.bool false)] : List Value))⟩)) rfl H4 (by kernel_rfl) (by kernel_rfl) ?_
 intro b6 w7 (H8 : Sat w [restC w (fun _ => False), cellC b2 57 (([(.int .i64 (x.doo)), (.int .i64 (x.kind)), (.int .i64 (x.round)), (.int .i64 (x.valid)), (.int .i64 (x.replica))] : List Value) ++ hc x.h ++ ([(.bool (x.ok)), (.bool (x.raw))] : List Value)), cellC b6 57 (([(.int .i64 (0)), (.int .i64 (0)), (.int .i64 (0)), (.int .i64 (0)), (.int .i64 (0))] : List Value) ++ hc hash0 ++ ([(.bool false), (.bool false)] : List Value))] w7)
 refine hK5 _ _ ?_
 clear hK5 K5
 refine w_nil ?_
 refine then_normal ?_
 iterate 2 refine w_seq ?_
 refine w_lit ?_
 refine wv 5 (pt b2 38) ?_
 refine wv 6 (.bool (x.raw)) ?_ (hr := e_load1 rfl (by kernel_rfl) (H8.cell 1 rfl (by kernel_rfl)))
 refine wv 7 (.bool (!(x.raw))) ?_
 refine w_nil ?_
 refine then_normal ?_
 refine (bsplit (!(x.raw))).elim (fun b9 => ?_) (fun b9 => ?_)
 ·have g10 := bnot_true b9
  refine wp_know 7 (.bool true) (congrArg Value.bool b9) ?_
  refine wp_ift rfl ?_
  refine w_seq ?_
  refine k_start H8 [restC w (fun _ => False), cellC b2 57 (([(.int .i64 (x.doo)), (.int .i64 (x.kind)), (.int .i64 (x.round)), (.int .i64 (x.valid)), (.int .i64 (x.replica))] : List Value) ++ hc x.h ++ ([(.bool (x.ok)), (.bool (x.raw))] : List Value)), cellC b6 57 (([(.int .i64 (0)), (.int .i64 (0)), (.int .i64 (0)), (.int .i64 (0)), (.int .i64 (0))] : List Value) ++ hc hash0 ++ ([(.bool false), (.bool false)] : List Value))] [21, 23, 25, 27, 29] 30 rfl (by kernel_rfl) (fun Hx => (Hx.pick [0, 1, 2] (by decide))) ?_
  intro w11 H12 S13
  refine k_pure 0 rfl (by kernel_rfl) (by kernel_rfl) (by kernel_rfl) (fun _ _ _ h => h) S13 (wants0 rfl) rfl (d := 8) (v := (pt b2 1)) rfl (fun _ => (by kernel_rfl)) ?_
  refine k_val 1 rfl (by kernel_rfl) (by kernel_rfl) (by kernel_rfl) (fun _ _ _ h => h) S13 (wants0 rfl) rfl (by kernel_rfl) (d := 9) (v := (.int .i64 (x.kind))) rfl (fun _ H' => (e_load1 rfl (by kernel_rfl) (H'.cell 1 rfl (by kernel_rfl)))) ?_
  refine k_pure 4 rfl (by kernel_rfl) (by kernel_rfl) (by kernel_rfl) (fun _ _ _ h => h) S13 (wants0 rfl) rfl (d := 12) (v := (pt b2 2)) rfl (fun _ => (by kernel_rfl)) ?_
  refine k_val 5 rfl (by kernel_rfl) (by kernel_rfl) (by kernel_rfl) (fun _ _ _ h => h) S13 (wants0 rfl) rfl (by kernel_rfl) (d := 13) (v := (.int .i64 (x.round))) rfl (fun _ H' => (e_load1 rfl (by kernel_rfl) (H'.cell 1 rfl (by kernel_rfl)))) ?_
  refine k_pure 7 rfl (by kernel_rfl) (by kernel_rfl) (by kernel_rfl) (fun _ _ _ h => h) S13 (wants0 rfl) rfl (d := 15) (v := (pt b2 3)) rfl (fun _ => (by kernel_rfl)) ?_
  refine k_val 8 rfl (by kernel_rfl) (by kernel_rfl) (by kernel_rfl) (fun _ _ _ h => h) S13 (wants0 rfl) rfl (by kernel_rfl) (d := 16) (v := (.int .i64 (x.valid))) rfl (fun _ H' => (e_load1 rfl (by kernel_rfl) (H'.cell 1 rfl (by kernel_rfl)))) ?_
  refine k_pure 11 rfl (by kernel_rfl) (by kernel_rfl) (by kernel_rfl) (fun _ _ _ h => h) S13 (wants0 rfl) rfl (d := 19) (v := (pt b2 4)) rfl (fun _ => (by kernel_rfl)) ?_
  refine k_val 12 rfl (by kernel_rfl) (by kernel_rfl) (by kernel_rfl) (fun _ _ _ h => h) S13 (wants0 rfl) rfl (by kernel_rfl) (d := 20) (v := (.int .i64 (x.replica))) rfl (fun _ H' => (e_load1 rfl (by kernel_rfl) (H'.cell 1 rfl (by kernel_rfl)))) ?_
  refine k_pure 13 rfl (by kernel_rfl) (by kernel_rfl) (by kernel_rfl) (fun _ _ _ h => h) S13 (wants0 rfl) rfl (d := 21) (v := (.int .i64 (n))) rfl (fun _ => (by kernel_rfl)) ?_
  refine k_pure 15 rfl (by kernel_rfl) (by kernel_rfl) (by kernel_rfl) (fun _ _ _ h => h) S13 (wants0 rfl) rfl (d := 23) (v := (pt b2 5)) rfl (fun _ => (by kernel_rfl)) ?_
  refine k_pure 16 rfl (by kernel_rfl) (by kernel_rfl) (by kernel_rfl) (fun _ _ _ h => h) S13 (wants0 rfl) rfl (d := 24) (v := (pt b2 5)) rfl (fun _ => (by kernel_rfl)) ?_
  refine k_val 17 rfl (by kernel_rfl) (by kernel_rfl) (by kernel_rfl) (fun _ _ _ h => h) S13 (wants0 rfl) rfl (by kernel_rfl) (d := 25) (v := (.int .u8 (((x.h.l.getD 0 0).toNat : Int)))) rfl (fun _ H' => (e_load1 rfl (by kernel_rfl) (H'.cell 1 rfl (by kernel_rfl)))) ?_
  refine k_pure 18 rfl (by kernel_rfl) (by kernel_rfl) (by kernel_rfl) (fun _ _ _ h => h) S13 (wants0 rfl) rfl (d := 26) (v := (.int .u8 ((((x.h.l.getD 0 0) % 3).toNat : Int)))) rfl (fun _ => (e_remU8 (x.h.l.getD 0 0) 3 (by kernel_rfl) (by decide))) ?_
  refine k_pure 19 rfl (by kernel_rfl) (by kernel_rfl) (by kernel_rfl) (fun _ _ _ h => h) S13 (wants0 rfl) rfl (d := 27) (v := (.agg ⟨(hc (hash1 ((x.h.l.getD 0 0) % 3)))⟩)) rfl (fun _ => (by kernel_rfl)) ?_
  refine k_do 2 rfl (by kernel_rfl) (wants0 rfl) rfl (fun K14 hK14 => ?_)
  refine d_call (d := 10) rfl (by kernel_rfl) (within_any w11 x.kind 3 (by omega)) ?_
  rintro _ w15 ⟨rfl, u17⟩
  have H16 := H12.keepU u17
  refine ⟨_, rfl, ?_⟩
  have S18 := H16.pick [0, 1, 2] (by decide)
  refine hK14 _ _ S18 ?_
  clear hK14 K14
  refine k_pure 3 rfl (by kernel_rfl) (by kernel_rfl) (by kernel_rfl) (fun _ _ _ h => h) S18 (wants0 rfl) rfl (d := 11) (v := (.int .i64 (1 + (withinV x.kind 3)))) rfl (fun _ => (e_int (z := 1 + (withinV x.kind 3)) (by kernel_rfl) (IntWalk.i64_in _ (by omega)))) ?_
  refine k_pure 20 rfl (by kernel_rfl) (by kernel_rfl) (by kernel_rfl) (fun _ _ _ h => h) S18 (wants0 rfl) rfl (d := 28) (v := (pt b2 1)) rfl (fun _ => (by kernel_rfl)) ?_
  refine k_do 6 rfl (by kernel_rfl) (wants0 rfl) rfl (fun K19 hK19 => ?_)
  refine d_call (d := 14) rfl (by kernel_rfl) (within_any w15 x.round 4 (by omega)) ?_
  rintro _ w20 ⟨rfl, u22⟩
  have H21 := H16.keepU u22
  refine ⟨_, rfl, ?_⟩
  have S23 := H21.pick [0, 1, 2] (by decide)
  refine hK19 _ _ S23 ?_
  clear hK19 K19
  refine k_do 9 rfl (by kernel_rfl) (wants0 rfl) rfl (fun K24 hK24 => ?_)
  refine d_call (d := 17) rfl (by kernel_rfl) (within_any w20 x.valid 4 (by omega)) ?_
  rintro _ w25 ⟨rfl, u27⟩
  have H26 := H21.keepU u27
  refine ⟨_, rfl, ?_⟩
  have S28 := H26.pick [0, 1, 2] (by decide)
  refine hK24 _ _ S28 ?_
  clear hK24 K24
  refine k_pure 10 rfl (by kernel_rfl) (by kernel_rfl) (by kernel_rfl) (fun _ _ _ h => h) S28 (wants0 rfl) rfl (d := 18) (v := (.int .i64 ((withinV x.valid 4) - 1))) rfl (fun _ => (e_int (z := (withinV x.valid 4) - 1) (by kernel_rfl) (IntWalk.i64_in _ (by omega)))) ?_
  refine k_do 14 rfl (by kernel_rfl) (wants0 rfl) rfl (fun K29 hK29 => ?_)
  refine d_call (d := 22) rfl (by kernel_rfl) (within_any w25 x.replica n (by omega)) ?_
  rintro _ w30 ⟨rfl, u32⟩
  have H31 := H26.keepU u32
  refine ⟨_, rfl, ?_⟩
  have S33 := H31.pick [0, 1, 2] (by decide)
  refine hK29 _ _ S33 ?_
  clear hK29 K29
  refine k_brk 21 (Sat w [restC w (fun _ => False), cellC b6 57 (([(.int .i64 (0)), (.int .i64 (0)), (.int .i64 (0)), (.int .i64 (0)), (.int .i64 (0))] : List Value) ++ hc hash0 ++ ([(.bool false), (.bool false)] : List Value))]) rfl (by kernel_rfl) (wants0 rfl) rfl (fun K34 hK34 => ?_)
  refine d_storeX (vs := ([(.int .i64 (1 + (withinV x.kind 3)))] : List Value)) (cs' := (([(.int .i64 (x.doo)), (.int .i64 (1 + (withinV x.kind 3))), (.int .i64 (x.round)), (.int .i64 (x.valid)), (.int .i64 (x.replica))] : List Value) ++ hc x.h ++ ([(.bool (x.ok)), (.bool (x.raw))] : List Value))) rfl H31 1 rfl rfl rfl rfl (by kernel_rfl) (Nat.le_of_ble_eq_true (by kernel_rfl)) (Nat.le_of_ble_eq_true (by kernel_rfl)) (by kernel_rfl) (by kernel_rfl) ?_
  intro w35 (H36 : Sat w [restC w (fun _ => False), cellC b2 57 (([(.int .i64 (x.doo)), (.int .i64 (1 + (withinV x.kind 3))), (.int .i64 (x.round)), (.int .i64 (x.valid)), (.int .i64 (x.replica))] : List Value) ++ hc x.h ++ ([(.bool (x.ok)), (.bool (x.raw))] : List Value)), cellC b6 57 (([(.int .i64 (0)), (.int .i64 (0)), (.int .i64 (0)), (.int .i64 (0)), (.int .i64 (0))] : List Value) ++ hc hash0 ++ ([(.bool false), (.bool false)] : List Value))] w35)
  have S38 := H36.pick [0, 2] (by decide)
  refine hK34 _ _ S38 ?_
  clear hK34 K34
  refine hv0 22 S38 29 (pt b2 2) ?_
  refine h_do 23 rfl (by kernel_rfl) (wants0 rfl) (fun K39 hK39 => ?_)
  refine d_storeX (vs := ([(.int .i64 (withinV x.round 4))] : List Value)) (cs' := (([(.int .i64 (x.doo)), (.int .i64 (1 + (withinV x.kind 3))), (.int .i64 (withinV x.round 4)), (.int .i64 (x.valid)), (.int .i64 (x.replica))] : List Value) ++ hc x.h ++ ([(.bool (x.ok)), (.bool (x.raw))] : List Value))) rfl H36 1 rfl rfl rfl rfl (by kernel_rfl) (Nat.le_of_ble_eq_true (by kernel_rfl)) (Nat.le_of_ble_eq_true (by kernel_rfl)) (by kernel_rfl) (by kernel_rfl) ?_
  intro w40 (H41 : Sat w [restC w (fun _ => False), cellC b2 57 (([(.int .i64 (x.doo)), (.int .i64 (1 + (withinV x.kind 3))), (.int .i64 (withinV x.round 4)), (.int .i64 (x.valid)), (.int .i64 (x.replica))] : List Value) ++ hc x.h ++ ([(.bool (x.ok)), (.bool (x.raw))] : List Value)), cellC b6 57 (([(.int .i64 (0)), (.int .i64 (0)), (.int .i64 (0)), (.int .i64 (0)), (.int .i64 (0))] : List Value) ++ hc hash0 ++ ([(.bool false), (.bool false)] : List Value))] w40)
  have S43 := H41.pick [0, 2] (by decide)
  refine hK39 _ _ S43 ?_
  clear hK39 K39
  refine hv0 24 S43 30 (pt b2 3) ?_
  refine h_do 25 rfl (by kernel_rfl) (wants0 rfl) (fun K44 hK44 => ?_)
  refine d_storeX (vs := ([(.int .i64 ((withinV x.valid 4) - 1))] : List Value)) (cs' := (([(.int .i64 (x.doo)), (.int .i64 (1 + (withinV x.kind 3))), (.int .i64 (withinV x.round 4)), (.int .i64 ((withinV x.valid 4) - 1)), (.int .i64 (x.replica))] : List Value) ++ hc x.h ++ ([(.bool (x.ok)), (.bool (x.raw))] : List Value))) rfl H41 1 rfl rfl rfl rfl (by kernel_rfl) (Nat.le_of_ble_eq_true (by kernel_rfl)) (Nat.le_of_ble_eq_true (by kernel_rfl)) (by kernel_rfl) (by kernel_rfl) ?_
  intro w45 (H46 : Sat w [restC w (fun _ => False), cellC b2 57 (([(.int .i64 (x.doo)), (.int .i64 (1 + (withinV x.kind 3))), (.int .i64 (withinV x.round 4)), (.int .i64 ((withinV x.valid 4) - 1)), (.int .i64 (x.replica))] : List Value) ++ hc x.h ++ ([(.bool (x.ok)), (.bool (x.raw))] : List Value)), cellC b6 57 (([(.int .i64 (0)), (.int .i64 (0)), (.int .i64 (0)), (.int .i64 (0)), (.int .i64 (0))] : List Value) ++ hc hash0 ++ ([(.bool false), (.bool false)] : List Value))] w45)
  have S48 := H46.pick [0, 2] (by decide)
  refine hK44 _ _ S48 ?_
  clear hK44 K44
  refine hv0 26 S48 31 (pt b2 4) ?_
  refine h_do 27 rfl (by kernel_rfl) (wants0 rfl) (fun K49 hK49 => ?_)
  refine d_storeX (vs := ([(.int .i64 (withinV x.replica n))] : List Value)) (cs' := (([(.int .i64 (x.doo)), (.int .i64 (1 + (withinV x.kind 3))), (.int .i64 (withinV x.round 4)), (.int .i64 ((withinV x.valid 4) - 1)), (.int .i64 (withinV x.replica n))] : List Value) ++ hc x.h ++ ([(.bool (x.ok)), (.bool (x.raw))] : List Value))) rfl H46 1 rfl rfl rfl rfl (by kernel_rfl) (Nat.le_of_ble_eq_true (by kernel_rfl)) (Nat.le_of_ble_eq_true (by kernel_rfl)) (by kernel_rfl) (by kernel_rfl) ?_
  intro w50 (H51 : Sat w [restC w (fun _ => False), cellC b2 57 (([(.int .i64 (x.doo)), (.int .i64 (1 + (withinV x.kind 3))), (.int .i64 (withinV x.round 4)), (.int .i64 ((withinV x.valid 4) - 1)), (.int .i64 (withinV x.replica n))] : List Value) ++ hc x.h ++ ([(.bool (x.ok)), (.bool (x.raw))] : List Value)), cellC b6 57 (([(.int .i64 (0)), (.int .i64 (0)), (.int .i64 (0)), (.int .i64 (0)), (.int .i64 (0))] : List Value) ++ hc hash0 ++ ([(.bool false), (.bool false)] : List Value))] w50)
  have S53 := H51.pick [0, 2] (by decide)
  refine hK49 _ _ S53 ?_
  clear hK49 K49
  refine hv0 28 S53 32 (pt b2 5) ?_
  refine h_do 29 rfl (by kernel_rfl) (wants0 rfl) (fun K54 hK54 => ?_)
  refine d_storeX (vs := (hc (hash1 ((x.h.l.getD 0 0) % 3)))) (cs' := (([(.int .i64 (x.doo)), (.int .i64 (1 + (withinV x.kind 3))), (.int .i64 (withinV x.round 4)), (.int .i64 ((withinV x.valid 4) - 1)), (.int .i64 (withinV x.replica n))] : List Value) ++ hc (hash1 ((x.h.l.getD 0 0) % 3)) ++ ([(.bool (x.ok)), (.bool (x.raw))] : List Value))) rfl H51 1 rfl rfl rfl rfl (by kernel_rfl) (Nat.le_of_ble_eq_true (by kernel_rfl)) (Nat.le_of_ble_eq_true (by kernel_rfl)) (by kernel_rfl) (by kernel_rfl) ?_
  intro w55 (H56 : Sat w [restC w (fun _ => False), cellC b2 57 (([(.int .i64 (x.doo)), (.int .i64 (1 + (withinV x.kind 3))), (.int .i64 (withinV x.round 4)), (.int .i64 ((withinV x.valid 4) - 1)), (.int .i64 (withinV x.replica n))] : List Value) ++ hc (hash1 ((x.h.l.getD 0 0) % 3)) ++ ([(.bool (x.ok)), (.bool (x.raw))] : List Value)), cellC b6 57 (([(.int .i64 (0)), (.int .i64 (0)), (.int .i64 (0)), (.int .i64 (0)), (.int .i64 (0))] : List Value) ++ hc hash0 ++ ([(.bool false), (.bool false)] : List Value))] w55)
  have S58 := H56.pick [0, 2] (by decide)
  refine hK54 _ _ S58 ?_
  clear hK54 K54
  refine h_fin (by kernel_rfl) ?_
  refine then_normal ?_
  refine wp_meetR [33, 34, 35, 36, 37, 38, 39, 40, 41, 42, 43, 44, 45, 46, 47] (fun G_ W_ => G_ 47 = (.bool (isVote x && decide (1 + withinV x.kind 3 = 3))) ∧ Sat w [restC w (fun _ => False), cellC b2 57 (([(.int .i64 (x.doo)), (.int .i64 (1 + (withinV x.kind 3))), (.int .i64 (withinV x.round 4)), (.int .i64 ((withinV x.valid 4) - 1)), (.int .i64 (withinV x.replica n))] : List Value) ++ hc (hash1 ((x.h.l.getD 0 0) % 3)) ++ ([(.bool (x.ok)), (.bool (x.raw))] : List Value)), cellC b6 57 (([(.int .i64 (0)), (.int .i64 (0)), (.int .i64 (0)), (.int .i64 (0)), (.int .i64 (0))] : List Value) ++ hc hash0 ++ ([(.bool false), (.bool false)] : List Value))] W_) ?_ ?_
  ·refine w_lit ?_
   refine wv 33 (pt b2 0) ?_
   refine wv 34 (.int .i64 (x.doo)) ?_ (hr := e_load1 rfl (by kernel_rfl) (H56.cell 1 rfl rfl))
   refine wl_do (wants0 rfl) (fun K60 hK60 => ?_)
   refine d_call (d := 35) rfl (by kernel_rfl) (within_any w55 x.doo 8 (by omega)) ?_
   rintro _ w61 ⟨rfl, u63⟩
   have H62 := H56.keepU u63
   refine ⟨_, rfl, ?_⟩
   refine hK60 _ _ ?_
   clear hK60 K60
   refine wv 36 (.bool (decide ((withinV x.doo 8) ≥ 2))) ?_
   refine wv 37 (.bool (decide ((withinV x.doo 8) ≥ 2))) ?_
   refine (bsplit (decide ((withinV x.doo 8) ≥ 2))).elim (fun b64 => ?_) (fun b64 => ?_)
   ·have g65 := of_decide_eq_true b64
    refine wl_know 37 (.bool true) (congrArg Value.bool b64) ?_
    refine wy 4 37 true 38 (pt b2 0) ?_
    refine wy 4 37 true 39 (.int .i64 (x.doo)) ?_ (hr := e_load1 rfl (by kernel_rfl) (H62.cell 1 rfl rfl))
    refine wl_do (wantsY 4 37 true rfl (by kernel_rfl) rfl (by kernel_rfl)) (fun K66 hK66 => ?_)
    refine d_call (d := 40) rfl (by kernel_rfl) (within_any w61 x.doo 8 (by omega)) ?_
    rintro _ w67 ⟨rfl, u69⟩
    have H68 := H62.keepU u69
    refine ⟨_, rfl, ?_⟩
    refine hK66 _ _ ?_
    clear hK66 K66
    refine wy 4 37 true 41 (.bool (decide ((withinV x.doo 8) ≤ 5))) ?_
    refine wv 42 (.bool (decide ((withinV x.doo 8) ≤ 5))) ?_
    refine wv 43 (.bool (decide ((withinV x.doo 8) ≤ 5))) ?_
    refine (bsplit (decide ((withinV x.doo 8) ≤ 5))).elim (fun b70 => ?_) (fun b70 => ?_)
    ·have g71 := of_decide_eq_true b70
     refine wl_know 43 (.bool true) (congrArg Value.bool b70) ?_
     refine wy 10 43 true 44 (pt b2 1) ?_
     refine wy 10 43 true 45 (.int .i64 (1 + (withinV x.kind 3))) ?_ (hr := e_load1 rfl (by kernel_rfl) (H68.cell 1 rfl rfl))
     refine wy 10 43 true 46 (.bool (decide ((1 + (withinV x.kind 3)) = 3))) ?_
     refine wv 47 (.bool (decide ((1 + (withinV x.kind 3)) = 3))) ?_
     refine w_nil ?_
     refine meetR_at ?_ ⟨(congrArg Value.bool (show (decide ((1 + (withinV x.kind 3)) = 3)) = (isVote x && decide (1 + withinV x.kind 3 = 3)) by simp [isVote, of_decide_eq_true b64, of_decide_eq_true b70] <;> omega)), H68⟩
     exact (same_upd rfl (same_upd rfl (same_upd rfl (same_upd rfl (same_upd rfl (same_upd rfl (same_upd rfl (same_upd rfl (same_upd rfl (same_upd rfl (same_upd rfl (same_upd rfl (same_upd rfl (same_upd rfl (same_upd rfl (same_upd rfl (same_upd rfl (same_refl))))))))))))))))))
    ·have g72 := of_decide_eq_false b70
     refine wl_know 43 (.bool false) (congrArg Value.bool b70) ?_
     iterate 3 refine wn 10 43 true ?_
     refine wv 47 (.bool false) ?_
     refine w_nil ?_
     refine meetR_at ?_ ⟨(congrArg Value.bool (show false = (isVote x && decide (1 + withinV x.kind 3 = 3)) by simp [isVote, of_decide_eq_true b64, of_decide_eq_false b70] <;> omega)), H68⟩
     exact (same_upd rfl (same_upd rfl (same_upd rfl (same_upd rfl (same_upd rfl (same_upd rfl (same_upd rfl (same_upd rfl (same_upd rfl (same_upd rfl (same_upd rfl (same_upd rfl (same_upd rfl (same_upd rfl (same_upd rfl (same_upd rfl (same_upd rfl (same_refl))))))))))))))))))
   ·have g73 := of_decide_eq_false b64
    refine wl_know 37 (.bool false) (congrArg Value.bool b64) ?_
    iterate 4 refine wn 4 37 true ?_
    refine wv 42 (.bool false) ?_
    refine wv 43 (.bool false) ?_
    iterate 3 refine wn 10 43 true ?_
    refine wv 47 (.bool false) ?_
    refine w_nil ?_
    refine meetR_at ?_ ⟨(congrArg Value.bool (show false = (isVote x && decide (1 + withinV x.kind 3 = 3)) by simp [isVote, of_decide_eq_false b64] <;> omega)), H62⟩
    exact (same_upd rfl (same_upd rfl (same_upd rfl (same_upd rfl (same_upd rfl (same_upd rfl (same_upd rfl (same_upd rfl (same_upd rfl (same_upd rfl (same_upd rfl (same_upd rfl (same_upd rfl (same_upd rfl (same_upd rfl (same_upd rfl (same_refl)))))))))))))))))
  ·rintro f74 w75 ⟨v77, H76⟩
   refine wp_know 47 _ v77 ?_
   refine (bsplit (isVote x && decide (1 + withinV x.kind 3 = 3))).elim (fun b78 => ?_) (fun b78 => ?_)
   ·refine wp_know 47 (.bool true) (congrArg Value.bool b78) ?_
    refine wp_ift rfl ?_
    refine w_lit ?_
    refine wv 48 (pt b2 1) ?_
    refine wl_do (wants0 rfl) (fun K79 hK79 => ?_)
    refine d_storeX (vs := ([(.int .i64 (1))] : List Value)) (cs' := (([(.int .i64 (x.doo)), (.int .i64 (1)), (.int .i64 (withinV x.round 4)), (.int .i64 ((withinV x.valid 4) - 1)), (.int .i64 (withinV x.replica n))] : List Value) ++ hc (hash1 ((x.h.l.getD 0 0) % 3)) ++ ([(.bool (x.ok)), (.bool (x.raw))] : List Value))) rfl H76 1 rfl rfl rfl rfl (by kernel_rfl) (Nat.le_of_ble_eq_true (by kernel_rfl)) (Nat.le_of_ble_eq_true (by kernel_rfl)) (by kernel_rfl) (by kernel_rfl) ?_
    intro w80 (H81 : Sat w [restC w (fun _ => False), cellC b2 57 (([(.int .i64 (x.doo)), (.int .i64 (1)), (.int .i64 (withinV x.round 4)), (.int .i64 ((withinV x.valid 4) - 1)), (.int .i64 (withinV x.replica n))] : List Value) ++ hc (hash1 ((x.h.l.getD 0 0) % 3)) ++ ([(.bool (x.ok)), (.bool (x.raw))] : List Value)), cellC b6 57 (([(.int .i64 (0)), (.int .i64 (0)), (.int .i64 (0)), (.int .i64 (0)), (.int .i64 (0))] : List Value) ++ hc hash0 ++ ([(.bool false), (.bool false)] : List Value))] w80)
    refine hK79 _ _ ?_
    clear hK79 K79
    refine w_nil ?_
    refine then_normal ?_
    refine w_seq ?_
    refine w_lit ?_
    refine wv 49 (.agg ⟨(([(.int .i64 (x.doo)), (.int .i64 (1)), (.int .i64 (withinV x.round 4)), (.int .i64 ((withinV x.valid 4) - 1)), (.int .i64 (withinV x.replica n))] : List Value) ++ hc (hash1 ((x.h.l.getD 0 0) % 3)) ++ ([(.bool (x.ok)), (.bool (x.raw))] : List Value))⟩) ?_ (hr := e_loadN (vs := (([(.int .i64 (x.doo)), (.int .i64 (1)), (.int .i64 (withinV x.round 4)), (.int .i64 ((withinV x.valid 4) - 1)), (.int .i64 (withinV x.replica n))] : List Value) ++ hc (hash1 ((x.h.l.getD 0 0) % 3)) ++ ([(.bool (x.ok)), (.bool (x.raw))] : List Value))) rfl (by kernel_rfl) (by kernel_rfl) (by exact Nat.le_of_ble_eq_true (by kernel_rfl)) (H81.at 1 rfl) (by kernel_rfl))
    refine wl_do (wants0 rfl) (fun K83 hK83 => ?_)
    refine d_storeX (vs := (([(.int .i64 (x.doo)), (.int .i64 (1)), (.int .i64 (withinV x.round 4)), (.int .i64 ((withinV x.valid 4) - 1)), (.int .i64 (withinV x.replica n))] : List Value) ++ hc (hash1 ((x.h.l.getD 0 0) % 3)) ++ ([(.bool (x.ok)), (.bool (x.raw))] : List Value))) (cs' := (([(.int .i64 (x.doo)), (.int .i64 (1)), (.int .i64 (withinV x.round 4)), (.int .i64 ((withinV x.valid 4) - 1)), (.int .i64 (withinV x.replica n))] : List Value) ++ hc (hash1 ((x.h.l.getD 0 0) % 3)) ++ ([(.bool (x.ok)), (.bool (x.raw))] : List Value))) rfl H81 2 rfl rfl rfl rfl (by kernel_rfl) (Nat.le_of_ble_eq_true (by kernel_rfl)) (Nat.le_of_ble_eq_true (by kernel_rfl)) (by kernel_rfl) (by kernel_rfl) ?_
    intro w84 (H85 : Sat w [restC w (fun _ => False), cellC b2 57 (([(.int .i64 (x.doo)), (.int .i64 (1)), (.int .i64 (withinV x.round 4)), (.int .i64 ((withinV x.valid 4) - 1)), (.int .i64 (withinV x.replica n))] : List Value) ++ hc (hash1 ((x.h.l.getD 0 0) % 3)) ++ ([(.bool (x.ok)), (.bool (x.raw))] : List Value)), cellC b6 57 (([(.int .i64 (x.doo)), (.int .i64 (1)), (.int .i64 (withinV x.round 4)), (.int .i64 ((withinV x.valid 4) - 1)), (.int .i64 (withinV x.replica n))] : List Value) ++ hc (hash1 ((x.h.l.getD 0 0) % 3)) ++ ([(.bool (x.ok)), (.bool (x.raw))] : List Value))] w84)
    refine hK83 _ _ ?_
    clear hK83 K83
    refine w_nil ?_
    refine then_normal ?_
    refine w_ret ?_
    refine end1 rfl (res_cellN (vs := (([(.int .i64 (x.doo)), (.int .i64 (1)), (.int .i64 (withinV x.round 4)), (.int .i64 ((withinV x.valid 4) - 1)), (.int .i64 (withinV x.replica n))] : List Value) ++ hc (hash1 ((x.h.l.getD 0 0) % 3)) ++ ([(.bool (x.ok)), (.bool (x.raw))] : List Value))) rfl (by kernel_rfl) (by kernel_rfl) (by exact Nat.le_of_ble_eq_true (by kernel_rfl)) (H85.at 2 rfl) (by kernel_rfl)) ?_
    exact ⟨by unfold cutI; rw [if_neg (by rw [bnot_true b9]; simp), if_pos b78]; rfl, H85.upd 0 rfl [] (fun _ h => h.elim)⟩
   ·refine wp_know 47 (.bool false) (congrArg Value.bool b78) ?_
    refine wp_iff rfl ?_
    refine w_skip ?_
    refine then_normal ?_
    refine w_seq ?_
    refine w_lit ?_
    refine wv 49 (.agg ⟨(([(.int .i64 (x.doo)), (.int .i64 (1 + (withinV x.kind 3))), (.int .i64 (withinV x.round 4)), (.int .i64 ((withinV x.valid 4) - 1)), (.int .i64 (withinV x.replica n))] : List Value) ++ hc (hash1 ((x.h.l.getD 0 0) % 3)) ++ ([(.bool (x.ok)), (.bool (x.raw))] : List Value))⟩) ?_ (hr := e_loadN (vs := (([(.int .i64 (x.doo)), (.int .i64 (1 + (withinV x.kind 3))), (.int .i64 (withinV x.round 4)), (.int .i64 ((withinV x.valid 4) - 1)), (.int .i64 (withinV x.replica n))] : List Value) ++ hc (hash1 ((x.h.l.getD 0 0) % 3)) ++ ([(.bool (x.ok)), (.bool (x.raw))] : List Value))) rfl (by kernel_rfl) (by kernel_rfl) (by exact Nat.le_of_ble_eq_true (by kernel_rfl)) (H76.at 1 rfl) (by kernel_rfl))
    refine wl_do (wants0 rfl) (fun K87 hK87 => ?_)
    refine d_storeX (vs := (([(.int .i64 (x.doo)), (.int .i64 (1 + (withinV x.kind 3))), (.int .i64 (withinV x.round 4)), (.int .i64 ((withinV x.valid 4) - 1)), (.int .i64 (withinV x.replica n))] : List Value) ++ hc (hash1 ((x.h.l.getD 0 0) % 3)) ++ ([(.bool (x.ok)), (.bool (x.raw))] : List Value))) (cs' := (([(.int .i64 (x.doo)), (.int .i64 (1 + (withinV x.kind 3))), (.int .i64 (withinV x.round 4)), (.int .i64 ((withinV x.valid 4) - 1)), (.int .i64 (withinV x.replica n))] : List Value) ++ hc (hash1 ((x.h.l.getD 0 0) % 3)) ++ ([(.bool (x.ok)), (.bool (x.raw))] : List Value))) rfl H76 2 rfl rfl rfl rfl (by kernel_rfl) (Nat.le_of_ble_eq_true (by kernel_rfl)) (Nat.le_of_ble_eq_true (by kernel_rfl)) (by kernel_rfl) (by kernel_rfl) ?_
    intro w88 (H89 : Sat w [restC w (fun _ => False), cellC b2 57 (([(.int .i64 (x.doo)), (.int .i64 (1 + (withinV x.kind 3))), (.int .i64 (withinV x.round 4)), (.int .i64 ((withinV x.valid 4) - 1)), (.int .i64 (withinV x.replica n))] : List Value) ++ hc (hash1 ((x.h.l.getD 0 0) % 3)) ++ ([(.bool (x.ok)), (.bool (x.raw))] : List Value)), cellC b6 57 (([(.int .i64 (x.doo)), (.int .i64 (1 + (withinV x.kind 3))), (.int .i64 (withinV x.round 4)), (.int .i64 ((withinV x.valid 4) - 1)), (.int .i64 (withinV x.replica n))] : List Value) ++ hc (hash1 ((x.h.l.getD 0 0) % 3)) ++ ([(.bool (x.ok)), (.bool (x.raw))] : List Value))] w88)
    refine hK87 _ _ ?_
    clear hK87 K87
    refine w_nil ?_
    refine then_normal ?_
    refine w_ret ?_
    refine end1 rfl (res_cellN (vs := (([(.int .i64 (x.doo)), (.int .i64 (1 + (withinV x.kind 3))), (.int .i64 (withinV x.round 4)), (.int .i64 ((withinV x.valid 4) - 1)), (.int .i64 (withinV x.replica n))] : List Value) ++ hc (hash1 ((x.h.l.getD 0 0) % 3)) ++ ([(.bool (x.ok)), (.bool (x.raw))] : List Value))) rfl (by kernel_rfl) (by kernel_rfl) (by exact Nat.le_of_ble_eq_true (by kernel_rfl)) (H89.at 2 rfl) (by kernel_rfl)) ?_
    exact ⟨by unfold cutI; rw [if_neg (by rw [bnot_true b9]; simp), if_neg (by rw [b78]; simp)]; rfl, H89.upd 0 rfl [] (fun _ h => h.elim)⟩
 ·have g91 := bnot_false b9
  refine wp_know 7 (.bool false) (congrArg Value.bool b9) ?_
  refine wp_iff rfl ?_
  refine w_skip ?_
  refine then_normal ?_
  refine w_seq ?_
  refine w_lit ?_
  refine wv 49 (.agg ⟨(([(.int .i64 (x.doo)), (.int .i64 (x.kind)), (.int .i64 (x.round)), (.int .i64 (x.valid)), (.int .i64 (x.replica))] : List Value) ++ hc x.h ++ ([(.bool (x.ok)), (.bool (x.raw))] : List Value))⟩) ?_ (hr := e_loadN (vs := (([(.int .i64 (x.doo)), (.int .i64 (x.kind)), (.int .i64 (x.round)), (.int .i64 (x.valid)), (.int .i64 (x.replica))] : List Value) ++ hc x.h ++ ([(.bool (x.ok)), (.bool (x.raw))] : List Value))) rfl (by kernel_rfl) (by kernel_rfl) (by exact Nat.le_of_ble_eq_true (by kernel_rfl)) (H8.at 1 rfl) (by kernel_rfl))
  refine wl_do (wants0 rfl) (fun K92 hK92 => ?_)
  refine d_storeX (vs := (([(.int .i64 (x.doo)), (.int .i64 (x.kind)), (.int .i64 (x.round)), (.int .i64 (x.valid)), (.int .i64 (x.replica))] : List Value) ++ hc x.h ++ ([(.bool (x.ok)), (.bool (x.raw))] : List Value))) (cs' := (([(.int .i64 (x.doo)), (.int .i64 (x.kind)), (.int .i64 (x.round)), (.int .i64 (x.valid)), (.int .i64 (x.replica))] : List Value) ++ hc x.h ++ ([(.bool (x.ok)), (.bool (x.raw))] : List Value))) rfl H8 2 rfl rfl rfl rfl (by kernel_rfl) (Nat.le_of_ble_eq_true (by kernel_rfl)) (Nat.le_of_ble_eq_true (by kernel_rfl)) (by kernel_rfl) (by kernel_rfl) ?_
  intro w93 (H94 : Sat w [restC w (fun _ => False), cellC b2 57 (([(.int .i64 (x.doo)), (.int .i64 (x.kind)), (.int .i64 (x.round)), (.int .i64 (x.valid)), (.int .i64 (x.replica))] : List Value) ++ hc x.h ++ ([(.bool (x.ok)), (.bool (x.raw))] : List Value)), cellC b6 57 (([(.int .i64 (x.doo)), (.int .i64 (x.kind)), (.int .i64 (x.round)), (.int .i64 (x.valid)), (.int .i64 (x.replica))] : List Value) ++ hc x.h ++ ([(.bool (x.ok)), (.bool (x.raw))] : List Value))] w93)
  refine hK92 _ _ ?_
  clear hK92 K92
  refine w_nil ?_
  refine then_normal ?_
  refine w_ret ?_
  refine end1 rfl (res_cellN (vs := (([(.int .i64 (x.doo)), (.int .i64 (x.kind)), (.int .i64 (x.round)), (.int .i64 (x.valid)), (.int .i64 (x.replica))] : List Value) ++ hc x.h ++ ([(.bool (x.ok)), (.bool (x.raw))] : List Value))) rfl (by kernel_rfl) (by kernel_rfl) (by exact Nat.le_of_ble_eq_true (by kernel_rfl)) (H94.at 2 rfl) (by kernel_rfl)) ?_
  exact ⟨by unfold cutI; rw [if_pos (bnot_false b9)]; rfl, H94.upd 0 rfl [] (fun _ h => h.elim)⟩

end Go.Proofs.Ythjmbhneifjeeaa
