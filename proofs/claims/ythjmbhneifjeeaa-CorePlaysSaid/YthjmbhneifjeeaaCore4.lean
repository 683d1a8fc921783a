/- WHAT IS PROVED: the contracts of making a core, and of its clone. Conditions: stated with each. -/
import Derived.Test.YthjmbhneifjeeaaShort
import Derived.Test.YthjmbhneifjeeaaCore3
import Derived.Test.YthjmbhneifjeeaaClone13
namespace Go.Proofs.Ythjmbhneifjeeaa
open Go.RowKit

set_option maxRecDepth 100000 in
set_option maxHeartbeats 400000 in
theorem coreNew_any (w : World) (f c ep r : Int) (hff : -1000000 ≤ f ∧ f ≤ 1000000) :
  Calls Try.prog 15 #[(.agg ⟨([(.int .i64 (f)), (.int .i64 (c))] : List Value)⟩), (.int .i64 (ep)), (.int .i64 (r))] w fun e w' => (newOk f c ep r = true ∧ ∃ k t hb cb ab lb pb, e = .returned (.tuple #[.pointer (some ⟨k, 0, none⟩), .int .i64 0]) ∧ (coreC k t hb cb ab lb pb (newD f c ep r)).ok w' ∧ Upd [] w w' ∧ ∀ b, (coreC k t hb cb ab lb pb (newD f c ep r)).fp b → w.heap.size ≤ b) ∨ (newOk f c ep r = false ∧ e = .returned (.tuple #[.pointer none, .int .i64 1]) ∧ Upd [] w w') := by
 have H := Sat.start0 w
 refine calls_fr Try.func15 rfl 40 rfl (Nat.le_of_ble_eq_true rfl) ?_
 refine w_seq ?_
 refine w_lit ?_
 refine wl_do (wants0 rfl) (fun K1 hK1 => ?_)
 refine d_box (vs := ([(.int .i64 (f)), (.int .i64 (c))] : List Value)) rfl H rfl rfl ?_
 intro b2 w3 (H4 : Sat w [restC w (fun _ => False), cellC b2 25 ([(.int .i64 (f)), (.int .i64 (c))] : List Value)] w3)
 refine hK1 _ _ ?_
 clear hK1 K1
 refine wv 6 (.pointer none) ?_
 refine wv 7 (.int .i64 (0)) ?_
 refine w_nil ?_
 refine then_normal ?_
 refine w_seq ?_
 refine wp_meetR [10, 11, 12, 13, 14, 15, 16, 17, 18, 19, 20, 21, 22, 23, 24, 25, 26] (fun G_ W_ => G_ 26 = (.bool (!(newOk f c ep r))) ∧ Sat w [restC w (fun _ => False), cellC b2 25 ([(.int .i64 (f)), (.int .i64 (c))] : List Value)] W_) ?_ ?_
 ·refine w_lit ?_
  refine wv 10 (.agg ⟨([(.int .i64 (f)), (.int .i64 (c))] : List Value)⟩) ?_ (hr := e_loadN (vs := ([(.int .i64 (f)), (.int .i64 (c))] : List Value)) rfl (by kernel_rfl) (by kernel_rfl) (by exact Nat.le_of_ble_eq_true (by kernel_rfl)) (H4.at 1 rfl) (by kernel_rfl))
  refine wl_do (wants0 rfl) (fun K6 hK6 => ?_)
  refine d_call (d := 11) rfl (by kernel_rfl) (validConf_any w3 f c) ?_
  rintro _ w7 ⟨rfl, u9⟩
  have H8 := H4.keepU u9
  refine ⟨_, rfl, ?_⟩
  refine hK6 _ _ ?_
  clear hK6 K6
  refine wv 12 (.bool (!(confB f c))) ?_
  refine wv 13 (.bool (!(confB f c))) ?_
  refine (bsplit (!(confB f c))).elim (fun b10 => ?_) (fun b10 => ?_)
  ·have g11 := bnot_true b10
   refine wl_know 13 (.bool true) (congrArg Value.bool b10) ?_
   iterate 2 refine wn 3 13 false ?_
   refine wv 16 (.bool true) ?_
   refine wv 17 (.bool true) ?_
   iterate 2 refine wn 7 17 false ?_
   refine wv 20 (.bool true) ?_
   refine wv 21 (.bool true) ?_
   iterate 4 refine wn 11 21 false ?_
   refine wv 26 (.bool true) ?_
   refine w_nil ?_
   refine meetR_at ?_ ⟨(congrArg Value.bool (show true = (!(newOk f c ep r)) by simp [newOk, b10] <;> omega)), H8⟩
   exact (same_upd rfl (same_upd rfl (same_upd rfl (same_upd rfl (same_upd rfl (same_upd rfl (same_upd rfl (same_upd rfl (same_upd rfl (same_upd rfl (same_upd rfl (same_upd rfl (same_upd rfl (same_upd rfl (same_upd rfl (same_upd rfl (same_upd rfl (same_upd rfl (same_refl)))))))))))))))))))
  ·have g12 := bnot_false b10
   refine wl_know 13 (.bool false) (congrArg Value.bool b10) ?_
   refine wy 3 13 false 14 (.int .i64 (ep)) ?_
   refine wy 3 13 false 15 (.bool (decide (ep < 0))) ?_
   refine wv 16 (.bool (decide (ep < 0))) ?_
   refine wv 17 (.bool (decide (ep < 0))) ?_
   refine (bsplit (decide (ep < 0))).elim (fun b13 => ?_) (fun b13 => ?_)
   ·have g14 := of_decide_eq_true b13
    refine wl_know 17 (.bool true) (congrArg Value.bool b13) ?_
    iterate 2 refine wn 7 17 false ?_
    refine wv 20 (.bool true) ?_
    refine wv 21 (.bool true) ?_
    iterate 4 refine wn 11 21 false ?_
    refine wv 26 (.bool true) ?_
    refine w_nil ?_
    refine meetR_at ?_ ⟨(congrArg Value.bool (show true = (!(newOk f c ep r)) by simp [newOk, b10, of_decide_eq_true b13] <;> omega)), H8⟩
    exact (same_upd rfl (same_upd rfl (same_upd rfl (same_upd rfl (same_upd rfl (same_upd rfl (same_upd rfl (same_upd rfl (same_upd rfl (same_upd rfl (same_upd rfl (same_upd rfl (same_upd rfl (same_upd rfl (same_upd rfl (same_upd rfl (same_upd rfl (same_upd rfl (same_upd rfl (same_refl))))))))))))))))))))
   ·have g15 := of_decide_eq_false b13
    refine wl_know 17 (.bool false) (congrArg Value.bool b13) ?_
    refine wy 7 17 false 18 (.int .i64 (ep)) ?_
    refine wy 7 17 false 19 (.bool (decide (ep > 1048576))) ?_
    refine wv 20 (.bool (decide (ep > 1048576))) ?_
    refine wv 21 (.bool (decide (ep > 1048576))) ?_
    refine (bsplit (decide (ep > 1048576))).elim (fun b16 => ?_) (fun b16 => ?_)
    ·have g17 := of_decide_eq_true b16
     refine wl_know 21 (.bool true) (congrArg Value.bool b16) ?_
     iterate 4 refine wn 11 21 false ?_
     refine wv 26 (.bool true) ?_
     refine w_nil ?_
     refine meetR_at ?_ ⟨(congrArg Value.bool (show true = (!(newOk f c ep r)) by simp [newOk, b10, of_decide_eq_false b13, of_decide_eq_true b16] <;> omega)), H8⟩
     exact (same_upd rfl (same_upd rfl (same_upd rfl (same_upd rfl (same_upd rfl (same_upd rfl (same_upd rfl (same_upd rfl (same_upd rfl (same_upd rfl (same_upd rfl (same_upd rfl (same_upd rfl (same_upd rfl (same_upd rfl (same_upd rfl (same_upd rfl (same_upd rfl (same_upd rfl (same_upd rfl (same_refl)))))))))))))))))))))
    ·have g18 := of_decide_eq_false b16
     refine wl_know 21 (.bool false) (congrArg Value.bool b16) ?_
     refine wy 11 21 false 22 (.agg ⟨([(.int .i64 (f)), (.int .i64 (c))] : List Value)⟩) ?_ (hr := e_loadN (vs := ([(.int .i64 (f)), (.int .i64 (c))] : List Value)) rfl (by kernel_rfl) (by kernel_rfl) (by exact Nat.le_of_ble_eq_true (by kernel_rfl)) (H8.at 1 rfl) (by kernel_rfl))
     refine wy 11 21 false 23 (.int .i64 (r)) ?_
     refine wl_do (wantsY 11 21 false rfl (by kernel_rfl) rfl (by kernel_rfl)) (fun K19 hK19 => ?_)
     refine d_call (d := 24) rfl (by kernel_rfl) (wireIn_any w7 f c r (by omega)) ?_
     rintro _ w20 ⟨rfl, u22⟩
     have H21 := H8.keepU u22
     refine ⟨_, rfl, ?_⟩
     refine hK19 _ _ ?_
     clear hK19 K19
     refine wy 11 21 false 25 (.bool (!(inB f r))) ?_
     refine wv 26 (.bool (!(inB f r))) ?_
     refine w_nil ?_
     refine meetR_at ?_ ⟨(congrArg Value.bool (show (!(inB f r)) = (!(newOk f c ep r)) by simp [newOk, b10, of_decide_eq_false b13, of_decide_eq_false b16] <;> omega)), H21⟩
     exact (same_upd rfl (same_upd rfl (same_upd rfl (same_upd rfl (same_upd rfl (same_upd rfl (same_upd rfl (same_upd rfl (same_upd rfl (same_upd rfl (same_upd rfl (same_upd rfl (same_upd rfl (same_upd rfl (same_upd rfl (same_upd rfl (same_upd rfl (same_upd rfl (same_upd rfl (same_upd rfl (same_refl)))))))))))))))))))))
 ·rintro f23 w24 ⟨v26, H25⟩
  refine wp_know 26 _ v26 ?_
  refine (bsplit (!(newOk f c ep r))).elim (fun b27 => ?_) (fun b27 => ?_)
  ·have g28 := bnot_true b27
   refine wp_know 26 (.bool true) (congrArg Value.bool b27) ?_
   refine wp_ift rfl ?_
   refine w_seq ?_
   refine w_lit ?_
   refine wv 6 (.pointer none) ?_
   refine wv 7 (.int .i64 (1)) ?_
   refine w_nil ?_
   refine then_normal ?_
   refine w_ret ?_
   refine then_ret ?_
   refine end2 rfl (res_tmp (v := (.pointer none)) rfl) (res_tmp (v := (.int .i64 (1))) rfl) ?_
   exact .inr ⟨bnot_true b27, rfl, H25.upd 0 rfl [] (fun _ h => h.elim)⟩
  ·have g29 := bnot_false b27
   refine wp_know 26 (.bool false) (congrArg Value.bool b27) ?_
   refine wp_iff rfl ?_
   refine w_skip ?_
   refine then_normal ?_
   refine w_seq ?_
   have hf : 1 ≤ f ∧ f ≤ 21 := by have q := bnot_false b27; simp [newOk, confB] at q; omega
   refine w_lit ?_
   refine wv 28 (.agg ⟨([(.int .i64 (f)), (.int .i64 (c))] : List Value)⟩) ?_ (hr := e_loadN (vs := ([(.int .i64 (f)), (.int .i64 (c))] : List Value)) rfl (by kernel_rfl) (by kernel_rfl) (by exact Nat.le_of_ble_eq_true (by kernel_rfl)) (H25.at 1 rfl) (by kernel_rfl))
   refine wl_do (wants0 rfl) (fun K30 hK30 => ?_)
   refine d_call (d := 29) rfl (by kernel_rfl) (talNew_any w24 f c) ?_
   rintro _ w31 (⟨_, t36, hb37, cb38, ab39, lb40, rfl, k34, u33, q35⟩ | ⟨hcf, _⟩)
   rotate_left
   ·exact absurd hcf (by rw [show confB f c = true by have q := bnot_false b27; simp [newOk] at q; exact q.1.1.1]; simp)
   have H32 : Sat w [restC w (fun _ => False), cellC b2 25 ([(.int .i64 (f)), (.int .i64 (c))] : List Value), talC t36 hb37 cb38 ab39 lb40 f c []] w31 := H25.addU u33 k34 q35
   refine ⟨_, rfl, ?_⟩
   refine hK30 _ _ ?_
   clear hK30 K30
   refine wv 27 (.tuple #[(pt t36 0), (.int .i64 (0))]) ?_
   refine wv 30 (pt t36 0) ?_
   refine wv 31 (.int .i64 (0)) ?_
   refine wv 8 (pt t36 0) ?_
   refine wv 9 (.int .i64 (0)) ?_
   refine w_nil ?_
   refine then_normal ?_
   refine w_seq ?_
   refine w_lit ?_
   refine wv 32 (.agg ⟨([(.int .i64 (f)), (.int .i64 (c))] : List Value)⟩) ?_ (hr := e_loadN (vs := ([(.int .i64 (f)), (.int .i64 (c))] : List Value)) rfl (by kernel_rfl) (by kernel_rfl) (by exact Nat.le_of_ble_eq_true (by kernel_rfl)) (H32.at 1 rfl) (by kernel_rfl))
   refine wv 33 (.int .i64 (ep)) ?_
   refine wv 34 (.int .i64 (r)) ?_
   refine wv 35 (.agg ⟨(([(.int .i64 (0)), (.int .i64 (0)), (.int .i64 (-1)), (.int .i64 (-1))] : List Value) ++ hc hash0 ++ hc hash0 ++ ([(.bool false)] : List Value) ++ hc hash0)⟩) ?_
   refine wv 36 (pt t36 0) ?_
   refine wl_do (wants0 rfl) (fun K41 hK41 => ?_)
   refine d_makeMap (Value.int .i64) propV rfl H32 ?_
   intro b42 w43 (H44 : Sat w [restC w (fun _ => False), cellC b2 25 ([(.int .i64 (f)), (.int .i64 (c))] : List Value), talC t36 hb37 cb38 ab39 lb40 f c [], mapC b42 (Value.int .i64) propV []] w43)
   refine hK41 _ _ ?_
   clear hK41 K41
   refine wv 38 (.agg ⟨(coreW f c ep r 0 0 (-1) (-1) hash0 hash0 false hash0 t36 b42 false false false)⟩) ?_
   refine wl_do (wants0 rfl) (fun K45 hK45 => ?_)
   refine d_box (vs := (coreW f c ep r 0 0 (-1) (-1) hash0 hash0 false hash0 t36 b42 false false false)) rfl H44 rfl rfl ?_
   intro b46 w47 (H48 : Sat w [restC w (fun _ => False), cellC b2 25 ([(.int .i64 (f)), (.int .i64 (c))] : List Value), talC t36 hb37 cb38 ab39 lb40 f c [], mapC b42 (Value.int .i64) propV [], cellC b46 92 (coreW f c ep r 0 0 (-1) (-1) hash0 hash0 false hash0 t36 b42 false false false)] w47)
   refine hK45 _ _ ?_
   clear hK45 K45
   refine wv 6 (pt b46 0) ?_
   refine wv 7 (.int .i64 (0)) ?_
   refine w_nil ?_
   refine then_normal ?_
   refine w_ret ?_
   refine end2 rfl (res_tmp (v := (pt b46 0)) rfl) (res_tmp (v := (.int .i64 (0))) rfl) ?_
   exact .inl ⟨bnot_false b27, b46, t36, hb37, cb38, ab39, lb40, b42, rfl, ok_of (by kernel_rfl) (H48.fin [4, 2, 3] (by decide) rfl), H48.upd 0 rfl [] (fun _ h => h.elim), fun b hb => H48.freshS 0 rfl (fun _ h => h) [4, 2, 3] rfl rfl b (show (sepC _).fp b from ⟨_, hb.choose_spec.1, hb.choose_spec.2⟩)⟩

set_option maxRecDepth 100000 in
set_option maxHeartbeats 1000000 in
theorem clP_raw (b : Nat) (es : Array MapEntry) (clock : Nat) (w : World) (hb : w.heap[b]? = some (.map es clock)) :
  Calls Try.prog 48 #[.map (some b)] w fun e w' => e = .returned (.map (some w.heap.size)) ∧ w' = w.alloc (.map es clock) := by
 have hq := fun w => run_eql_map_nil (P := Try.prog) w 90 3 96 (some b) Try.underlying90
 go_enter Try.func48, Try.ntmps48
 go_wp2
 rw [run_callFunc_extern Try.func62 (by kernel_rfl) (by kernel_rfl) (by kernel_rfl) (e := Extern.MapsClone.clone) (by kernel_rfl), run_maps_clone w 90 hb]
 simp only [Result.andThen]
 rw [Oper.upon_value]
 go_wp2
 rw [run_typeAssert_map _ 90 20 _ _ _ Try.underlying90]
 simp only [Result.andThen]
 rw [Oper.upon_value]
 go_wp2
 go_ret
 exact ⟨rfl, rfl⟩
/-- a map and its clone -/
theorem clP_any {κ ν : Type} {encK : κ → Value} {encV : ν → Value} {l : List (κ × ν)} (b : Nat) (w : World) (hm : MapAt w b encK encV l) :
  Calls Try.prog 48 #[.map (some b)] w fun e w' => ∃ c, e = .returned (.map (some c)) ∧ MapAt w' c encK encV l ∧ Upd [] w w' ∧ w.heap.size ≤ c := by
 obtain ⟨es, clock, hb, h1, h2⟩ := hm
 refine (clP_raw b es clock w hb).mono ?_
 rintro e w' ⟨rfl, rfl⟩
 exact ⟨w.heap.size, rfl, ⟨es, clock, heap_alloc_at w _, h1, h2⟩, (Upd.refl _ _).alloc _, Nat.le_refl _⟩

set_option maxRecDepth 100000 in
set_option maxHeartbeats 400000 in
theorem coreClone_any (w : World) (k t hb cb ab lb pb : Nat) (D : CoreD) (hT : (coreC k t hb cb ab lb pb D).ok w) (h : CI D) :
  Calls Try.prog 30 #[(.pointer (some ⟨k, 0, none⟩))] w fun e w' => ∃ k' t' hb' cb' ab' lb' pb', e = .returned (.pointer (some ⟨k', 0, none⟩)) ∧ (coreC k' t' hb' cb' ab' lb' pb' D).ok w' ∧ Upd [] w w' ∧ ∀ b, (coreC k' t' hb' cb' ab' lb' pb' D).fp b → w.heap.size ≤ b := by
 obtain ⟨hcell, htal, hmap⟩ := coreC_parts hT
 have H := Sat.start0 w
 have hf := h.f
 have hrd := h.rd
 refine calls_fr Try.func30 rfl 19 rfl (Nat.le_of_ble_eq_true rfl) ?_
 refine w_seq ?_
 refine w_lit ?_
 refine wv 2 (.pointer none) ?_
 refine w_nil ?_
 refine then_normal ?_
 refine w_seq ?_
 refine w_lit ?_
 refine wv 4 (pt k 0) ?_
 refine wv 5 (pt k 0) ?_
 refine wv 6 (.agg ⟨(coreL t pb D)⟩) ?_ (hr := e_loadN (vs := (coreL t pb D)) rfl (by kernel_rfl) (by kernel_rfl) (by exact Nat.le_of_ble_eq_true (by kernel_rfl)) (H.roCells 0 rfl hcell (fun h => h)) (by kernel_rfl))
 refine wl_do (wants0 rfl) (fun K1 hK1 => ?_)
 refine d_alloc (zs := (([(.int .i64 (0)), (.int .i64 (0)), (.int .i64 (0)), (.int .i64 (0)), (.int .i64 (0)), (.int .i64 (0)), (.int .i64 (0)), (.int .i64 (0))] : List Value) ++ hc hash0 ++ hc hash0 ++ ([(.bool false)] : List Value) ++ hc hash0 ++ ([(.pointer none), ((Go.Value.map none)), (.bool false), (.bool false), (.bool false)] : List Value))) (z := (.agg ⟨(([(.int .i64 (0)), (.int .i64 (0)), (.int .i64 (0)), (.int .i64 (0)), (.int .i64 (0)), (.int .i64 (0)), (.int .i64 (0)), (.int .i64 (0))] : List Value) ++ hc hash0 ++ hc hash0 ++ ([(.bool false)] : List Value) ++ hc hash0 ++ ([(.pointer none), ((Go.Value.map none)), (.bool false), (.bool false), (.bool false)] : List Value))⟩)) rfl H (by kernel_rfl) (by kernel_rfl) ?_
 intro b2 w3 (H4 : Sat w [restC w (fun _ => False), cellC b2 92 (([(.int .i64 (0)), (.int .i64 (0)), (.int .i64 (0)), (.int .i64 (0)), (.int .i64 (0)), (.int .i64 (0)), (.int .i64 (0)), (.int .i64 (0))] : List Value) ++ hc hash0 ++ hc hash0 ++ ([(.bool false)] : List Value) ++ hc hash0 ++ ([(.pointer none), ((Go.Value.map none)), (.bool false), (.bool false), (.bool false)] : List Value))] w3)
 refine hK1 _ _ ?_
 clear hK1 K1
 refine wl_do (wants0 rfl) (fun K5 hK5 => ?_)
 refine d_storeX (vs := (coreL t pb D)) (cs' := (coreL t pb D)) rfl H4 1 rfl rfl rfl rfl (by kernel_rfl) (Nat.le_of_ble_eq_true (by kernel_rfl)) (Nat.le_of_ble_eq_true (by kernel_rfl)) (by kernel_rfl) (by kernel_rfl) ?_
 intro w6 (H7 : Sat w [restC w (fun _ => False), cellC b2 92 (coreL t pb D)] w6)
 refine hK5 _ _ ?_
 clear hK5 K5
 refine w_nil ?_
 refine then_normal ?_
 refine w_seq ?_
 refine h_start H7 [restC w (fun _ => False)] 14 rfl (by kernel_rfl) (fun Hx => (Hx.pick [0] (by decide))) ?_
 intro w9 H10 S11
 refine hv0 0 S11 7 (pt k 0) ?_
 refine hv0 1 S11 8 (pt k 0) ?_
 refine hv0 2 S11 9 (pt k 105) ?_
 refine hv0 3 S11 10 (pt t 0) ?_ (he := fun _ H' => (e_load1 rfl (by kernel_rfl) (H'.roCell 0 rfl hcell (fun h => h) (by kernel_rfl))))
 refine hv0 5 S11 12 (pt k 0) ?_
 refine hv0 6 S11 13 (pt k 0) ?_
 refine hv0 7 S11 14 (pt k 106) ?_
 refine hv0 8 S11 15 (.map (some pb)) ?_ (he := fun _ H' => (e_load1 rfl (by kernel_rfl) (H'.roCell 0 rfl hcell (fun h => h) (by kernel_rfl))))
 refine h_do 4 rfl (by kernel_rfl) (wants0 rfl) (fun K12 hK12 => ?_)
 refine d_call (d := 11) rfl (by kernel_rfl) (talClone_any w9 t hb cb ab lb D.f D.c D.L (H10.roCk 0 rfl htal (fun _ _ h => h))) ?_
 rintro _ w18 ⟨t13, hb14, cb15, ab16, lb17, rfl, k21, u20, q22⟩
 have H19 : Sat w [restC w (fun _ => False), cellC b2 92 (coreL t pb D), talC t13 hb14 cb15 ab16 lb17 D.f D.c D.L] w18 := H10.addU u20 k21 q22
 refine ⟨_, rfl, ?_⟩
 have S23 := H19.pick [0] (by decide)
 refine hK12 _ _ S23 ?_
 clear hK12 K12
 refine h_do 9 rfl (by kernel_rfl) (wants0 rfl) (fun K24 hK24 => ?_)
 refine d_call (d := 16) rfl (by kernel_rfl) (clP_any pb w18 (H19.roMap 0 rfl hmap (fun h => h))) ?_
 rintro _ w26 ⟨c25, rfl, k28, u29, f30⟩
 have H27 : Sat w [restC w (fun _ => False), cellC b2 92 (coreL t pb D), talC t13 hb14 cb15 ab16 lb17 D.f D.c D.L, mapC c25 (Value.int .i64) propV D.P] w26 := H19.addU u29 k28 (fun b hb => Nat.le_trans f30 (Nat.le_of_eq hb.symm))
 refine ⟨_, rfl, ?_⟩
 have S31 := H27.pick [0] (by decide)
 refine hK24 _ _ S31 ?_
 clear hK24 K24
 refine hv0 10 S31 17 (pt b2 105) ?_
 refine h_do 11 rfl (by kernel_rfl) (wants0 rfl) (fun K32 hK32 => ?_)
 refine d_storeX (vs := ([(pt t13 0)] : List Value)) (cs' := (coreL t13 pb D)) rfl H27 1 rfl rfl rfl rfl (by kernel_rfl) (Nat.le_of_ble_eq_true (by kernel_rfl)) (Nat.le_of_ble_eq_true (by kernel_rfl)) (by kernel_rfl) (by kernel_rfl) ?_
 intro w33 (H34 : Sat w [restC w (fun _ => False), cellC b2 92 (coreL t13 pb D), talC t13 hb14 cb15 ab16 lb17 D.f D.c D.L, mapC c25 (Value.int .i64) propV D.P] w33)
 have S36 := H34.pick [0] (by decide)
 refine hK32 _ _ S36 ?_
 clear hK32 K32
 refine hv0 12 S36 18 (pt b2 106) ?_
 refine h_do 13 rfl (by kernel_rfl) (wants0 rfl) (fun K37 hK37 => ?_)
 refine d_storeX (vs := ([(.map (some c25))] : List Value)) (cs' := (coreL t13 c25 D)) rfl H34 1 rfl rfl rfl rfl (by kernel_rfl) (Nat.le_of_ble_eq_true (by kernel_rfl)) (Nat.le_of_ble_eq_true (by kernel_rfl)) (by kernel_rfl) (by kernel_rfl) ?_
 intro w38 (H39 : Sat w [restC w (fun _ => False), cellC b2 92 (coreL t13 c25 D), talC t13 hb14 cb15 ab16 lb17 D.f D.c D.L, mapC c25 (Value.int .i64) propV D.P] w38)
 have S41 := H39.pick [0] (by decide)
 refine hK37 _ _ S41 ?_
 clear hK37 K37
 refine h_fin (by kernel_rfl) ?_
 refine then_normal ?_
 refine w_seq ?_
 refine w_lit ?_
 refine wv 2 (pt b2 0) ?_
 refine w_nil ?_
 refine then_normal ?_
 refine w_ret ?_
 refine end1 rfl (res_tmp (v := (pt b2 0)) rfl) ?_
 exact ⟨b2, t13, hb14, cb15, ab16, lb17, c25, rfl, ok_of (by kernel_rfl) (H39.fin [1, 2, 3] (by decide) rfl), H39.upd 0 rfl [] (fun _ h => h.elim), fun b hb => H39.freshS 0 rfl (fun _ h => h) [1, 2, 3] rfl rfl b (show (sepC _).fp b from ⟨_, hb.choose_spec.1, hb.choose_spec.2⟩)⟩

end Go.Proofs.Ythjmbhneifjeeaa
