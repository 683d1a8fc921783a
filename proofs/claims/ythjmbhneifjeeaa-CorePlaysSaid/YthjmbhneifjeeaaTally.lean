/- WHAT IS PROVED: the contracts of package tally's functions. Conditions: stated with each. -/
import Derived.Test.YthjmbhneifjeeaaShort
import Derived.Test.YthjmbhneifjeeaaTallyDefs
namespace Go.Proofs.Ythjmbhneifjeeaa
open Go.RowKit

set_option maxRecDepth 100000 in
set_option maxHeartbeats 400000 in
theorem tallyAdd_any (w : World) (t hb cb ab lb : Nat) (T : TallyS) (hT : (tallyC t hb cb ab lb T).ok w) (kind round replica : Int) (h : Hash) (hs : T.Small 1000000000) :
  Calls Try.prog 37 #[(.pointer (some ⟨t, 0, none⟩)), (.int .i64 (kind)), (.int .i64 (round)), (.int .i64 (replica)), (.agg ⟨(hc h)⟩)] w fun e w' => e = .returned (.bool (!badB T kind round replica)) ∧ (tallyC t hb cb ab lb (if badB T kind round replica = true then T else addT T kind round replica h)).ok w' ∧ Upd [t, hb, cb, ab, lb] w w' := by
 have H : Sat w [cellC t 115 ([(.int .i64 (T.f)), (.int .i64 (T.c)), (.map (some hb)), (.map (some cb)), (.map (some ab)), (.map (some lb))] : List Value), mapC hb voterV Value.bool T.hv, mapC cb choiceV (Value.int .i64) T.count, mapC ab turnV (Value.int .i64) T.all, mapC lb (Value.int .i64) (Value.int .i64) T.last, restC w (tallyC t hb cb ab lb T).fp] w := Sat.start _ hT
 refine calls_fr Try.func37 rfl 99 rfl (Nat.le_of_ble_eq_true rfl) ?_
 refine w_seq ?_
 refine w_lit ?_
 refine wl_do (wants0 rfl) (fun K1 hK1 => ?_)
 refine d_box (vs := (hc h)) rfl H rfl rfl ?_
 intro b2 w3 (H4 : Sat w [cellC t 115 ([(.int .i64 (T.f)), (.int .i64 (T.c)), (.map (some hb)), (.map (some cb)), (.map (some ab)), (.map (some lb))] : List Value), mapC hb voterV Value.bool T.hv, mapC cb choiceV (Value.int .i64) T.count, mapC ab turnV (Value.int .i64) T.all, mapC lb (Value.int .i64) (Value.int .i64) T.last, restC w (tallyC t hb cb ab lb T).fp, cellC b2 36 (hc h)] w3)
 refine hK1 _ _ ?_
 clear hK1 K1
 refine wv 10 (.bool false) ?_
 refine w_nil ?_
 refine then_normal ?_
 refine w_seq ?_
 refine w_lit ?_
 refine wv 14 (.int .i64 (kind)) ?_
 refine wv 15 (.int .i64 (round)) ?_
 refine wv 16 (.int .i64 (replica)) ?_
 refine wv 17 (.agg ⟨([(.int .i64 (kind)), (.int .i64 (round)), (.int .i64 (replica))] : List Value)⟩) ?_
 refine wl_do (wants0 rfl) (fun K5 hK5 => ?_)
 refine d_alloc (zs := ([(.int .i64 (0)), (.int .i64 (0)), (.int .i64 (0))] : List Value)) (z := (.agg ⟨([(.int .i64 (0)), (.int .i64 (0)), (.int .i64 (0))] : List Value)⟩)) rfl H4 (by kernel_rfl) (by kernel_rfl) ?_
 intro b6 w7 (H8 : Sat w [cellC t 115 ([(.int .i64 (T.f)), (.int .i64 (T.c)), (.map (some hb)), (.map (some cb)), (.map (some ab)), (.map (some lb))] : List Value), mapC hb voterV Value.bool T.hv, mapC cb choiceV (Value.int .i64) T.count, mapC ab turnV (Value.int .i64) T.all, mapC lb (Value.int .i64) (Value.int .i64) T.last, restC w (tallyC t hb cb ab lb T).fp, cellC b2 36 (hc h), cellC b6 120 ([(.int .i64 (0)), (.int .i64 (0)), (.int .i64 (0))] : List Value)] w7)
 refine hK5 _ _ ?_
 clear hK5 K5
 refine wl_do (wants0 rfl) (fun K9 hK9 => ?_)
 refine d_store (vs := ([(.int .i64 (kind)), (.int .i64 (round)), (.int .i64 (replica))] : List Value)) rfl H8 7 rfl rfl rfl rfl (by kernel_rfl) (Nat.le_of_ble_eq_true (by kernel_rfl)) (Nat.le_of_ble_eq_true (by kernel_rfl)) (by kernel_rfl) ?_
 intro w10 (H11 : Sat w [cellC t 115 ([(.int .i64 (T.f)), (.int .i64 (T.c)), (.map (some hb)), (.map (some cb)), (.map (some ab)), (.map (some lb))] : List Value), mapC hb voterV Value.bool T.hv, mapC cb choiceV (Value.int .i64) T.count, mapC ab turnV (Value.int .i64) T.all, mapC lb (Value.int .i64) (Value.int .i64) T.last, restC w (tallyC t hb cb ab lb T).fp, cellC b2 36 (hc h), cellC b6 120 ([(.int .i64 (kind)), (.int .i64 (round)), (.int .i64 (replica))] : List Value)] w10)
 refine hK9 _ _ ?_
 clear hK9 K9
 refine w_nil ?_
 refine then_normal ?_
 refine w_seq ?_
 refine wp_meetR [18, 19, 20, 21, 22, 23, 24, 25, 26, 27, 28, 29, 30, 31, 32, 33, 34, 35, 36, 37, 38, 39, 40, 41, 42, 43, 44, 45, 46, 47, 48] (fun G_ W_ => G_ 48 = (.bool (badB T kind round replica)) ∧ Sat w [cellC t 115 ([(.int .i64 (T.f)), (.int .i64 (T.c)), (.map (some hb)), (.map (some cb)), (.map (some ab)), (.map (some lb))] : List Value), mapC hb voterV Value.bool T.hv, mapC cb choiceV (Value.int .i64) T.count, mapC ab turnV (Value.int .i64) T.all, mapC lb (Value.int .i64) (Value.int .i64) T.last, restC w (tallyC t hb cb ab lb T).fp, cellC b2 36 (hc h), cellC b6 120 ([(.int .i64 (kind)), (.int .i64 (round)), (.int .i64 (replica))] : List Value)] W_) ?_ ?_
 ·refine q_start H11 (by kernel_rfl) (by kernel_rfl) ?_
  refine qv 18 (.int .i64 (kind)) ?_
  refine qv 19 (.bool (!(decide (kind = 1)))) ?_
  refine qv 20 (.bool (!(decide (kind = 1)))) ?_
  refine (bsplit (!(decide (kind = 1)))).elim (fun b14 => ?_) (fun b14 => ?_)
  ·have g15 := bnot_true b14
   have g16 := of_decide_eq_false g15
   refine q_know 20 (.bool true) (congrArg Value.bool b14) ?_
   refine qy 2 20 true 21 (.int .i64 (kind)) ?_
   refine qy 2 20 true 22 (.bool (!(decide (kind = 2)))) ?_
   refine qv 23 (.bool (!(decide (kind = 2)))) ?_
   refine qv 24 (.bool (!(decide (kind = 2)))) ?_
   refine (bsplit (!(decide (kind = 2)))).elim (fun b17 => ?_) (fun b17 => ?_)
   ·have g18 := bnot_true b17
    have g19 := of_decide_eq_false g18
    refine q_know 24 (.bool true) (congrArg Value.bool b17) ?_
    iterate 2 refine qn 6 24 false ?_
    refine qv 27 (.bool true) ?_
    refine qv 28 (.bool true) ?_
    iterate 2 refine qn 10 28 false ?_
    refine qv 31 (.bool true) ?_
    refine qv 32 (.bool true) ?_
    iterate 7 refine qn 14 32 false ?_
    refine qv 40 (.bool true) ?_
    refine qv 41 (.bool true) ?_
    iterate 6 refine qn 23 41 false ?_
    refine qv 48 (.bool true) ?_
    refine q_end ?_
    intro w20 H21
    refine meetR_at ?_ ⟨(congrArg Value.bool (show true = (badB T kind round replica) by simp [badB, b14, b17])), H21⟩
    exact (same_upd rfl (same_upd rfl (same_upd rfl (same_upd rfl (same_upd rfl (same_upd rfl (same_upd rfl (same_upd rfl (same_upd rfl (same_upd rfl (same_upd rfl (same_upd rfl (same_upd rfl (same_upd rfl (same_upd rfl (same_upd rfl (same_upd rfl (same_upd rfl (same_upd rfl (same_upd rfl (same_upd rfl (same_upd rfl (same_upd rfl (same_upd rfl (same_upd rfl (same_upd rfl (same_upd rfl (same_upd rfl (same_upd rfl (same_upd rfl (same_upd rfl (same_upd rfl (same_upd rfl (same_refl))))))))))))))))))))))))))))))))))
   ·have g22 := bnot_false b17
    have g23 := of_decide_eq_true g22
    refine q_know 24 (.bool false) (congrArg Value.bool b17) ?_
    refine qy 6 24 false 25 (.int .i64 (round)) ?_
    refine qy 6 24 false 26 (.bool (decide (round < 0))) ?_
    refine qv 27 (.bool (decide (round < 0))) ?_
    refine qv 28 (.bool (decide (round < 0))) ?_
    refine (bsplit (decide (round < 0))).elim (fun b24 => ?_) (fun b24 => ?_)
    ·have g25 := of_decide_eq_true b24
     refine q_know 28 (.bool true) (congrArg Value.bool b24) ?_
     iterate 2 refine qn 10 28 false ?_
     refine qv 31 (.bool true) ?_
     refine qv 32 (.bool true) ?_
     iterate 7 refine qn 14 32 false ?_
     refine qv 40 (.bool true) ?_
     refine qv 41 (.bool true) ?_
     iterate 6 refine qn 23 41 false ?_
     refine qv 48 (.bool true) ?_
     refine q_end ?_
     intro w26 H27
     refine meetR_at ?_ ⟨(congrArg Value.bool (show true = (badB T kind round replica) by simp [badB, b14, b17, b24])), H27⟩
     exact (same_upd rfl (same_upd rfl (same_upd rfl (same_upd rfl (same_upd rfl (same_upd rfl (same_upd rfl (same_upd rfl (same_upd rfl (same_upd rfl (same_upd rfl (same_upd rfl (same_upd rfl (same_upd rfl (same_upd rfl (same_upd rfl (same_upd rfl (same_upd rfl (same_upd rfl (same_upd rfl (same_upd rfl (same_upd rfl (same_upd rfl (same_upd rfl (same_upd rfl (same_upd rfl (same_upd rfl (same_upd rfl (same_upd rfl (same_upd rfl (same_upd rfl (same_upd rfl (same_upd rfl (same_upd rfl (same_refl)))))))))))))))))))))))))))))))))))
    ·have g28 := of_decide_eq_false b24
     refine q_know 28 (.bool false) (congrArg Value.bool b24) ?_
     refine qy 10 28 false 29 (.int .i64 (round)) ?_
     refine qy 10 28 false 30 (.bool (decide (round > 1048576))) ?_
     refine qv 31 (.bool (decide (round > 1048576))) ?_
     refine qv 32 (.bool (decide (round > 1048576))) ?_
     refine (bsplit (decide (round > 1048576))).elim (fun b29 => ?_) (fun b29 => ?_)
     ·have g30 := of_decide_eq_true b29
      refine q_know 32 (.bool true) (congrArg Value.bool b29) ?_
      iterate 7 refine qn 14 32 false ?_
      refine qv 40 (.bool true) ?_
      refine qv 41 (.bool true) ?_
      iterate 6 refine qn 23 41 false ?_
      refine qv 48 (.bool true) ?_
      refine q_end ?_
      intro w31 H32
      refine meetR_at ?_ ⟨(congrArg Value.bool (show true = (badB T kind round replica) by simp [badB, b14, b17, b24, b29])), H32⟩
      exact (same_upd rfl (same_upd rfl (same_upd rfl (same_upd rfl (same_upd rfl (same_upd rfl (same_upd rfl (same_upd rfl (same_upd rfl (same_upd rfl (same_upd rfl (same_upd rfl (same_upd rfl (same_upd rfl (same_upd rfl (same_upd rfl (same_upd rfl (same_upd rfl (same_upd rfl (same_upd rfl (same_upd rfl (same_upd rfl (same_upd rfl (same_upd rfl (same_upd rfl (same_upd rfl (same_upd rfl (same_upd rfl (same_upd rfl (same_upd rfl (same_upd rfl (same_upd rfl (same_upd rfl (same_upd rfl (same_upd rfl (same_refl))))))))))))))))))))))))))))))))))))
     ·have g33 := of_decide_eq_false b29
      refine q_know 32 (.bool false) (congrArg Value.bool b29) ?_
      refine qy 14 32 false 33 (pt t 0) ?_
      refine qy 14 32 false 34 (pt t 0) ?_
      refine qy 14 32 false 35 (pt t 0) ?_
      refine qy 14 32 false 36 (.agg ⟨([(.int .i64 (T.f)), (.int .i64 (T.c))] : List Value)⟩) ?_ (hr := fun _ H' => (e_loadN (vs := ([(.int .i64 (T.f)), (.int .i64 (T.c))] : List Value)) rfl (by kernel_rfl) (by kernel_rfl) (by exact Nat.le_of_ble_eq_true (by kernel_rfl)) (H'.at 0 rfl) (by kernel_rfl)))
      refine qy 14 32 false 37 (.int .i64 (replica)) ?_
      refine q_call (wantsY 14 32 false rfl (by kernel_rfl) rfl (by kernel_rfl)) (d := 38) (v := (.bool (inB T.f replica))) rfl (fun _ _ => by kernel_rfl) (fun w' H' => (wireIn_any w' T.f T.c replica (by have := hs.1; omega)).mono fun _ _ h => ⟨h.1, H'.keepU h.2⟩) ?_
      refine qy 14 32 false 39 (.bool (!(inB T.f replica))) ?_
      refine qv 40 (.bool (!(inB T.f replica))) ?_
      refine qv 41 (.bool (!(inB T.f replica))) ?_
      refine (bsplit (!(inB T.f replica))).elim (fun b34 => ?_) (fun b34 => ?_)
      ·have g35 := bnot_true b34
       refine q_know 41 (.bool true) (congrArg Value.bool b34) ?_
       iterate 6 refine qn 23 41 false ?_
       refine qv 48 (.bool true) ?_
       refine q_end ?_
       intro w36 H37
       refine meetR_at ?_ ⟨(congrArg Value.bool (show true = (badB T kind round replica) by simp [badB, b14, b17, b24, b29, b34])), H37⟩
       exact (same_upd rfl (same_upd rfl (same_upd rfl (same_upd rfl (same_upd rfl (same_upd rfl (same_upd rfl (same_upd rfl (same_upd rfl (same_upd rfl (same_upd rfl (same_upd rfl (same_upd rfl (same_upd rfl (same_upd rfl (same_upd rfl (same_upd rfl (same_upd rfl (same_upd rfl (same_upd rfl (same_upd rfl (same_upd rfl (same_upd rfl (same_upd rfl (same_upd rfl (same_upd rfl (same_upd rfl (same_upd rfl (same_upd rfl (same_upd rfl (same_upd rfl (same_upd rfl (same_upd rfl (same_upd rfl (same_upd rfl (same_upd rfl (same_refl)))))))))))))))))))))))))))))))))))))
      ·have g38 := bnot_false b34
       refine q_know 41 (.bool false) (congrArg Value.bool b34) ?_
       refine qy 23 41 false 42 (pt t 0) ?_
       refine qy 23 41 false 43 (pt t 0) ?_
       refine qy 23 41 false 44 (pt t 2) ?_
       refine qy 23 41 false 45 (.map (some hb)) ?_ (hr := fun _ H' => (e_load1 rfl (by kernel_rfl) (H'.cell 0 rfl rfl)))
       refine qy 23 41 false 46 (.agg ⟨([(.int .i64 (kind)), (.int .i64 (round)), (.int .i64 (replica))] : List Value)⟩) ?_ (hr := fun _ H' => (e_loadN (vs := ([(.int .i64 (kind)), (.int .i64 (round)), (.int .i64 (replica))] : List Value)) rfl (by kernel_rfl) (by kernel_rfl) (by exact Nat.le_of_ble_eq_true (by kernel_rfl)) (H'.at 7 rfl) (by kernel_rfl)))
       refine qy 23 41 false 47 (.bool ((lookM T.hv (⟨kind, round, replica⟩ : Voter)).getD false)) ?_ (hr := fun _ H' => (e_lookup (kt := 120) (et := 4) voterK (by kernel_rfl) (fun w => by kernel_rfl) rfl (⟨kind, round, replica⟩ : Voter) rfl (H'.at 1 rfl) (optD Value.bool _ _)))
       refine qv 48 (.bool ((lookM T.hv (⟨kind, round, replica⟩ : Voter)).getD false)) ?_
       refine q_end ?_
       intro w39 H40
       refine meetR_at ?_ ⟨(congrArg Value.bool (show ((lookM T.hv (⟨kind, round, replica⟩ : Voter)).getD false) = (badB T kind round replica) by simp [badB, b14, b17, b24, b29, b34])), H40⟩
       exact (same_upd rfl (same_upd rfl (same_upd rfl (same_upd rfl (same_upd rfl (same_upd rfl (same_upd rfl (same_upd rfl (same_upd rfl (same_upd rfl (same_upd rfl (same_upd rfl (same_upd rfl (same_upd rfl (same_upd rfl (same_upd rfl (same_upd rfl (same_upd rfl (same_upd rfl (same_upd rfl (same_upd rfl (same_upd rfl (same_upd rfl (same_upd rfl (same_upd rfl (same_upd rfl (same_upd rfl (same_upd rfl (same_upd rfl (same_upd rfl (same_upd rfl (same_upd rfl (same_upd rfl (same_upd rfl (same_upd rfl (same_upd rfl (same_refl)))))))))))))))))))))))))))))))))))))
  ·have g41 := bnot_false b14
   have g42 := of_decide_eq_true g41
   refine q_know 20 (.bool false) (congrArg Value.bool b14) ?_
   iterate 2 refine qn 2 20 true ?_
   refine qv 23 (.bool false) ?_
   refine qv 24 (.bool false) ?_
   refine qy 6 24 false 25 (.int .i64 (round)) ?_
   refine qy 6 24 false 26 (.bool (decide (round < 0))) ?_
   refine qv 27 (.bool (decide (round < 0))) ?_
   refine qv 28 (.bool (decide (round < 0))) ?_
   refine (bsplit (decide (round < 0))).elim (fun b43 => ?_) (fun b43 => ?_)
   ·have g44 := of_decide_eq_true b43
    refine q_know 28 (.bool true) (congrArg Value.bool b43) ?_
    iterate 2 refine qn 10 28 false ?_
    refine qv 31 (.bool true) ?_
    refine qv 32 (.bool true) ?_
    iterate 7 refine qn 14 32 false ?_
    refine qv 40 (.bool true) ?_
    refine qv 41 (.bool true) ?_
    iterate 6 refine qn 23 41 false ?_
    refine qv 48 (.bool true) ?_
    refine q_end ?_
    intro w45 H46
    refine meetR_at ?_ ⟨(congrArg Value.bool (show true = (badB T kind round replica) by simp [badB, b14, b43])), H46⟩
    exact (same_upd rfl (same_upd rfl (same_upd rfl (same_upd rfl (same_upd rfl (same_upd rfl (same_upd rfl (same_upd rfl (same_upd rfl (same_upd rfl (same_upd rfl (same_upd rfl (same_upd rfl (same_upd rfl (same_upd rfl (same_upd rfl (same_upd rfl (same_upd rfl (same_upd rfl (same_upd rfl (same_upd rfl (same_upd rfl (same_upd rfl (same_upd rfl (same_upd rfl (same_upd rfl (same_upd rfl (same_upd rfl (same_upd rfl (same_upd rfl (same_upd rfl (same_upd rfl (same_upd rfl (same_refl))))))))))))))))))))))))))))))))))
   ·have g47 := of_decide_eq_false b43
    refine q_know 28 (.bool false) (congrArg Value.bool b43) ?_
    refine qy 10 28 false 29 (.int .i64 (round)) ?_
    refine qy 10 28 false 30 (.bool (decide (round > 1048576))) ?_
    refine qv 31 (.bool (decide (round > 1048576))) ?_
    refine qv 32 (.bool (decide (round > 1048576))) ?_
    refine (bsplit (decide (round > 1048576))).elim (fun b48 => ?_) (fun b48 => ?_)
    ·have g49 := of_decide_eq_true b48
     refine q_know 32 (.bool true) (congrArg Value.bool b48) ?_
     iterate 7 refine qn 14 32 false ?_
     refine qv 40 (.bool true) ?_
     refine qv 41 (.bool true) ?_
     iterate 6 refine qn 23 41 false ?_
     refine qv 48 (.bool true) ?_
     refine q_end ?_
     intro w50 H51
     refine meetR_at ?_ ⟨(congrArg Value.bool (show true = (badB T kind round replica) by simp [badB, b14, b43, b48])), H51⟩
     exact (same_upd rfl (same_upd rfl (same_upd rfl (same_upd rfl (same_upd rfl (same_upd rfl (same_upd rfl (same_upd rfl (same_upd rfl (same_upd rfl (same_upd rfl (same_upd rfl (same_upd rfl (same_upd rfl (same_upd rfl (same_upd rfl (same_upd rfl (same_upd rfl (same_upd rfl (same_upd rfl (same_upd rfl (same_upd rfl (same_upd rfl (same_upd rfl (same_upd rfl (same_upd rfl (same_upd rfl (same_upd rfl (same_upd rfl (same_upd rfl (same_upd rfl (same_upd rfl (same_upd rfl (same_upd rfl (same_refl)))))))))))))))))))))))))))))))))))
    ·have g52 := of_decide_eq_false b48
     refine q_know 32 (.bool false) (congrArg Value.bool b48) ?_
     refine qy 14 32 false 33 (pt t 0) ?_
     refine qy 14 32 false 34 (pt t 0) ?_
     refine qy 14 32 false 35 (pt t 0) ?_
     refine qy 14 32 false 36 (.agg ⟨([(.int .i64 (T.f)), (.int .i64 (T.c))] : List Value)⟩) ?_ (hr := fun _ H' => (e_loadN (vs := ([(.int .i64 (T.f)), (.int .i64 (T.c))] : List Value)) rfl (by kernel_rfl) (by kernel_rfl) (by exact Nat.le_of_ble_eq_true (by kernel_rfl)) (H'.at 0 rfl) (by kernel_rfl)))
     refine qy 14 32 false 37 (.int .i64 (replica)) ?_
     refine q_call (wantsY 14 32 false rfl (by kernel_rfl) rfl (by kernel_rfl)) (d := 38) (v := (.bool (inB T.f replica))) rfl (fun _ _ => by kernel_rfl) (fun w' H' => (wireIn_any w' T.f T.c replica (by have := hs.1; omega)).mono fun _ _ h => ⟨h.1, H'.keepU h.2⟩) ?_
     refine qy 14 32 false 39 (.bool (!(inB T.f replica))) ?_
     refine qv 40 (.bool (!(inB T.f replica))) ?_
     refine qv 41 (.bool (!(inB T.f replica))) ?_
     refine (bsplit (!(inB T.f replica))).elim (fun b53 => ?_) (fun b53 => ?_)
     ·have g54 := bnot_true b53
      refine q_know 41 (.bool true) (congrArg Value.bool b53) ?_
      iterate 6 refine qn 23 41 false ?_
      refine qv 48 (.bool true) ?_
      refine q_end ?_
      intro w55 H56
      refine meetR_at ?_ ⟨(congrArg Value.bool (show true = (badB T kind round replica) by simp [badB, b14, b43, b48, b53])), H56⟩
      exact (same_upd rfl (same_upd rfl (same_upd rfl (same_upd rfl (same_upd rfl (same_upd rfl (same_upd rfl (same_upd rfl (same_upd rfl (same_upd rfl (same_upd rfl (same_upd rfl (same_upd rfl (same_upd rfl (same_upd rfl (same_upd rfl (same_upd rfl (same_upd rfl (same_upd rfl (same_upd rfl (same_upd rfl (same_upd rfl (same_upd rfl (same_upd rfl (same_upd rfl (same_upd rfl (same_upd rfl (same_upd rfl (same_upd rfl (same_upd rfl (same_upd rfl (same_upd rfl (same_upd rfl (same_upd rfl (same_upd rfl (same_refl))))))))))))))))))))))))))))))))))))
     ·have g57 := bnot_false b53
      refine q_know 41 (.bool false) (congrArg Value.bool b53) ?_
      refine qy 23 41 false 42 (pt t 0) ?_
      refine qy 23 41 false 43 (pt t 0) ?_
      refine qy 23 41 false 44 (pt t 2) ?_
      refine qy 23 41 false 45 (.map (some hb)) ?_ (hr := fun _ H' => (e_load1 rfl (by kernel_rfl) (H'.cell 0 rfl rfl)))
      refine qy 23 41 false 46 (.agg ⟨([(.int .i64 (kind)), (.int .i64 (round)), (.int .i64 (replica))] : List Value)⟩) ?_ (hr := fun _ H' => (e_loadN (vs := ([(.int .i64 (kind)), (.int .i64 (round)), (.int .i64 (replica))] : List Value)) rfl (by kernel_rfl) (by kernel_rfl) (by exact Nat.le_of_ble_eq_true (by kernel_rfl)) (H'.at 7 rfl) (by kernel_rfl)))
      refine qy 23 41 false 47 (.bool ((lookM T.hv (⟨kind, round, replica⟩ : Voter)).getD false)) ?_ (hr := fun _ H' => (e_lookup (kt := 120) (et := 4) voterK (by kernel_rfl) (fun w => by kernel_rfl) rfl (⟨kind, round, replica⟩ : Voter) rfl (H'.at 1 rfl) (optD Value.bool _ _)))
      refine qv 48 (.bool ((lookM T.hv (⟨kind, round, replica⟩ : Voter)).getD false)) ?_
      refine q_end ?_
      intro w58 H59
      refine meetR_at ?_ ⟨(congrArg Value.bool (show ((lookM T.hv (⟨kind, round, replica⟩ : Voter)).getD false) = (badB T kind round replica) by simp [badB, b14, b43, b48, b53])), H59⟩
      exact (same_upd rfl (same_upd rfl (same_upd rfl (same_upd rfl (same_upd rfl (same_upd rfl (same_upd rfl (same_upd rfl (same_upd rfl (same_upd rfl (same_upd rfl (same_upd rfl (same_upd rfl (same_upd rfl (same_upd rfl (same_upd rfl (same_upd rfl (same_upd rfl (same_upd rfl (same_upd rfl (same_upd rfl (same_upd rfl (same_upd rfl (same_upd rfl (same_upd rfl (same_upd rfl (same_upd rfl (same_upd rfl (same_upd rfl (same_upd rfl (same_upd rfl (same_upd rfl (same_upd rfl (same_upd rfl (same_upd rfl (same_refl))))))))))))))))))))))))))))))))))))
 ·rintro f60 w61 ⟨v63, H62⟩
  refine wp_know 48 _ v63 ?_
  refine (bsplit (badB T kind round replica)).elim (fun b64 => ?_) (fun b64 => ?_)
  ·refine wp_know 48 (.bool true) (congrArg Value.bool b64) ?_
   refine wp_ift rfl ?_
   refine w_seq ?_
   refine w_lit ?_
   refine wv 10 (.bool false) ?_
   refine w_nil ?_
   refine then_normal ?_
   refine w_ret ?_
   refine then_ret ?_
   refine end1 rfl (res_tmp (v := (.bool false)) rfl) ?_
   exact ⟨by rw [b64]; rfl, by rw [if_pos b64]; exact H62.fin [0, 1, 2, 3, 4] (by decide) rfl, H62.upd 5 rfl _ (fun _ h => tallyC_fp h)⟩
  ·refine wp_know 48 (.bool false) (congrArg Value.bool b64) ?_
   refine wp_iff rfl ?_
   refine w_skip ?_
   refine then_normal ?_
   refine w_seq ?_
   refine h_start H62 [cellC t 115 ([(.int .i64 (T.f)), (.int .i64 (T.c)), (.map (some hb)), (.map (some cb)), (.map (some ab)), (.map (some lb))] : List Value), mapC cb choiceV (Value.int .i64) T.count, mapC ab turnV (Value.int .i64) T.all, mapC lb (Value.int .i64) (Value.int .i64) T.last, restC w (tallyC t hb cb ab lb T).fp, cellC b2 36 (hc h), cellC b6 120 ([(.int .i64 (kind)), (.int .i64 (round)), (.int .i64 (replica))] : List Value)] 6 rfl (by kernel_rfl) (fun Hx => (Hx.pick [0, 2, 3, 4, 5, 6, 7] (by decide))) ?_
   intro w65 H66 S67
   refine hv0 0 S67 49 (pt t 0) ?_
   refine hv0 1 S67 50 (pt t 0) ?_
   refine hv0 2 S67 51 (pt t 2) ?_
   refine hv0 3 S67 52 (.map (some hb)) ?_ (he := fun _ H' => (e_load1 rfl (by kernel_rfl) (H'.cell 0 rfl rfl)))
   refine hv0 4 S67 53 (.agg ⟨([(.int .i64 (kind)), (.int .i64 (round)), (.int .i64 (replica))] : List Value)⟩) ?_ (he := fun _ H' => (e_loadN (vs := ([(.int .i64 (kind)), (.int .i64 (round)), (.int .i64 (replica))] : List Value)) rfl (by kernel_rfl) (by kernel_rfl) (by exact Nat.le_of_ble_eq_true (by kernel_rfl)) (H'.at 6 rfl) (by kernel_rfl)))
   refine h_do 5 rfl (by kernel_rfl) (wants0 rfl) (fun K68 hK68 => ?_)
   refine d_mapUpdate (kt := 120) (et := 4) rfl H66 1 rfl voterK (by kernel_rfl) rfl (⟨kind, round, replica⟩ : Voter) rfl true rfl ?_
   intro w69 (H70 : Sat w [cellC t 115 ([(.int .i64 (T.f)), (.int .i64 (T.c)), (.map (some hb)), (.map (some cb)), (.map (some ab)), (.map (some lb))] : List Value), mapC hb voterV Value.bool (putM T.hv (⟨kind, round, replica⟩ : Voter) true), mapC cb choiceV (Value.int .i64) T.count, mapC ab turnV (Value.int .i64) T.all, mapC lb (Value.int .i64) (Value.int .i64) T.last, restC w (tallyC t hb cb ab lb T).fp, cellC b2 36 (hc h), cellC b6 120 ([(.int .i64 (kind)), (.int .i64 (round)), (.int .i64 (replica))] : List Value)] w69)
   have S71 := H70.pick [0, 2, 3, 4, 5, 6, 7] (by decide)
   refine hK68 _ _ S71 ?_
   clear hK68 K68
   refine h_fin (by kernel_rfl) ?_
   refine then_normal ?_
   refine wp_meetR [54, 55, 56, 57, 58, 59, 60, 61, 62, 63, 64, 65] (fun G_ W_ => True ∧ Sat w [cellC t 115 ([(.int .i64 (T.f)), (.int .i64 (T.c)), (.map (some hb)), (.map (some cb)), (.map (some ab)), (.map (some lb))] : List Value), mapC hb voterV Value.bool (putM T.hv (⟨kind, round, replica⟩ : Voter) true), mapC cb choiceV (Value.int .i64) (putM T.count (⟨kind, round, h⟩ : Choice) ((lookM T.count (⟨kind, round, h⟩ : Choice)).getD 0 + 1)), mapC ab turnV (Value.int .i64) T.all, mapC lb (Value.int .i64) (Value.int .i64) T.last, restC w (tallyC t hb cb ab lb T).fp, cellC b2 36 (hc h), cellC b6 120 ([(.int .i64 (kind)), (.int .i64 (round)), (.int .i64 (replica))] : List Value)] W_) ?_ ?_
   ·refine h_start H70 [cellC t 115 ([(.int .i64 (T.f)), (.int .i64 (T.c)), (.map (some hb)), (.map (some cb)), (.map (some ab)), (.map (some lb))] : List Value), mapC hb voterV Value.bool (putM T.hv (⟨kind, round, replica⟩ : Voter) true), mapC ab turnV (Value.int .i64) T.all, mapC lb (Value.int .i64) (Value.int .i64) T.last, restC w (tallyC t hb cb ab lb T).fp, cellC b2 36 (hc h), cellC b6 120 ([(.int .i64 (kind)), (.int .i64 (round)), (.int .i64 (replica))] : List Value)] 13 rfl (by kernel_rfl) (fun Hx => (Hx.pick [0, 1, 3, 4, 5, 6, 7] (by decide))) ?_
    intro w73 H74 S75
    refine hv0 0 S75 54 (pt t 0) ?_
    refine hv0 1 S75 55 (pt t 0) ?_
    refine hv0 2 S75 56 (pt t 3) ?_
    refine hv0 3 S75 57 (.map (some cb)) ?_ (he := fun _ H' => (e_load1 rfl (by kernel_rfl) (H'.cell 0 rfl rfl)))
    refine hv0 4 S75 58 (.int .i64 (kind)) ?_
    refine hv0 5 S75 59 (.int .i64 (round)) ?_
    refine hv0 6 S75 60 (.agg ⟨(hc h)⟩) ?_ (he := fun _ H' => (e_loadN (vs := (hc h)) rfl (by kernel_rfl) (by kernel_rfl) (by exact Nat.le_of_ble_eq_true (by kernel_rfl)) (H'.at 5 rfl) (by kernel_rfl)))
    refine h_val 7 rfl (by kernel_rfl) (by kernel_rfl) (by kernel_rfl) (fun _ _ _ h => h) S75 (wants0 rfl) (d := 61) (v := (.agg ⟨(([(.int .i64 (kind)), (.int .i64 (round))] : List Value) ++ hc h)⟩)) rfl (fun _ H' => (by kernel_rfl)) ?_
    refine h_do2 8 10 rfl rfl (by kernel_rfl) (wants0 rfl) (wants0 rfl) (fun K76 hK76 => ?_) (fun K76 hK76 => ?_)
    ·refine d_pure (d := 62) (v := (.int .i64 ((lookM T.count (⟨kind, round, h⟩ : Choice)).getD 0))) rfl (e_lookup (kt := 122) (et := 3) choiceK (by kernel_rfl) (fun w => by kernel_rfl) rfl (⟨kind, round, h⟩ : Choice) rfl (H74.at 2 rfl) (optD (Value.int .i64) _ _)) ?_
     have S77 := H74.pick [0, 1, 3, 4, 5, 6, 7] (by decide)
     refine hK76 _ _ S77 ?_
     clear hK76 K76
     refine hv0 9 S77 63 (.int .i64 (((lookM T.count (⟨kind, round, h⟩ : Choice)).getD 0) + 1)) ?_ (he := fun _ H' => (e_int (z := ((lookM T.count (⟨kind, round, h⟩ : Choice)).getD 0) + 1) (by kernel_rfl) (IntWalk.i64_in _ (by have := hs.2.1 ⟨kind, round, h⟩; have := hs.2.2 ⟨kind, round⟩; omega))))
     refine h_do 10 rfl (by kernel_rfl) (wants0 rfl) (fun K78 hK78 => ?_)
     refine d_mapEntry (kt := 122) (et := 3) rfl H74 2 rfl choiceK (by kernel_rfl) (0 : Int) (fun w => by kernel_rfl) rfl (⟨kind, round, h⟩ : Choice) rfl ?_
     intro v79 t80 w81 (H82 : Sat w [cellC t 115 ([(.int .i64 (T.f)), (.int .i64 (T.c)), (.map (some hb)), (.map (some cb)), (.map (some ab)), (.map (some lb))] : List Value), mapC hb voterV Value.bool (putM T.hv (⟨kind, round, replica⟩ : Voter) true), entryC cb choiceV (Value.int .i64) T.count (⟨kind, round, h⟩ : Choice) ((lookM T.count (⟨kind, round, h⟩ : Choice)).getD (0 : Int)) t80, mapC ab turnV (Value.int .i64) T.all, mapC lb (Value.int .i64) (Value.int .i64) T.last, restC w (tallyC t hb cb ab lb T).fp, cellC b2 36 (hc h), cellC b6 120 ([(.int .i64 (kind)), (.int .i64 (round)), (.int .i64 (replica))] : List Value)] w81)
     have S83 := H82.pick [0, 1, 3, 4, 5, 6, 7] (by decide)
     refine hK78 _ _ S83 ?_
     clear hK78 K78
     refine hv0 11 S83 65 (.int .i64 (t80)) ?_
     refine h_do 12 rfl (by kernel_rfl) (wants0 rfl) (fun K84 hK84 => ?_)
     refine d_entryStore rfl H82 2 rfl rfl rfl (((lookM T.count (⟨kind, round, h⟩ : Choice)).getD 0) + 1) rfl ?_
     intro w85 (H86 : Sat w [cellC t 115 ([(.int .i64 (T.f)), (.int .i64 (T.c)), (.map (some hb)), (.map (some cb)), (.map (some ab)), (.map (some lb))] : List Value), mapC hb voterV Value.bool (putM T.hv (⟨kind, round, replica⟩ : Voter) true), mapC cb choiceV (Value.int .i64) (putM T.count (⟨kind, round, h⟩ : Choice) (((lookM T.count (⟨kind, round, h⟩ : Choice)).getD 0) + 1)), mapC ab turnV (Value.int .i64) T.all, mapC lb (Value.int .i64) (Value.int .i64) T.last, restC w (tallyC t hb cb ab lb T).fp, cellC b2 36 (hc h), cellC b6 120 ([(.int .i64 (kind)), (.int .i64 (round)), (.int .i64 (replica))] : List Value)] w85)
     have S87 := H86.pick [0, 1, 3, 4, 5, 6, 7] (by decide)
     refine hK84 _ _ S87 ?_
     clear hK84 K84
     refine h_fin (by kernel_rfl) ?_
     refine meetR_at ?_ ⟨trivial, H86⟩
     exact (same_upd rfl (same_upd rfl (same_upd rfl (same_upd rfl (same_upd rfl (same_upd rfl (same_upd rfl (same_upd rfl (same_upd rfl (same_upd rfl (same_upd rfl (same_upd rfl (same_refl)))))))))))))
    ·refine d_mapEntry (kt := 122) (et := 3) rfl H74 2 rfl choiceK (by kernel_rfl) (0 : Int) (fun w => by kernel_rfl) rfl (⟨kind, round, h⟩ : Choice) rfl ?_
     intro v88 t89 w90 (H91 : Sat w [cellC t 115 ([(.int .i64 (T.f)), (.int .i64 (T.c)), (.map (some hb)), (.map (some cb)), (.map (some ab)), (.map (some lb))] : List Value), mapC hb voterV Value.bool (putM T.hv (⟨kind, round, replica⟩ : Voter) true), entryC cb choiceV (Value.int .i64) T.count (⟨kind, round, h⟩ : Choice) ((lookM T.count (⟨kind, round, h⟩ : Choice)).getD (0 : Int)) t89, mapC ab turnV (Value.int .i64) T.all, mapC lb (Value.int .i64) (Value.int .i64) T.last, restC w (tallyC t hb cb ab lb T).fp, cellC b2 36 (hc h), cellC b6 120 ([(.int .i64 (kind)), (.int .i64 (round)), (.int .i64 (replica))] : List Value)] w90)
     have S92 := H91.pick [0, 1, 3, 4, 5, 6, 7] (by decide)
     refine hK76 _ _ S92 ?_
     clear hK76 K76
     refine hv0 11 S92 65 (.int .i64 (t89)) ?_
     refine h_do 8 rfl (by kernel_rfl) (wants0 rfl) (fun K93 hK93 => ?_)
     refine d_pure (d := 62) (v := (.int .i64 ((lookM T.count (⟨kind, round, h⟩ : Choice)).getD 0))) rfl (e_lookup (kt := 122) (et := 3) choiceK (by kernel_rfl) (fun w => by kernel_rfl) rfl (⟨kind, round, h⟩ : Choice) rfl (EntryAt.map (H91.at 2 rfl)) (look_put_same' (z := (Value.int .i64) (0 : Int)) _ _ _)) ?_
     have S94 := H91.pick [0, 1, 3, 4, 5, 6, 7] (by decide)
     refine hK93 _ _ S94 ?_
     clear hK93 K93
     refine hv0 9 S94 63 (.int .i64 (((lookM T.count (⟨kind, round, h⟩ : Choice)).getD 0) + 1)) ?_ (he := fun _ H' => (e_int (z := ((lookM T.count (⟨kind, round, h⟩ : Choice)).getD 0) + 1) (by kernel_rfl) (IntWalk.i64_in _ (by have := hs.2.1 ⟨kind, round, h⟩; have := hs.2.2 ⟨kind, round⟩; omega))))
     refine h_do 12 rfl (by kernel_rfl) (wants0 rfl) (fun K95 hK95 => ?_)
     refine d_entryStore rfl H91 2 rfl rfl rfl (((lookM T.count (⟨kind, round, h⟩ : Choice)).getD 0) + 1) rfl ?_
     intro w96 (H97 : Sat w [cellC t 115 ([(.int .i64 (T.f)), (.int .i64 (T.c)), (.map (some hb)), (.map (some cb)), (.map (some ab)), (.map (some lb))] : List Value), mapC hb voterV Value.bool (putM T.hv (⟨kind, round, replica⟩ : Voter) true), mapC cb choiceV (Value.int .i64) (putM T.count (⟨kind, round, h⟩ : Choice) (((lookM T.count (⟨kind, round, h⟩ : Choice)).getD 0) + 1)), mapC ab turnV (Value.int .i64) T.all, mapC lb (Value.int .i64) (Value.int .i64) T.last, restC w (tallyC t hb cb ab lb T).fp, cellC b2 36 (hc h), cellC b6 120 ([(.int .i64 (kind)), (.int .i64 (round)), (.int .i64 (replica))] : List Value)] w96)
     have S98 := H97.pick [0, 1, 3, 4, 5, 6, 7] (by decide)
     refine hK95 _ _ S98 ?_
     clear hK95 K95
     refine h_fin (by kernel_rfl) ?_
     refine meetR_at ?_ ⟨trivial, H97⟩
     exact (same_upd rfl (same_upd rfl (same_upd rfl (same_upd rfl (same_upd rfl (same_upd rfl (same_upd rfl (same_upd rfl (same_upd rfl (same_upd rfl (same_upd rfl (same_upd rfl (same_refl)))))))))))))
   ·rintro f99 w100 ⟨_, H101⟩
    refine wp_meetR [66, 67, 68, 69, 70, 71, 72, 73, 74, 75, 76] (fun G_ W_ => True ∧ Sat w [cellC t 115 ([(.int .i64 (T.f)), (.int .i64 (T.c)), (.map (some hb)), (.map (some cb)), (.map (some ab)), (.map (some lb))] : List Value), mapC hb voterV Value.bool (putM T.hv (⟨kind, round, replica⟩ : Voter) true), mapC cb choiceV (Value.int .i64) (putM T.count (⟨kind, round, h⟩ : Choice) ((lookM T.count (⟨kind, round, h⟩ : Choice)).getD 0 + 1)), mapC ab turnV (Value.int .i64) (putM T.all (⟨kind, round⟩ : Turn) ((lookM T.all (⟨kind, round⟩ : Turn)).getD 0 + 1)), mapC lb (Value.int .i64) (Value.int .i64) T.last, restC w (tallyC t hb cb ab lb T).fp, cellC b2 36 (hc h), cellC b6 120 ([(.int .i64 (kind)), (.int .i64 (round)), (.int .i64 (replica))] : List Value)] W_) ?_ ?_
    ·refine h_start H101 [cellC t 115 ([(.int .i64 (T.f)), (.int .i64 (T.c)), (.map (some hb)), (.map (some cb)), (.map (some ab)), (.map (some lb))] : List Value), mapC hb voterV Value.bool (putM T.hv (⟨kind, round, replica⟩ : Voter) true), mapC cb choiceV (Value.int .i64) (putM T.count (⟨kind, round, h⟩ : Choice) ((lookM T.count (⟨kind, round, h⟩ : Choice)).getD 0 + 1)), mapC lb (Value.int .i64) (Value.int .i64) T.last, restC w (tallyC t hb cb ab lb T).fp, cellC b2 36 (hc h), cellC b6 120 ([(.int .i64 (kind)), (.int .i64 (round)), (.int .i64 (replica))] : List Value)] 12 rfl (by kernel_rfl) (fun Hx => (Hx.pick [0, 1, 2, 4, 5, 6, 7] (by decide))) ?_
     intro w103 H104 S105
     refine hv0 0 S105 66 (pt t 0) ?_
     refine hv0 1 S105 67 (pt t 0) ?_
     refine hv0 2 S105 68 (pt t 4) ?_
     refine hv0 3 S105 69 (.map (some ab)) ?_ (he := fun _ H' => (e_load1 rfl (by kernel_rfl) (H'.cell 0 rfl rfl)))
     refine hv0 4 S105 70 (.int .i64 (kind)) ?_
     refine hv0 5 S105 71 (.int .i64 (round)) ?_
     refine h_val 6 rfl (by kernel_rfl) (by kernel_rfl) (by kernel_rfl) (fun _ _ _ h => h) S105 (wants0 rfl) (d := 72) (v := (.agg ⟨([(.int .i64 (kind)), (.int .i64 (round))] : List Value)⟩)) rfl (fun _ H' => (by kernel_rfl)) ?_
     refine h_do2 7 9 rfl rfl (by kernel_rfl) (wants0 rfl) (wants0 rfl) (fun K106 hK106 => ?_) (fun K106 hK106 => ?_)
     ·refine d_pure (d := 73) (v := (.int .i64 ((lookM T.all (⟨kind, round⟩ : Turn)).getD 0))) rfl (e_lookup (kt := 124) (et := 3) turnK (by kernel_rfl) (fun w => by kernel_rfl) rfl (⟨kind, round⟩ : Turn) rfl (H104.at 3 rfl) (optD (Value.int .i64) _ _)) ?_
      have S107 := H104.pick [0, 1, 2, 4, 5, 6, 7] (by decide)
      refine hK106 _ _ S107 ?_
      clear hK106 K106
      refine hv0 8 S107 74 (.int .i64 (((lookM T.all (⟨kind, round⟩ : Turn)).getD 0) + 1)) ?_ (he := fun _ H' => (e_int (z := ((lookM T.all (⟨kind, round⟩ : Turn)).getD 0) + 1) (by kernel_rfl) (IntWalk.i64_in _ (by have := hs.2.1 ⟨kind, round, h⟩; have := hs.2.2 ⟨kind, round⟩; omega))))
      refine h_do 9 rfl (by kernel_rfl) (wants0 rfl) (fun K108 hK108 => ?_)
      refine d_mapEntry (kt := 124) (et := 3) rfl H104 3 rfl turnK (by kernel_rfl) (0 : Int) (fun w => by kernel_rfl) rfl (⟨kind, round⟩ : Turn) rfl ?_
      intro v109 t110 w111 (H112 : Sat w [cellC t 115 ([(.int .i64 (T.f)), (.int .i64 (T.c)), (.map (some hb)), (.map (some cb)), (.map (some ab)), (.map (some lb))] : List Value), mapC hb voterV Value.bool (putM T.hv (⟨kind, round, replica⟩ : Voter) true), mapC cb choiceV (Value.int .i64) (putM T.count (⟨kind, round, h⟩ : Choice) ((lookM T.count (⟨kind, round, h⟩ : Choice)).getD 0 + 1)), entryC ab turnV (Value.int .i64) T.all (⟨kind, round⟩ : Turn) ((lookM T.all (⟨kind, round⟩ : Turn)).getD (0 : Int)) t110, mapC lb (Value.int .i64) (Value.int .i64) T.last, restC w (tallyC t hb cb ab lb T).fp, cellC b2 36 (hc h), cellC b6 120 ([(.int .i64 (kind)), (.int .i64 (round)), (.int .i64 (replica))] : List Value)] w111)
      have S113 := H112.pick [0, 1, 2, 4, 5, 6, 7] (by decide)
      refine hK108 _ _ S113 ?_
      clear hK108 K108
      refine hv0 10 S113 76 (.int .i64 (t110)) ?_
      refine h_do 11 rfl (by kernel_rfl) (wants0 rfl) (fun K114 hK114 => ?_)
      refine d_entryStore rfl H112 3 rfl rfl rfl (((lookM T.all (⟨kind, round⟩ : Turn)).getD 0) + 1) rfl ?_
      intro w115 (H116 : Sat w [cellC t 115 ([(.int .i64 (T.f)), (.int .i64 (T.c)), (.map (some hb)), (.map (some cb)), (.map (some ab)), (.map (some lb))] : List Value), mapC hb voterV Value.bool (putM T.hv (⟨kind, round, replica⟩ : Voter) true), mapC cb choiceV (Value.int .i64) (putM T.count (⟨kind, round, h⟩ : Choice) ((lookM T.count (⟨kind, round, h⟩ : Choice)).getD 0 + 1)), mapC ab turnV (Value.int .i64) (putM T.all (⟨kind, round⟩ : Turn) (((lookM T.all (⟨kind, round⟩ : Turn)).getD 0) + 1)), mapC lb (Value.int .i64) (Value.int .i64) T.last, restC w (tallyC t hb cb ab lb T).fp, cellC b2 36 (hc h), cellC b6 120 ([(.int .i64 (kind)), (.int .i64 (round)), (.int .i64 (replica))] : List Value)] w115)
      have S117 := H116.pick [0, 1, 2, 4, 5, 6, 7] (by decide)
      refine hK114 _ _ S117 ?_
      clear hK114 K114
      refine h_fin (by kernel_rfl) ?_
      refine meetR_at ?_ ⟨trivial, H116⟩
      exact (same_upd rfl (same_upd rfl (same_upd rfl (same_upd rfl (same_upd rfl (same_upd rfl (same_upd rfl (same_upd rfl (same_upd rfl (same_upd rfl (same_upd rfl (same_refl))))))))))))
     ·refine d_mapEntry (kt := 124) (et := 3) rfl H104 3 rfl turnK (by kernel_rfl) (0 : Int) (fun w => by kernel_rfl) rfl (⟨kind, round⟩ : Turn) rfl ?_
      intro v118 t119 w120 (H121 : Sat w [cellC t 115 ([(.int .i64 (T.f)), (.int .i64 (T.c)), (.map (some hb)), (.map (some cb)), (.map (some ab)), (.map (some lb))] : List Value), mapC hb voterV Value.bool (putM T.hv (⟨kind, round, replica⟩ : Voter) true), mapC cb choiceV (Value.int .i64) (putM T.count (⟨kind, round, h⟩ : Choice) ((lookM T.count (⟨kind, round, h⟩ : Choice)).getD 0 + 1)), entryC ab turnV (Value.int .i64) T.all (⟨kind, round⟩ : Turn) ((lookM T.all (⟨kind, round⟩ : Turn)).getD (0 : Int)) t119, mapC lb (Value.int .i64) (Value.int .i64) T.last, restC w (tallyC t hb cb ab lb T).fp, cellC b2 36 (hc h), cellC b6 120 ([(.int .i64 (kind)), (.int .i64 (round)), (.int .i64 (replica))] : List Value)] w120)
      have S122 := H121.pick [0, 1, 2, 4, 5, 6, 7] (by decide)
      refine hK106 _ _ S122 ?_
      clear hK106 K106
      refine hv0 10 S122 76 (.int .i64 (t119)) ?_
      refine h_do 7 rfl (by kernel_rfl) (wants0 rfl) (fun K123 hK123 => ?_)
      refine d_pure (d := 73) (v := (.int .i64 ((lookM T.all (⟨kind, round⟩ : Turn)).getD 0))) rfl (e_lookup (kt := 124) (et := 3) turnK (by kernel_rfl) (fun w => by kernel_rfl) rfl (⟨kind, round⟩ : Turn) rfl (EntryAt.map (H121.at 3 rfl)) (look_put_same' (z := (Value.int .i64) (0 : Int)) _ _ _)) ?_
      have S124 := H121.pick [0, 1, 2, 4, 5, 6, 7] (by decide)
      refine hK123 _ _ S124 ?_
      clear hK123 K123
      refine hv0 8 S124 74 (.int .i64 (((lookM T.all (⟨kind, round⟩ : Turn)).getD 0) + 1)) ?_ (he := fun _ H' => (e_int (z := ((lookM T.all (⟨kind, round⟩ : Turn)).getD 0) + 1) (by kernel_rfl) (IntWalk.i64_in _ (by have := hs.2.1 ⟨kind, round, h⟩; have := hs.2.2 ⟨kind, round⟩; omega))))
      refine h_do 11 rfl (by kernel_rfl) (wants0 rfl) (fun K125 hK125 => ?_)
      refine d_entryStore rfl H121 3 rfl rfl rfl (((lookM T.all (⟨kind, round⟩ : Turn)).getD 0) + 1) rfl ?_
      intro w126 (H127 : Sat w [cellC t 115 ([(.int .i64 (T.f)), (.int .i64 (T.c)), (.map (some hb)), (.map (some cb)), (.map (some ab)), (.map (some lb))] : List Value), mapC hb voterV Value.bool (putM T.hv (⟨kind, round, replica⟩ : Voter) true), mapC cb choiceV (Value.int .i64) (putM T.count (⟨kind, round, h⟩ : Choice) ((lookM T.count (⟨kind, round, h⟩ : Choice)).getD 0 + 1)), mapC ab turnV (Value.int .i64) (putM T.all (⟨kind, round⟩ : Turn) (((lookM T.all (⟨kind, round⟩ : Turn)).getD 0) + 1)), mapC lb (Value.int .i64) (Value.int .i64) T.last, restC w (tallyC t hb cb ab lb T).fp, cellC b2 36 (hc h), cellC b6 120 ([(.int .i64 (kind)), (.int .i64 (round)), (.int .i64 (replica))] : List Value)] w126)
      have S128 := H127.pick [0, 1, 2, 4, 5, 6, 7] (by decide)
      refine hK125 _ _ S128 ?_
      clear hK125 K125
      refine h_fin (by kernel_rfl) ?_
      refine meetR_at ?_ ⟨trivial, H127⟩
      exact (same_upd rfl (same_upd rfl (same_upd rfl (same_upd rfl (same_upd rfl (same_upd rfl (same_upd rfl (same_upd rfl (same_upd rfl (same_upd rfl (same_upd rfl (same_refl))))))))))))
    ·rintro f129 w130 ⟨_, H131⟩
     iterate 2 refine w_seq ?_
     refine w_lit ?_
     refine wv 78 (pt t 0) ?_
     refine wv 79 (pt t 0) ?_
     refine wv 80 (pt t 5) ?_
     refine wv 81 (.map (some lb)) ?_ (hr := e_load1 rfl (by kernel_rfl) (H131.cell 0 rfl rfl))
     refine wv 82 (.int .i64 (replica)) ?_
     refine wv 83 (.tuple #[(.int .i64 ((lookM T.last (replica : Int)).getD 0)), (.bool ((lookM T.last (replica : Int)).isSome))]) ?_ (hr := e_lookup2 (kt := 3) (et := 3) (KeyTy.int (by kernel_rfl)) (by kernel_rfl) (fun w => by kernel_rfl) rfl (replica : Int) rfl (H131.at 4 rfl) (optD (Value.int .i64) _ _) rfl)
     refine wv 77 (.tuple #[(.int .i64 ((lookM T.last (replica : Int)).getD 0)), (.bool ((lookM T.last (replica : Int)).isSome))]) ?_
     refine wv 84 (.int .i64 ((lookM T.last (replica : Int)).getD 0)) ?_
     refine wv 85 (.bool ((lookM T.last (replica : Int)).isSome)) ?_
     refine wv 12 (.int .i64 ((lookM T.last (replica : Int)).getD 0)) ?_
     refine wv 13 (.bool ((lookM T.last (replica : Int)).isSome)) ?_
     refine w_nil ?_
     refine then_normal ?_
     refine wp_meetR [86, 87, 88, 89, 90, 91, 92] (fun G_ W_ => G_ 92 = (.bool (!(lookM T.last replica).isSome || decide (round > (lookM T.last replica).getD 0))) ∧ Sat w [cellC t 115 ([(.int .i64 (T.f)), (.int .i64 (T.c)), (.map (some hb)), (.map (some cb)), (.map (some ab)), (.map (some lb))] : List Value), mapC hb voterV Value.bool (putM T.hv (⟨kind, round, replica⟩ : Voter) true), mapC cb choiceV (Value.int .i64) (putM T.count (⟨kind, round, h⟩ : Choice) ((lookM T.count (⟨kind, round, h⟩ : Choice)).getD 0 + 1)), mapC ab turnV (Value.int .i64) (putM T.all (⟨kind, round⟩ : Turn) ((lookM T.all (⟨kind, round⟩ : Turn)).getD 0 + 1)), mapC lb (Value.int .i64) (Value.int .i64) T.last, restC w (tallyC t hb cb ab lb T).fp, cellC b2 36 (hc h), cellC b6 120 ([(.int .i64 (kind)), (.int .i64 (round)), (.int .i64 (replica))] : List Value)] W_) ?_ ?_
     ·refine w_lit ?_
      refine wv 86 (.bool ((lookM T.last (replica : Int)).isSome)) ?_
      refine wv 87 (.bool (!((lookM T.last (replica : Int)).isSome))) ?_
      refine wv 88 (.bool (!((lookM T.last (replica : Int)).isSome))) ?_
      refine (bsplit (!((lookM T.last (replica : Int)).isSome))).elim (fun b133 => ?_) (fun b133 => ?_)
      ·have g134 := bnot_true b133
       refine wl_know 88 (.bool true) (congrArg Value.bool b133) ?_
       iterate 3 refine wn 2 88 false ?_
       refine wv 92 (.bool true) ?_
       refine w_nil ?_
       refine meetR_at ?_ ⟨(congrArg Value.bool (show true = (!(lookM T.last replica).isSome || decide (round > (lookM T.last replica).getD 0)) by simp [b133])), H131⟩
       exact (same_upd rfl (same_upd rfl (same_upd rfl (same_upd rfl (same_upd rfl (same_upd rfl (same_upd rfl (same_upd rfl (same_refl)))))))))
      ·have g135 := bnot_false b133
       refine wl_know 88 (.bool false) (congrArg Value.bool b133) ?_
       refine wy 2 88 false 89 (.int .i64 (round)) ?_
       refine wy 2 88 false 90 (.int .i64 ((lookM T.last (replica : Int)).getD 0)) ?_
       refine wy 2 88 false 91 (.bool (decide (round > ((lookM T.last (replica : Int)).getD 0)))) ?_
       refine wv 92 (.bool (decide (round > ((lookM T.last (replica : Int)).getD 0)))) ?_
       refine w_nil ?_
       refine meetR_at ?_ ⟨(congrArg Value.bool (show (decide (round > ((lookM T.last (replica : Int)).getD 0))) = (!(lookM T.last replica).isSome || decide (round > (lookM T.last replica).getD 0)) by simp [b133])), H131⟩
       exact (same_upd rfl (same_upd rfl (same_upd rfl (same_upd rfl (same_upd rfl (same_upd rfl (same_upd rfl (same_upd rfl (same_refl)))))))))
     ·rintro f136 w137 ⟨v139, H138⟩
      refine wp_know 92 _ v139 ?_
      refine (bsplit (!(lookM T.last replica).isSome || decide (round > (lookM T.last replica).getD 0))).elim (fun b140 => ?_) (fun b140 => ?_)
      ·refine wp_know 92 (.bool true) (congrArg Value.bool b140) ?_
       refine wp_ift rfl ?_
       refine w_lit ?_
       refine wv 93 (pt t 0) ?_
       refine wv 94 (pt t 0) ?_
       refine wv 95 (pt t 5) ?_
       refine wv 96 (.map (some lb)) ?_ (hr := e_load1 rfl (by kernel_rfl) (H138.cell 0 rfl rfl))
       refine wv 97 (.int .i64 (replica)) ?_
       refine wv 98 (.int .i64 (round)) ?_
       refine wl_do (wants0 rfl) (fun K141 hK141 => ?_)
       refine d_mapUpdate (kt := 3) (et := 3) rfl H138 4 rfl (KeyTy.int (by kernel_rfl)) (by kernel_rfl) rfl (replica : Int) rfl (round) rfl ?_
       intro w142 (H143 : Sat w [cellC t 115 ([(.int .i64 (T.f)), (.int .i64 (T.c)), (.map (some hb)), (.map (some cb)), (.map (some ab)), (.map (some lb))] : List Value), mapC hb voterV Value.bool (putM T.hv (⟨kind, round, replica⟩ : Voter) true), mapC cb choiceV (Value.int .i64) (putM T.count (⟨kind, round, h⟩ : Choice) ((lookM T.count (⟨kind, round, h⟩ : Choice)).getD 0 + 1)), mapC ab turnV (Value.int .i64) (putM T.all (⟨kind, round⟩ : Turn) ((lookM T.all (⟨kind, round⟩ : Turn)).getD 0 + 1)), mapC lb (Value.int .i64) (Value.int .i64) (putM T.last (replica : Int) (round)), restC w (tallyC t hb cb ab lb T).fp, cellC b2 36 (hc h), cellC b6 120 ([(.int .i64 (kind)), (.int .i64 (round)), (.int .i64 (replica))] : List Value)] w142)
       refine hK141 _ _ ?_
       clear hK141 K141
       refine w_nil ?_
       refine then_normal ?_
       refine w_seq ?_
       refine w_lit ?_
       refine wv 10 (.bool true) ?_
       refine w_nil ?_
       refine then_normal ?_
       refine w_ret ?_
       refine end1 rfl (res_tmp (v := (.bool true)) rfl) ?_
       exact ⟨by rw [b64]; rfl, by rw [if_neg (by rw [b64]; simp)]; exact H143.fin [0, 1, 2, 3, 4] (by decide) (by unfold addT tallyL; rw [if_pos b140]; rfl), H143.upd 5 rfl _ (fun _ h => tallyC_fp h)⟩
      ·refine wp_know 92 (.bool false) (congrArg Value.bool b140) ?_
       refine wp_iff rfl ?_
       refine w_skip ?_
       refine then_normal ?_
       refine w_seq ?_
       refine w_lit ?_
       refine wv 10 (.bool true) ?_
       refine w_nil ?_
       refine then_normal ?_
       refine w_ret ?_
       refine end1 rfl (res_tmp (v := (.bool true)) rfl) ?_
       exact ⟨by rw [b64]; rfl, by rw [if_neg (by rw [b64]; simp)]; exact H138.fin [0, 1, 2, 3, 4] (by decide) (by unfold addT tallyL; rw [if_neg (by rw [b140]; simp)]; rfl), H138.upd 5 rfl _ (fun _ h => tallyC_fp h)⟩

set_option maxRecDepth 100000 in
set_option maxHeartbeats 400000 in
theorem tallyFor_any (w : World) (t hb cb ab lb : Nat) (T : TallyS) (hT : (tallyC t hb cb ab lb T).ok w) (kind round : Int) (h : Hash) :
  Calls Try.prog 67 #[(.pointer (some ⟨t, 0, none⟩)), (.int .i64 (kind)), (.int .i64 (round)), (.agg ⟨(hc h)⟩)] w fun e w' => e = .returned (.int .i64 ((lookM T.count ⟨kind, round, h⟩).getD 0)) ∧ Upd [] w w' := by
 obtain ⟨hcell, hm1, hm2, hm3, hm4⟩ := tallyC_parts hT
 have H := Sat.start0 w
 refine calls_fr Try.func67 rfl 18 rfl (Nat.le_of_ble_eq_true rfl) ?_
 refine w_seq ?_
 refine w_lit ?_
 refine wl_do (wants0 rfl) (fun K1 hK1 => ?_)
 refine d_box (vs := (hc h)) rfl H rfl rfl ?_
 intro b2 w3 (H4 : Sat w [restC w (fun _ => False), cellC b2 36 (hc h)] w3)
 refine hK1 _ _ ?_
 clear hK1 K1
 refine wv 8 (.int .i64 (0)) ?_
 refine w_nil ?_
 refine then_normal ?_
 refine w_seq ?_
 refine q_start H4 (by kernel_rfl) (by kernel_rfl) ?_
 refine qv 9 (pt t 0) ?_
 refine qv 10 (pt t 0) ?_
 refine qv 11 (pt t 3) ?_
 refine qv 12 (.map (some cb)) ?_ (hr := fun _ H' => (e_load1 rfl (by kernel_rfl) (H'.roCell 0 rfl hcell (fun h => h) rfl)))
 refine qv 13 (.int .i64 (kind)) ?_
 refine qv 14 (.int .i64 (round)) ?_
 refine qv 15 (.agg ⟨(hc h)⟩) ?_ (hr := fun _ H' => (e_loadN (vs := (hc h)) rfl (by kernel_rfl) (by kernel_rfl) (by exact Nat.le_of_ble_eq_true (by kernel_rfl)) (H'.at 1 rfl) (by kernel_rfl)))
 refine q_val (wants0 rfl) (d := 16) (v := (.agg ⟨(([(.int .i64 (kind)), (.int .i64 (round))] : List Value) ++ hc h)⟩)) rfl (fun _ H' => (by kernel_rfl)) ?_
 refine qv 17 (.int .i64 ((lookM T.count (⟨kind, round, h⟩ : Choice)).getD 0)) ?_ (hr := fun _ H' => (e_lookup (kt := 122) (et := 3) choiceK (by kernel_rfl) (fun w => by kernel_rfl) rfl (⟨kind, round, h⟩ : Choice) rfl (H'.roMap 0 rfl hm2 (fun h => h)) (optD (Value.int .i64) _ _)))
 refine qv 8 (.int .i64 ((lookM T.count (⟨kind, round, h⟩ : Choice)).getD 0)) ?_
 refine q_end ?_
 intro w5 H6
 refine then_normal ?_
 refine w_ret ?_
 refine end1 rfl (res_tmp (v := (.int .i64 ((lookM T.count (⟨kind, round, h⟩ : Choice)).getD 0))) rfl) ?_
 exact ⟨rfl, H6.upd 0 rfl [] (fun _ h => h.elim)⟩

set_option maxRecDepth 100000 in
set_option maxHeartbeats 400000 in
theorem tallyAll_any (w : World) (t hb cb ab lb : Nat) (T : TallyS) (hT : (tallyC t hb cb ab lb T).ok w) (kind round : Int) :
  Calls Try.prog 68 #[(.pointer (some ⟨t, 0, none⟩)), (.int .i64 (kind)), (.int .i64 (round))] w fun e w' => e = .returned (.int .i64 ((lookM T.all ⟨kind, round⟩).getD 0)) ∧ Upd [] w w' := by
 obtain ⟨hcell, hm1, hm2, hm3, hm4⟩ := tallyC_parts hT
 have H := Sat.start0 w
 refine calls_fr Try.func68 rfl 15 rfl (Nat.le_of_ble_eq_true rfl) ?_
 refine w_seq ?_
 refine w_lit ?_
 refine wv 6 (.int .i64 (0)) ?_
 refine w_nil ?_
 refine then_normal ?_
 refine w_seq ?_
 refine w_lit ?_
 refine wv 7 (pt t 0) ?_
 refine wv 8 (pt t 0) ?_
 refine wv 9 (pt t 4) ?_
 refine wv 10 (.map (some ab)) ?_ (hr := e_load1 rfl (by kernel_rfl) (H.roCell 0 rfl hcell (fun h => h) rfl))
 refine wv 11 (.int .i64 (kind)) ?_
 refine wv 12 (.int .i64 (round)) ?_
 refine wv 13 (.agg ⟨([(.int .i64 (kind)), (.int .i64 (round))] : List Value)⟩) ?_
 refine wv 14 (.int .i64 ((lookM T.all (⟨kind, round⟩ : Turn)).getD 0)) ?_ (hr := e_lookup (kt := 124) (et := 3) turnK (by kernel_rfl) (fun w => by kernel_rfl) rfl (⟨kind, round⟩ : Turn) rfl (H.roMap 0 rfl hm3 (fun h => h)) (optD (Value.int .i64) _ _))
 refine wv 6 (.int .i64 ((lookM T.all (⟨kind, round⟩ : Turn)).getD 0)) ?_
 refine w_nil ?_
 refine then_normal ?_
 refine w_ret ?_
 refine end1 rfl (res_tmp (v := (.int .i64 ((lookM T.all (⟨kind, round⟩ : Turn)).getD 0))) rfl) ?_
 exact ⟨rfl, H.upd 0 rfl [] (fun _ h => h.elim)⟩

set_option maxRecDepth 100000 in
set_option maxHeartbeats 400000 in
theorem tallyHeard_any (w : World) (t hb cb ab lb : Nat) (T : TallyS) (hT : (tallyC t hb cb ab lb T).ok w) (round : Int) (hl : T.last.length ≤ 1000000000) :
  Calls Try.prog 72 #[(.pointer (some ⟨t, 0, none⟩)), (.int .i64 (round))] w fun e w' => e = .returned (.int .i64 (heardT T round)) ∧ Upd [] w w' := by
 obtain ⟨hcell, hm1, hm2, hm3, hm4⟩ := tallyC_parts hT
 have H := Sat.start0 w
 have hlen : T.last.length ≤ 1000000000 := hl
 refine calls_fr Try.func72 rfl 23 rfl (Nat.le_of_ble_eq_true rfl) ?_
 refine w_seq ?_
 refine w_lit ?_
 refine wv 4 (.int .i64 (0)) ?_
 refine w_nil ?_
 refine then_normal ?_
 refine w_seq ?_
 refine w_lit ?_
 refine wv 5 (.int .i64 (0)) ?_
 refine w_nil ?_
 refine then_normal ?_
 iterate 2 refine w_seq ?_
 refine w_lit ?_
 refine wv 8 (pt t 0) ?_
 refine wv 9 (pt t 0) ?_
 refine wv 10 (pt t 5) ?_
 refine wv 11 (.map (some lb)) ?_ (hr := e_load1 rfl (by kernel_rfl) (H.roCell 0 rfl hcell (fun h => h) rfl))
 refine wl_do (wants0 rfl) (fun K1 hK1 => ?_)
 refine d_rangeR (kt := 3) (et := 3) rfl H 0 rfl hm4 (fun h => h) (by kernel_rfl) rfl ?_
 intro r2 w3 (H4 : Sat w [restC w (fun _ => False), iterR w r2 lb (Value.int .i64) (Value.int .i64) T.last []] w3)
 refine hK1 _ _ ?_
 clear hK1 K1
 refine w_nil ?_
 refine then_normal ?_
 refine w_block ?_
 refine wp_round [5, 7, 13, 14, 15, 16, 17, 18, 19, 20, 21] (fun F_ W_ m_ => ∃ (seen rest : List (Int × Int)), F_ 5 = (.int .i64 (((seen.filter fun y => decide (y.2 ≥ round)).length : Int))) ∧ ((T.last).Perm (seen ++ rest)) ∧ Sat w [restC w (fun _ => False), iterR w r2 lb (Value.int .i64) (Value.int .i64) T.last seen] W_ ∧ m_ = rest.length) _ ⟨[], T.last, (by first | rfl | go_num), (List.Perm.refl _), H4, rfl⟩ ?_
 rintro g5 w6 _ ⟨seen, rest, v8, hperm, H7, rfl⟩
 refine wp_know 5 _ v8 ?_
 refine w_seq ?_
 refine w_lit ?_
 refine wl_do (wants0 rfl) (fun K10 hK10 => ?_)
 refine d_nextR rfl H7 1 rfl 0 rfl (fun h => h) rfl ?_ ?_
 ·intro p11
  refine hK10 _ _ ?_
  clear hK10 K10
  refine wv 14 (.bool false) ?_
  refine w_nil ?_
  refine then_normal ?_
  refine w_seq ?_
  refine wp_iff rfl ?_
  refine w_exit ?_
  refine then_exit ?_
  refine back_exit ?_
  refine blk_hit ?_
  refine then_normal ?_
  refine w_seq ?_
  refine w_lit ?_
  refine wv 22 (.int .i64 (((seen.filter fun y => decide (y.2 ≥ round)).length : Int))) ?_
  refine wv 4 (.int .i64 (((seen.filter fun y => decide (y.2 ≥ round)).length : Int))) ?_
  refine w_nil ?_
  refine then_normal ?_
  refine w_ret ?_
  refine end1 rfl (res_tmp (v := (.int .i64 (((seen.filter fun y => decide (y.2 ≥ round)).length : Int)))) rfl) ?_
  exact ⟨by rw [heardT, (p11.filter _).length_eq], H7.upd 0 rfl [] (fun _ h => h.elim)⟩
 ·intro y12 t13 w14 p15 (H16 : Sat w [restC w (fun _ => False), iterR w r2 lb (Value.int .i64) (Value.int .i64) T.last (seen ++ [y12])] w14)
  refine hK10 _ _ ?_
  clear hK10 K10
  refine wv 14 (.bool true) ?_
  refine w_nil ?_
  refine then_normal ?_
  refine w_seq ?_
  refine wp_ift rfl ?_
  refine w_skip ?_
  refine then_normal ?_
  refine w_block ?_
  refine w_seq ?_
  refine w_lit ?_
  refine wv 15 (.tuple #[(.int .i64 (y12.1)), (.int .i64 (y12.2))]) ?_ (hr := H16.entryR 1 rfl 0 rfl (fun h => h) rfl)
  refine wv 16 (.int .i64 (y12.2)) ?_
  refine wv 7 (.int .i64 (y12.2)) ?_
  refine w_nil ?_
  refine then_normal ?_
  refine w_seq ?_
  refine w_lit ?_
  refine wv 17 (.int .i64 (y12.2)) ?_
  refine wv 18 (.int .i64 (round)) ?_
  refine wv 19 (.bool (decide (y12.2 ≥ round))) ?_
  refine w_nil ?_
  refine then_normal ?_
  refine (bsplit (decide (y12.2 ≥ round))).elim (fun b17 => ?_) (fun b17 => ?_)
  ·have g18 := of_decide_eq_true b17
   refine wp_know 19 (.bool true) (congrArg Value.bool b17) ?_
   refine wp_ift rfl ?_
   refine w_lit ?_
   refine wv 20 (.int .i64 (((seen.filter fun y => decide (y.2 ≥ round)).length : Int))) ?_
   refine wv 21 (.int .i64 (((seen.filter fun y => decide (y.2 ≥ round)).length : Int) + 1)) ?_ (hr := e_int (z := ((seen.filter fun y => decide (y.2 ≥ round)).length : Int) + 1) (by kernel_rfl) (IntWalk.i64_in _ (by have h1 := hperm.length_eq; have h2 := List.length_filter_le (fun y : Int × Int => decide (y.2 ≥ round)) seen; simp only [List.length_append] at h1; omega)))
   refine wv 5 (.int .i64 (((seen.filter fun y => decide (y.2 ≥ round)).length : Int) + 1)) ?_
   refine w_nil ?_
   refine blk_normal ?_
   refine round_back ?_ _ ⟨(seen ++ [y12]), t13, (show ((.int .i64 (((seen.filter fun y => decide (y.2 ≥ round)).length : Int) + 1)) : Value) = _ by rw [List.filter_append]; simp [b17]), p15, H16, rfl⟩ (by have h1 := hperm.length_eq; have h2 := p15.length_eq; simp only [List.length_append, List.length_cons, List.length_nil] at h1 h2; omega)
   iterate 13 refine same_upd rfl ?_
   exact same_ovr
  ·have g19 := of_decide_eq_false b17
   refine wp_know 19 (.bool false) (congrArg Value.bool b17) ?_
   refine wp_iff rfl ?_
   refine w_skip ?_
   refine blk_normal ?_
   refine round_back ?_ _ ⟨(seen ++ [y12]), t13, (show ((.int .i64 (((seen.filter fun y => decide (y.2 ≥ round)).length : Int))) : Value) = _ by rw [List.filter_append]; simp [b17]), p15, H16, rfl⟩ (by have h1 := hperm.length_eq; have h2 := p15.length_eq; simp only [List.length_append, List.length_cons, List.length_nil] at h1 h2; omega)
   iterate 10 refine same_upd rfl ?_
   exact same_ovr

set_option maxRecDepth 100000 in
set_option maxHeartbeats 400000 in
theorem tallyNew_any (w : World) (f c : Int) :
  Calls Try.prog 34 #[(.agg ⟨([(.int .i64 (f)), (.int .i64 (c))] : List Value)⟩)] w fun e w' => (confB f c = true ∧ ∃ t hb cb ab lb, e = .returned (.tuple #[.pointer (some ⟨t, 0, none⟩), .int .i64 0]) ∧ (tallyC t hb cb ab lb ⟨f, c, [], [], [], []⟩).ok w' ∧ Upd [] w w' ∧ ∀ b, (tallyC t hb cb ab lb ⟨f, c, [], [], [], []⟩).fp b → w.heap.size ≤ b) ∨ (confB f c = false ∧ e = .returned (.tuple #[.pointer none, .int .i64 1]) ∧ Upd [] w w') := by
 have H := Sat.start0 w
 refine calls_fr Try.func34 rfl 14 rfl (Nat.le_of_ble_eq_true rfl) ?_
 refine w_seq ?_
 refine w_lit ?_
 refine wl_do (wants0 rfl) (fun K1 hK1 => ?_)
 refine d_box (vs := ([(.int .i64 (f)), (.int .i64 (c))] : List Value)) rfl H rfl rfl ?_
 intro b2 w3 (H4 : Sat w [restC w (fun _ => False), cellC b2 25 ([(.int .i64 (f)), (.int .i64 (c))] : List Value)] w3)
 refine hK1 _ _ ?_
 clear hK1 K1
 refine wv 2 (.pointer none) ?_
 refine wv 3 (.int .i64 (0)) ?_
 refine w_nil ?_
 refine then_normal ?_
 iterate 2 refine w_seq ?_
 refine w_lit ?_
 refine wv 4 (.agg ⟨([(.int .i64 (f)), (.int .i64 (c))] : List Value)⟩) ?_ (hr := e_loadN (vs := ([(.int .i64 (f)), (.int .i64 (c))] : List Value)) rfl (by kernel_rfl) (by kernel_rfl) (by exact Nat.le_of_ble_eq_true (by kernel_rfl)) (H4.at 1 rfl) (by kernel_rfl))
 refine wl_do (wants0 rfl) (fun K5 hK5 => ?_)
 refine d_call (d := 5) rfl (by kernel_rfl) (validConf_any w3 f c) ?_
 rintro _ w6 ⟨rfl, u8⟩
 have H7 := H4.keepU u8
 refine ⟨_, rfl, ?_⟩
 refine hK5 _ _ ?_
 clear hK5 K5
 refine wv 6 (.bool (!(confB f c))) ?_
 refine w_nil ?_
 refine then_normal ?_
 refine (bsplit (!(confB f c))).elim (fun b9 => ?_) (fun b9 => ?_)
 ·have g10 := bnot_true b9
  refine wp_know 6 (.bool true) (congrArg Value.bool b9) ?_
  refine wp_ift rfl ?_
  refine w_seq ?_
  refine w_lit ?_
  refine wv 2 (.pointer none) ?_
  refine wv 3 (.int .i64 (1)) ?_
  refine w_nil ?_
  refine then_normal ?_
  refine w_ret ?_
  refine then_ret ?_
  refine end2 rfl (res_tmp (v := (.pointer none)) rfl) (res_tmp (v := (.int .i64 (1))) rfl) ?_
  exact Or.inr ⟨by simpa using b9, rfl, H7.upd 0 rfl [] (fun _ h => h.elim)⟩
 ·have g11 := bnot_false b9
  refine wp_know 6 (.bool false) (congrArg Value.bool b9) ?_
  refine wp_iff rfl ?_
  refine w_skip ?_
  refine then_normal ?_
  refine w_seq ?_
  refine w_lit ?_
  refine wv 7 (.agg ⟨([(.int .i64 (f)), (.int .i64 (c))] : List Value)⟩) ?_ (hr := e_loadN (vs := ([(.int .i64 (f)), (.int .i64 (c))] : List Value)) rfl (by kernel_rfl) (by kernel_rfl) (by exact Nat.le_of_ble_eq_true (by kernel_rfl)) (H7.at 1 rfl) (by kernel_rfl))
  refine wl_do (wants0 rfl) (fun K12 hK12 => ?_)
  refine d_makeMap voterV Value.bool rfl H7 ?_
  intro b13 w14 (H15 : Sat w [restC w (fun _ => False), cellC b2 25 ([(.int .i64 (f)), (.int .i64 (c))] : List Value), mapC b13 voterV Value.bool []] w14)
  refine hK12 _ _ ?_
  clear hK12 K12
  refine wl_do (wants0 rfl) (fun K16 hK16 => ?_)
  refine d_makeMap choiceV (Value.int .i64) rfl H15 ?_
  intro b17 w18 (H19 : Sat w [restC w (fun _ => False), cellC b2 25 ([(.int .i64 (f)), (.int .i64 (c))] : List Value), mapC b13 voterV Value.bool [], mapC b17 choiceV (Value.int .i64) []] w18)
  refine hK16 _ _ ?_
  clear hK16 K16
  refine wl_do (wants0 rfl) (fun K20 hK20 => ?_)
  refine d_makeMap turnV (Value.int .i64) rfl H19 ?_
  intro b21 w22 (H23 : Sat w [restC w (fun _ => False), cellC b2 25 ([(.int .i64 (f)), (.int .i64 (c))] : List Value), mapC b13 voterV Value.bool [], mapC b17 choiceV (Value.int .i64) [], mapC b21 turnV (Value.int .i64) []] w22)
  refine hK20 _ _ ?_
  clear hK20 K20
  refine wl_do (wants0 rfl) (fun K24 hK24 => ?_)
  refine d_makeMap (Value.int .i64) (Value.int .i64) rfl H23 ?_
  intro b25 w26 (H27 : Sat w [restC w (fun _ => False), cellC b2 25 ([(.int .i64 (f)), (.int .i64 (c))] : List Value), mapC b13 voterV Value.bool [], mapC b17 choiceV (Value.int .i64) [], mapC b21 turnV (Value.int .i64) [], mapC b25 (Value.int .i64) (Value.int .i64) []] w26)
  refine hK24 _ _ ?_
  clear hK24 K24
  refine wv 12 (.agg ⟨([(.int .i64 (f)), (.int .i64 (c)), (.map (some b13)), (.map (some b17)), (.map (some b21)), (.map (some b25))] : List Value)⟩) ?_
  refine wl_do (wants0 rfl) (fun K28 hK28 => ?_)
  refine d_box (vs := ([(.int .i64 (f)), (.int .i64 (c)), (.map (some b13)), (.map (some b17)), (.map (some b21)), (.map (some b25))] : List Value)) rfl H27 rfl rfl ?_
  intro b29 w30 (H31 : Sat w [restC w (fun _ => False), cellC b2 25 ([(.int .i64 (f)), (.int .i64 (c))] : List Value), mapC b13 voterV Value.bool [], mapC b17 choiceV (Value.int .i64) [], mapC b21 turnV (Value.int .i64) [], mapC b25 (Value.int .i64) (Value.int .i64) [], cellC b29 115 ([(.int .i64 (f)), (.int .i64 (c)), (.map (some b13)), (.map (some b17)), (.map (some b21)), (.map (some b25))] : List Value)] w30)
  refine hK28 _ _ ?_
  clear hK28 K28
  refine wv 2 (pt b29 0) ?_
  refine wv 3 (.int .i64 (0)) ?_
  refine w_nil ?_
  refine then_normal ?_
  refine w_ret ?_
  refine end2 rfl (res_tmp (v := (pt b29 0)) rfl) (res_tmp (v := (.int .i64 (0))) rfl) ?_
  exact Or.inl ⟨by simpa using b9, b29, b13, b17, b21, b25, rfl, H31.fin [6, 2, 3, 4, 5] (by decide) rfl, H31.upd 0 rfl [] (fun _ h => h.elim), H31.freshS 0 rfl (fun _ h => h) [6, 2, 3, 4, 5] rfl rfl⟩

end Go.Proofs.Ythjmbhneifjeeaa
