/- WHAT IS PROVED: the walk of RevealMatches. Conditions: stated with each. -/
import Derived.Test.YtoiplcicbjimlaaKp16
namespace Go.Proofs.Ytoiplcicbjimlaa
open Go.RowKit

set_option maxRecDepth 100000 in
set_option maxHeartbeats 1000000 in
theorem wakes_any (w : World) :
    Calls Try.prog 16 #[] w fun e w' => e = .returned (.bool true) ∧ Upd [] w w' := by
  have H := Sat.start0 w
  refine calls_fr Try.func16 rfl 25 rfl (Nat.le_of_ble_eq_true rfl) ?_
  refine w_seq ?_
  refine w_lit ?_
  refine wl_pure (wants0 rfl) (d := 0) (v := (.bool false)) rfl (by kernel_rfl) ?_
  refine w_nil ?_
  refine then_normal ?_
  refine w_seq ?_
  refine w_lit ?_
  refine wl_pure (wants0 rfl) (d := 4) (v := (.agg ⟨([(.int .i64 (1)), (.int .i64 (1))] : List Value)⟩)) rfl (by kernel_rfl) ?_
  refine wl_do (wants0 rfl) (fun K1 hK1 => ?_)
  refine d_call (d := 5) rfl (by kernel_rfl) (revNew_any w 1 1 0 (by decide) (by decide)) ?_
  rintro _ w2 ⟨r3, m4, rfl, k5, p6, q7⟩
  have H8 : Sat w [restC w (fun _ => False), sepC [cellC r3 86 ([(.int .i64 (1)), (.int .i64 (1)), (.int .i64 (0)), (.map (some m4))] : List Value), mapC m4 (Value.int .i64) encP ([] : List (Int × PlaceD))]] w2 := H.addU p6 k5 q7
  have H9 : Sat w [restC w (fun _ => False), cellC r3 86 ([(.int .i64 (1)), (.int .i64 (1)), (.int .i64 (0)), (.map (some m4))] : List Value), mapC m4 (Value.int .i64) encP ([] : List (Int × PlaceD))] w2 := H8.open 1 rfl
  refine ⟨_, rfl, ?_⟩
  refine hK1 _ _ ?_
  clear hK1 K1
  refine wl_pure (wants0 rfl) (d := 3) (v := (.tuple #[(.pointer (some ⟨r3, 0, none⟩)), (.int .i64 (0))])) rfl (by kernel_rfl) ?_
  refine wl_pure (wants0 rfl) (d := 6) (v := (.pointer (some ⟨r3, 0, none⟩))) rfl (by kernel_rfl) ?_
  refine wl_pure (wants0 rfl) (d := 7) (v := (.int .i64 (0))) rfl (by kernel_rfl) ?_
  refine wl_pure (wants0 rfl) (d := 1) (v := (.pointer (some ⟨r3, 0, none⟩))) rfl (by kernel_rfl) ?_
  refine wl_pure (wants0 rfl) (d := 2) (v := (.int .i64 (0))) rfl (by kernel_rfl) ?_
  refine w_nil ?_
  refine then_normal ?_
  refine w_seq ?_
  refine w_lit ?_
  refine wl_pure (wants0 rfl) (d := 8) (v := (.int .i64 (0))) rfl (by kernel_rfl) ?_
  refine wl_pure (wants0 rfl) (d := 9) (v := (.bool true)) rfl (by kernel_rfl) ?_
  refine wl_pure (wants0 rfl) (d := 10) (v := (.bool true)) rfl (by kernel_rfl) ?_
  refine wl_pure (wantsY 2 10 true rfl (by kernel_rfl) rfl (by kernel_rfl)) (d := 11) (v := (.pointer (some ⟨r3, 0, none⟩))) rfl (by kernel_rfl) ?_
  refine wl_pure (wantsY 2 10 true rfl (by kernel_rfl) rfl (by kernel_rfl)) (d := 12) (v := (.bool true)) rfl (by kernel_rfl) ?_
  refine wl_pure (wants0 rfl) (d := 13) (v := (.bool true)) rfl (by kernel_rfl) ?_
  refine wl_pure (wants0 rfl) (d := 14) (v := (.bool true)) rfl (by kernel_rfl) ?_
  refine wl_pure (wantsY 6 14 true rfl (by kernel_rfl) rfl (by kernel_rfl)) (d := 15) (v := (.pointer (some ⟨r3, 0, none⟩))) rfl (by kernel_rfl) ?_
  refine wl_pure (wantsY 6 14 true rfl (by kernel_rfl) rfl (by kernel_rfl)) (d := 16) (v := (.agg ⟨(([(.int .i64 (0)), (.slice none 0 0)] : List Value) ++ hc hash0)⟩)) rfl (by kernel_rfl) ?_
  refine wl_do (wantsY 6 14 true rfl (by kernel_rfl) rfl (by kernel_rfl)) (fun K10 hK10 => ?_)
  refine d_call (d := 17) rfl (by kernel_rfl) (revOpenZ_any w2 r3 m4 1 1 0 (H9.at 1 rfl) (H9.at 2 rfl) 0 (.slice none 0 0) hash0) ?_
  rintro _ w11 ⟨rfl, u12⟩
  have H13 := H9.keepU u12
  refine ⟨_, rfl, ?_⟩
  refine hK10 _ _ ?_
  clear hK10 K10
  refine wl_pure (wantsY 6 14 true rfl (by kernel_rfl) rfl (by kernel_rfl)) (d := 18) (v := (.bool true)) rfl (by kernel_rfl) ?_
  refine wl_pure (wants0 rfl) (d := 19) (v := (.bool true)) rfl (by kernel_rfl) ?_
  refine wl_pure (wants0 rfl) (d := 20) (v := (.bool true)) rfl (by kernel_rfl) ?_
  refine wl_pure (wantsY 12 20 true rfl (by kernel_rfl) rfl (by kernel_rfl)) (d := 21) (v := (.pointer (some ⟨r3, 0, none⟩))) rfl (by kernel_rfl) ?_
  refine wl_pure (wantsY 12 20 true rfl (by kernel_rfl) rfl (by kernel_rfl)) (d := 22) (v := (.agg ⟨(([(.int .i64 (0)), (.int .i64 (0))] : List Value) ++ hc hash0 ++ ([(.int .u64 (0))] : List Value))⟩)) rfl (by kernel_rfl) ?_
  refine wl_do (wantsY 12 20 true rfl (by kernel_rfl) rfl (by kernel_rfl)) (fun K14 hK14 => ?_)
  refine d_call (d := 23) rfl (by kernel_rfl) (revPlace_any w11 r3 m4 1 1 0 (H13.fin [1, 2] (by decide) rfl) 0 0 0 hash0 0 0 (by omega)) ?_
  rintro _ w15 ⟨P16, rfl, hn1, hn2, hh, hack, hden, T17⟩
  have H18 : Sat w [restC w (fun _ => False), cellC r3 86 ([(.int .i64 (1)), (.int .i64 (1)), (.int .i64 (0)), (.map (some m4))] : List Value), mapC m4 (Value.int .i64) encP [(0, P16)]] w15 := (Sat.turnL (L' := [cellC r3 86 ([(.int .i64 (1)), (.int .i64 (1)), (.int .i64 (0)), (.map (some m4))] : List Value), mapC m4 (Value.int .i64) encP [(0, P16)]]) (R := [restC w (fun _ => False)]) H13 [1, 2] [0] (by decide) (by kernel_rfl) rfl T17).pick [2, 0, 1] (by decide)
  refine ⟨_, rfl, ?_⟩
  refine hK14 _ _ ?_
  clear hK14 K14
  refine wl_pure (wants0 rfl) (d := 24) (v := (.bool true)) rfl (by kernel_rfl) ?_
  refine wl_pure (wants0 rfl) (d := 0) (v := (.bool true)) rfl (by kernel_rfl) ?_
  refine w_nil ?_
  refine then_normal ?_
  refine w_ret ?_
  refine end1 rfl (res_tmp (v := (.bool true)) rfl) ?_
  exact ⟨rfl, H18.upd 0 rfl [] (fun _ h => h.elim)⟩

set_option maxRecDepth 100000 in
set_option maxHeartbeats 2000000 in
theorem matches16_walk (w : World) (pa : Option Addr) (pc : Nat) (p : List UInt8) (hp : ListAt encB 1 w (.slice pa p.length pc) p) (x : Hash) (i : Int) :
    Calls Try.prog 3 #[(.slice pa p.length pc), (.agg ⟨(hc x)⟩), (.int .i64 (i))] w fun e w' => e = .returned (.bool true) ∧ Upd [] w w' := by
  have hw := within_lim i 9 (by omega)
  obtain ⟨k, hk⟩ : ∃ k, k = withinV i 9 := ⟨_, rfl⟩
  rw [← hk] at hw
  have hkk : withinV k 9 = k := by unfold withinV; rw [if_neg (by decide)]; exact Int.emod_eq_of_lt hw.1 hw.2
  have h30 : (p.take 30).length ≤ 30 := by rw [List.length_take]; omega
  have H := Sat.start0 w
  refine calls_fr Try.func3 rfl 98 rfl (Nat.le_of_ble_eq_true rfl) ?_
  refine w_seq ?_
  refine w_lit ?_
  refine wl_do (wants0 rfl) (fun K1 hK1 => ?_)
  refine d_box (vs := (hc x)) rfl H rfl rfl ?_
  intro b2 w3 (H4 : Sat w [restC w (fun _ => False), cellC b2 24 (hc x)] w3)
  refine hK1 _ _ ?_
  clear hK1 K1
  refine wl_pure (wants0 rfl) (d := 6) (v := (.bool false)) rfl (by kernel_rfl) ?_
  refine w_nil ?_
  refine then_normal ?_
  refine w_seq ?_
  refine w_lit ?_
  refine wl_pure (wants0 rfl) (d := 12) (v := (.slice pa p.length pc)) rfl (by kernel_rfl) ?_
  refine wl_do (wants0 rfl) (fun K5 hK5 => ?_)
  refine d_call (d := 13) rfl (by kernel_rfl) (cutB_any w3 pa pc p (ListAt.now H4 0 rfl hp) 30 (by decide)) ?_
  rintro _ w6 ⟨u7, rfl, k8, p9, q10⟩
  have H11 : Sat w [restC w (fun _ => False), cellC b2 24 (hc x), rowC 5 1 u7 ((p.take 30).length) ((p.take 30).flatMap encB)] w6 := H4.addU p9 k8 q10
  obtain ⟨a12, c13, rfl⟩ := ownsRow_shape (H11.at 2 rfl)
  refine ⟨_, rfl, ?_⟩
  refine hK5 _ _ ?_
  clear hK5 K5
  refine wl_pure (wants0 rfl) (d := 0) (v := (.slice a12 ((p.take 30).length) c13)) rfl (by kernel_rfl) ?_
  refine w_nil ?_
  refine then_normal ?_
  refine w_seq ?_
  refine w_lit ?_
  refine wl_pure (wants0 rfl) (d := 15) (v := (.agg ⟨([(.int .i64 (1)), (.int .i64 (3))] : List Value)⟩)) rfl (by kernel_rfl) ?_
  refine wl_do (wants0 rfl) (fun K14 hK14 => ?_)
  refine d_call (d := 16) rfl (by kernel_rfl) (revNew_any w6 1 3 1 (by decide) (by decide)) ?_
  rintro _ w15 ⟨r16, m17, rfl, k18, p19, q20⟩
  have H21 : Sat w [restC w (fun _ => False), cellC b2 24 (hc x), rowC 5 1 (.slice a12 ((p.take 30).length) c13) ((p.take 30).length) ((p.take 30).flatMap encB), sepC [cellC r16 86 ([(.int .i64 (1)), (.int .i64 (3)), (.int .i64 (1)), (.map (some m17))] : List Value), mapC m17 (Value.int .i64) encP ([] : List (Int × PlaceD))]] w15 := H11.addU p19 k18 q20
  have H22 : Sat w [restC w (fun _ => False), cellC b2 24 (hc x), rowC 5 1 (.slice a12 ((p.take 30).length) c13) ((p.take 30).length) ((p.take 30).flatMap encB), cellC r16 86 ([(.int .i64 (1)), (.int .i64 (3)), (.int .i64 (1)), (.map (some m17))] : List Value), mapC m17 (Value.int .i64) encP ([] : List (Int × PlaceD))] w15 := H21.open 3 rfl
  refine ⟨_, rfl, ?_⟩
  refine hK14 _ _ ?_
  clear hK14 K14
  refine wl_pure (wants0 rfl) (d := 14) (v := (.tuple #[(.pointer (some ⟨r16, 0, none⟩)), (.int .i64 (0))])) rfl (by kernel_rfl) ?_
  refine wl_pure (wants0 rfl) (d := 17) (v := (.pointer (some ⟨r16, 0, none⟩))) rfl (by kernel_rfl) ?_
  refine wl_pure (wants0 rfl) (d := 18) (v := (.int .i64 (0))) rfl (by kernel_rfl) ?_
  refine wl_pure (wants0 rfl) (d := 7) (v := (.pointer (some ⟨r16, 0, none⟩))) rfl (by kernel_rfl) ?_
  refine wl_pure (wants0 rfl) (d := 8) (v := (.int .i64 (0))) rfl (by kernel_rfl) ?_
  refine w_nil ?_
  refine then_normal ?_
  refine w_seq ?_
  refine w_lit ?_
  refine wl_pure (wants0 rfl) (d := 19) (v := (.int .i64 (i))) rfl (by kernel_rfl) ?_
  refine wl_do (wants0 rfl) (fun K23 hK23 => ?_)
  refine d_call (d := 20) rfl (by kernel_rfl) (within_any w15 i 9 (by omega)) ?_
  rintro _ w24 ⟨rfl, u26⟩
  have H25 := H22.keepU u26
  refine ⟨_, rfl, ?_⟩
  refine hK23 _ _ ?_
  clear hK23 K23
  refine wl_pure (wants0 rfl) (d := 2) (v := (.int .i64 (withinV i 9))) rfl (by kernel_rfl) ?_
  refine w_nil ?_
  refine then_normal ?_
  refine w_seq ?_
  refine w_seq ?_
  refine wp_know 2 (.int .i64 (k)) (show ((.int .i64 (withinV i 9)) : Value) = _ by rw [hk]) ?_
  refine w_lit ?_
  refine wl_pure (wants0 rfl) (d := 21) (v := (.int .i64 (0))) rfl (by kernel_rfl) ?_
  refine wl_pure (wants0 rfl) (d := 22) (v := (.bool false)) rfl (by kernel_rfl) ?_
  refine wl_pure (wants0 rfl) (d := 23) (v := (.bool false)) rfl (by kernel_rfl) ?_
  refine wl_pure (wantsY 2 23 false rfl (by kernel_rfl) rfl (by kernel_rfl)) (d := 24) (v := (.pointer (some ⟨r16, 0, none⟩))) rfl (by kernel_rfl) ?_
  refine wl_pure (wantsY 2 23 false rfl (by kernel_rfl) rfl (by kernel_rfl)) (d := 25) (v := (.bool false)) rfl (by kernel_rfl) ?_
  refine wl_pure (wants0 rfl) (d := 26) (v := (.bool false)) rfl (by kernel_rfl) ?_
  refine wl_pure (wants0 rfl) (d := 27) (v := (.bool false)) rfl (by kernel_rfl) ?_
  refine wl_pure (wantsY 6 27 false rfl (by kernel_rfl) rfl (by kernel_rfl)) (d := 28) (v := (.pointer (some ⟨r16, 0, none⟩))) rfl (by kernel_rfl) ?_
  refine wl_pure (wantsY 6 27 false rfl (by kernel_rfl) rfl (by kernel_rfl)) (d := 29) (v := (.int .i64 (k))) rfl (by kernel_rfl) ?_
  refine wl_pure (wantsY 6 27 false rfl (by kernel_rfl) rfl (by kernel_rfl)) (d := 30) (v := (.int .i64 (k))) rfl (by kernel_rfl) ?_
  refine wl_do (wantsY 6 27 false rfl (by kernel_rfl) rfl (by kernel_rfl)) (fun K27 hK27 => ?_)
  refine d_call (d := 31) rfl (by kernel_rfl) (entry_any w24 k) ?_
  rintro _ w28 ⟨rfl, u30⟩
  have H29 := H25.keepU u30
  refine ⟨_, rfl, ?_⟩
  refine hK27 _ _ ?_
  clear hK27 K27
  refine wl_do (wantsY 6 27 false rfl (by kernel_rfl) rfl (by kernel_rfl)) (fun K31 hK31 => ?_)
  refine d_call (d := 32) rfl (by kernel_rfl) (revPlace_any w28 r16 m17 1 3 1 (H29.fin [3, 4] (by decide) rfl) k 1 (1 + withinV k 9) (entH k) 3 0 (by omega)) ?_
  rintro _ w32 ⟨P33, rfl, hn1, hn2, hh, hack, hden, T34⟩
  have H35 : Sat w [restC w (fun _ => False), cellC b2 24 (hc x), rowC 5 1 (.slice a12 ((p.take 30).length) c13) ((p.take 30).length) ((p.take 30).flatMap encB), cellC r16 86 ([(.int .i64 (1)), (.int .i64 (3)), (.int .i64 (1)), (.map (some m17))] : List Value), mapC m17 (Value.int .i64) encP [(k, P33)]] w32 := (Sat.turnL (L' := [cellC r16 86 ([(.int .i64 (1)), (.int .i64 (3)), (.int .i64 (1)), (.map (some m17))] : List Value), mapC m17 (Value.int .i64) encP [(k, P33)]]) (R := [restC w (fun _ => False), cellC b2 24 (hc x), rowC 5 1 (.slice a12 ((p.take 30).length) c13) ((p.take 30).length) ((p.take 30).flatMap encB)]) H29 [3, 4] [0, 1, 2] (by decide) (by kernel_rfl) rfl T34).pick [2, 3, 4, 0, 1] (by decide)
  refine ⟨_, rfl, ?_⟩
  refine hK31 _ _ ?_
  clear hK31 K31
  refine wl_pure (wantsY 6 27 false rfl (by kernel_rfl) rfl (by kernel_rfl)) (d := 33) (v := (.bool false)) rfl (by kernel_rfl) ?_
  refine wl_pure (wants0 rfl) (d := 34) (v := (.bool false)) rfl (by kernel_rfl) ?_
  refine w_nil ?_
  refine then_normal ?_
  refine wp_iff rfl ?_
  refine w_skip ?_
  refine then_normal ?_
  refine w_seq ?_
  refine w_lit ?_
  refine wl_pure (wants0 rfl) (d := 35) (v := (.agg ⟨(hc x)⟩)) rfl (e_loadN (vs := (hc x)) rfl (by kernel_rfl) (by kernel_rfl) (by exact Nat.le_of_ble_eq_true (by kernel_rfl)) (H35.at 1 rfl) (by kernel_rfl)) ?_
  refine wl_pure (wants0 rfl) (d := 36) (v := (.agg ⟨(hc (hash1 (7)))⟩)) rfl (by kernel_rfl) ?_
  refine wl_pure (wants0 rfl) (d := 37) (v := (.bool (decide (x = (hash1 (7)))))) rfl (e_eqHash x (hash1 (7)) rfl rfl) ?_
  refine wl_pure (wants0 rfl) (d := 38) (v := (.bool (decide (x = (hash1 (7)))))) rfl (by kernel_rfl) ?_
  refine (bsplit (decide (x = (hash1 (7))))).elim (fun b36 => ?_) (fun b36 => ?_)
  · have g37 := of_decide_eq_true b36
    refine wl_know 38 (.bool true) (congrArg Value.bool b36) ?_
    have g38 := of_decide_eq_true b36
    refine wl_pure (wantsY 3 38 true rfl (by kernel_rfl) rfl (by kernel_rfl)) (d := 39) (v := (.slice a12 ((p.take 30).length) c13)) rfl (by kernel_rfl) ?_
    refine wl_pure (wantsY 3 38 true rfl (by kernel_rfl) rfl (by kernel_rfl)) (d := 40) (v := (.int .i64 (k))) rfl (by kernel_rfl) ?_
    refine wl_pure (wantsY 3 38 true rfl (by kernel_rfl) rfl (by kernel_rfl)) (d := 41) (v := (.int .u8 (k))) rfl (e_int (z := k) (by kernel_rfl) (wrap_u8 (by omega))) ?_
    refine wl_do (wantsY 3 38 true rfl (by kernel_rfl) rfl (by kernel_rfl)) (fun K39 hK39 => ?_)
    refine d_buildSlice (e := 5) (size := 1) (bytes := 1) (z := (.int .u8 (0))) (pvs := [(0, (.int .u8 (k)))]) (vs := ([(.int .u8 (k))] : List Value)) rfl H35 (by kernel_rfl) (by kernel_rfl) (by kernel_rfl) (by kernel_rfl) (by kernel_rfl) rfl rfl ?_
    intro b40 w41 (H42 : Sat w [restC w (fun _ => False), cellC b2 24 (hc x), rowC 5 1 (.slice a12 ((p.take 30).length) c13) ((p.take 30).length) ((p.take 30).flatMap encB), cellC r16 86 ([(.int .i64 (1)), (.int .i64 (3)), (.int .i64 (1)), (.map (some m17))] : List Value), mapC m17 (Value.int .i64) encP [(k, P33)], rowC 5 1 (.slice (some ⟨b40, 0, none⟩) 1 1) 1 ([(.int .u8 (k))] : List Value)] w41)
    have H43 : Sat w [restC w (fun _ => False), cellC b2 24 (hc x), rowC 5 1 (.slice a12 ((p.take 30).length) c13) ((p.take 30).length) ((p.take 30).flatMap encB), cellC r16 86 ([(.int .i64 (1)), (.int .i64 (3)), (.int .i64 (1)), (.map (some m17))] : List Value), mapC m17 (Value.int .i64) encP [(k, P33)], rowC 5 1 (.slice (some ⟨b40, 0, none⟩) 1 1) 1 ([UInt8.ofNat (k).toNat].flatMap encB)] w41 := H42.cast (by rw [byte_enc (by omega)])
    refine hK39 _ _ ?_
    clear hK39 K39
    refine wl_do (wantsY 3 38 true rfl (by kernel_rfl) rfl (by kernel_rfl)) (fun K44 hK44 => ?_)
    refine d_call (d := 43) rfl (by kernel_rfl) (sameB_any w41 a12 c13 (p.take 30) (ListAt.row (enc := encB) (sz := 1) encB_len (by decide) (H43.at 2 rfl)) (by omega) (some ⟨b40, 0, none⟩) 1 ([UInt8.ofNat (k).toNat]) (ListAt.row (enc := encB) (sz := 1) encB_len (by decide) (H43.at 5 rfl))) ?_
    rintro _ w45 ⟨rfl, u47⟩
    have H46 := H43.keepU u47
    refine ⟨_, rfl, ?_⟩
    refine hK44 _ _ ?_
    clear hK44 K44
    refine wl_pure (wants0 rfl) (d := 44) (v := (.bool (decide ((p.take 30) = [UInt8.ofNat (k).toNat])))) rfl (by kernel_rfl) ?_
    refine wl_pure (wants0 rfl) (d := 9) (v := (.bool (decide ((p.take 30) = [UInt8.ofNat (k).toNat])))) rfl (by kernel_rfl) ?_
    refine w_nil ?_
    refine then_normal ?_
    refine w_seq ?_
    refine w_lit ?_
    refine wl_pure (wants0 rfl) (d := 45) (v := (.pointer (some ⟨r16, 0, none⟩))) rfl (by kernel_rfl) ?_
    refine wl_pure (wants0 rfl) (d := 46) (v := (.int .i64 (k))) rfl (by kernel_rfl) ?_
    refine wl_pure (wants0 rfl) (d := 47) (v := (.slice a12 ((p.take 30).length) c13)) rfl (by kernel_rfl) ?_
    refine wl_pure (wants0 rfl) (d := 48) (v := (.agg ⟨(hc x)⟩)) rfl (e_loadN (vs := (hc x)) rfl (by kernel_rfl) (by kernel_rfl) (by exact Nat.le_of_ble_eq_true (by kernel_rfl)) (H46.at 1 rfl) (by kernel_rfl)) ?_
    refine wl_pure (wants0 rfl) (d := 49) (v := (.agg ⟨(([(.int .i64 (k)), (.slice a12 ((p.take 30).length) c13)] : List Value) ++ hc x)⟩)) rfl (by kernel_rfl) ?_
    refine wl_do (wants0 rfl) (fun K48 hK48 => ?_)
    refine d_call (d := 50) rfl (by kernel_rfl) (revOpen_any w45 r16 m17 1 3 1 k P33 a12 c13 (p.take 30) (H46.fin [3, 4, 2] (by decide) rfl) x (by omega) hden hack (by omega) (by omega)) ?_
    rintro _ w49 (⟨heq, rfl, P50, hack2, T51⟩ | ⟨hne, rfl, T51⟩)
    · have H52 : Sat w [restC w (fun _ => False), cellC b2 24 (hc x), rowC 5 1 (.slice a12 ((p.take 30).length) c13) ((p.take 30).length) ((p.take 30).flatMap encB), cellC r16 86 ([(.int .i64 (1)), (.int .i64 (3)), (.int .i64 (1)), (.map (some m17))] : List Value), mapC m17 (Value.int .i64) encP [(k, P50)], rowC 5 1 (.slice (some ⟨b40, 0, none⟩) 1 1) 1 ([UInt8.ofNat (k).toNat].flatMap encB)] w49 := (Sat.turnL (L' := [cellC r16 86 ([(.int .i64 (1)), (.int .i64 (3)), (.int .i64 (1)), (.map (some m17))] : List Value), mapC m17 (Value.int .i64) encP [(k, P50)], rowC 5 1 (.slice a12 ((p.take 30).length) c13) ((p.take 30).length) ((p.take 30).flatMap encB)]) (R := [restC w (fun _ => False), cellC b2 24 (hc x), rowC 5 1 (.slice (some ⟨b40, 0, none⟩) 1 1) 1 ([UInt8.ofNat (k).toNat].flatMap encB)]) H46 [3, 4, 2] [0, 1, 5] (by decide) (by kernel_rfl) rfl T51).pick [3, 4, 2, 0, 1, 5] (by decide)
      refine ⟨_, rfl, ?_⟩
      refine hK48 _ _ ?_
      clear hK48 K48
      refine wl_pure (wants0 rfl) (d := 10) (v := (.int .i64 (0))) rfl (by kernel_rfl) ?_
      refine w_nil ?_
      refine then_normal ?_
      refine w_seq ?_
      refine w_lit ?_
      refine wl_pure (wants0 rfl) (d := 51) (v := (.pointer (some ⟨r16, 0, none⟩))) rfl (by kernel_rfl) ?_
      refine wl_pure (wants0 rfl) (d := 52) (v := (.int .i64 (k))) rfl (by kernel_rfl) ?_
      refine wl_pure (wants0 rfl) (d := 53) (v := (.int .i64 (k + 1))) rfl (e_int (z := k + 1) (by kernel_rfl) (IntWalk.i64_in _ (by omega))) ?_
      refine wl_pure (wants0 rfl) (d := 54) (v := (.slice a12 ((p.take 30).length) c13)) rfl (by kernel_rfl) ?_
      refine wl_pure (wants0 rfl) (d := 55) (v := (.agg ⟨(hc x)⟩)) rfl (e_loadN (vs := (hc x)) rfl (by kernel_rfl) (by kernel_rfl) (by exact Nat.le_of_ble_eq_true (by kernel_rfl)) (H52.at 1 rfl) (by kernel_rfl)) ?_
      refine wl_pure (wants0 rfl) (d := 56) (v := (.agg ⟨(([(.int .i64 (k + 1)), (.slice a12 ((p.take 30).length) c13)] : List Value) ++ hc x)⟩)) rfl (by kernel_rfl) ?_
      refine wl_do (wants0 rfl) (fun K53 hK53 => ?_)
      refine d_call (d := 57) rfl (by kernel_rfl) (revOpenO_any w49 r16 m17 1 3 1 k P50 (H52.at 3 rfl) (H52.at 4 rfl) (k + 1) (.slice a12 ((p.take 30).length) c13) x (by omega)) ?_
      rintro _ w54 ⟨rfl, u55⟩
      have H56 := H52.keepU u55
      refine ⟨_, rfl, ?_⟩
      refine hK53 _ _ ?_
      clear hK53 K53
      refine wl_pure (wants0 rfl) (d := 11) (v := (.int .i64 (6))) rfl (by kernel_rfl) ?_
      refine w_nil ?_
      refine then_normal ?_
      refine w_seq ?_
      refine w_seq ?_
      refine w_lit ?_
      refine wl_pure (wants0 rfl) (d := 58) (v := (.bool (decide ((p.take 30) = [UInt8.ofNat (k).toNat])))) rfl (by kernel_rfl) ?_
      refine w_nil ?_
      refine then_normal ?_
      refine (bsplit (decide ((p.take 30) = [UInt8.ofNat (k).toNat]))).elim (fun b57 => ?_) (fun b57 => ?_)
      · refine wp_know 58 (.bool true) (congrArg Value.bool b57) ?_
        refine wp_ift rfl ?_
        refine w_seq ?_
        refine w_lit ?_
        refine wl_pure (wants0 rfl) (d := 59) (v := (.int .i64 (0))) rfl (by kernel_rfl) ?_
        refine wl_pure (wants0 rfl) (d := 60) (v := (.bool true)) rfl (by kernel_rfl) ?_
        refine wl_pure (wants0 rfl) (d := 61) (v := (.bool true)) rfl (by kernel_rfl) ?_
        refine wl_pure (wantsY 2 61 true rfl (by kernel_rfl) rfl (by kernel_rfl)) (d := 62) (v := (.int .i64 (6))) rfl (by kernel_rfl) ?_
        refine wl_pure (wantsY 2 61 true rfl (by kernel_rfl) rfl (by kernel_rfl)) (d := 63) (v := (.bool true)) rfl (by kernel_rfl) ?_
        refine wl_pure (wants0 rfl) (d := 64) (v := (.bool true)) rfl (by kernel_rfl) ?_
        refine wl_pure (wants0 rfl) (d := 65) (v := (.bool true)) rfl (by kernel_rfl) ?_
        refine wl_pure (wantsY 6 65 true rfl (by kernel_rfl) rfl (by kernel_rfl)) (d := 66) (v := (.pointer (some ⟨r16, 0, none⟩))) rfl (by kernel_rfl) ?_
        refine wl_pure (wantsY 6 65 true rfl (by kernel_rfl) rfl (by kernel_rfl)) (d := 67) (v := (.int .i64 (k))) rfl (by kernel_rfl) ?_
        refine wl_do (wantsY 6 65 true rfl (by kernel_rfl) rfl (by kernel_rfl)) (fun K58 hK58 => ?_)
        refine d_call (d := 68) rfl (by kernel_rfl) (revAcked_any w54 r16 m17 1 3 1 k P50 (H56.at 3 rfl) (H56.at 4 rfl)) ?_
        rintro _ w59 ⟨rfl, u61⟩
        have H60 := H56.keepU u61
        refine ⟨_, rfl, ?_⟩
        refine hK58 _ _ ?_
        clear hK58 K58
        refine wl_pure (wants0 rfl) (d := 69) (v := (.bool (P50.acked))) rfl (by kernel_rfl) ?_
        refine wl_pure (wants0 rfl) (d := 70) (v := (.bool (P50.acked))) rfl (by kernel_rfl) ?_
        have b62 : (P50.acked) = true := by exact hack2
        refine wl_know 70 (.bool true) (congrArg Value.bool b62) ?_
        refine wl_do (wantsY 11 70 true rfl (by kernel_rfl) rfl (by kernel_rfl)) (fun K63 hK63 => ?_)
        refine d_call (d := 71) rfl (by kernel_rfl) (wakes_any w59) ?_
        rintro _ w64 ⟨rfl, u66⟩
        have H65 := H60.keepU u66
        refine ⟨_, rfl, ?_⟩
        refine hK63 _ _ ?_
        clear hK63 K63
        refine wl_pure (wants0 rfl) (d := 72) (v := (.bool true)) rfl (by kernel_rfl) ?_
        refine wl_pure (wants0 rfl) (d := 6) (v := (.bool true)) rfl (by kernel_rfl) ?_
        refine w_nil ?_
        refine then_normal ?_
        refine w_ret ?_
        refine then_ret ?_
        refine end1 rfl (res_tmp (v := (.bool true)) rfl) ?_
        exact ⟨rfl, H65.upd 0 rfl [] (fun _ h => h.elim)⟩
      · refine wp_know 58 (.bool false) (congrArg Value.bool b57) ?_
        refine wp_iff rfl ?_
        refine w_skip ?_
        refine then_normal ?_
        refine w_seq ?_
        refine w_lit ?_
        refine wl_pure (wants0 rfl) (d := 73) (v := (.int .i64 (0))) rfl (by kernel_rfl) ?_
        refine wl_pure (wants0 rfl) (d := 74) (v := (.bool false)) rfl (by kernel_rfl) ?_
        refine wl_pure (wants0 rfl) (d := 75) (v := (.bool false)) rfl (by kernel_rfl) ?_
        refine wl_pass (wantsN 2 75 true rfl (by kernel_rfl) rfl (by kernel_rfl)) rfl ?_
        refine wl_pass (wantsN 2 75 true rfl (by kernel_rfl) rfl (by kernel_rfl)) rfl ?_
        refine wl_pass (wantsN 2 75 true rfl (by kernel_rfl) rfl (by kernel_rfl)) rfl ?_
        refine wl_pass (wantsN 2 75 true rfl (by kernel_rfl) rfl (by kernel_rfl)) rfl ?_
        refine wl_pure (wants0 rfl) (d := 80) (v := (.bool false)) rfl (by kernel_rfl) ?_
        refine wl_pure (wants0 rfl) (d := 81) (v := (.bool false)) rfl (by kernel_rfl) ?_
        refine wl_pure (wantsY 8 81 false rfl (by kernel_rfl) rfl (by kernel_rfl)) (d := 82) (v := (.int .i64 (0))) rfl (by kernel_rfl) ?_
        refine wl_pure (wantsY 8 81 false rfl (by kernel_rfl) rfl (by kernel_rfl)) (d := 83) (v := (.bool true)) rfl (by kernel_rfl) ?_
        refine wl_pure (wantsY 8 81 false rfl (by kernel_rfl) rfl (by kernel_rfl)) (d := 84) (v := (.bool true)) rfl (by kernel_rfl) ?_
        refine wl_pure (wantsY 11 84 true rfl (by kernel_rfl) rfl (by kernel_rfl)) (d := 85) (v := (.int .i64 (k))) rfl (by kernel_rfl) ?_
        refine wl_pure (wantsY 11 84 true rfl (by kernel_rfl) rfl (by kernel_rfl)) (d := 86) (v := (.slice a12 ((p.take 30).length) c13)) rfl (by kernel_rfl) ?_
        refine wl_pure (wantsY 11 84 true rfl (by kernel_rfl) rfl (by kernel_rfl)) (d := 87) (v := (.agg ⟨(hc x)⟩)) rfl (e_loadN (vs := (hc x)) rfl (by kernel_rfl) (by kernel_rfl) (by exact Nat.le_of_ble_eq_true (by kernel_rfl)) (H56.at 1 rfl) (by kernel_rfl)) ?_
        refine wl_do (wantsY 11 84 true rfl (by kernel_rfl) rfl (by kernel_rfl)) (fun K67 hK67 => ?_)
        refine d_call (d := 88) rfl (by kernel_rfl) (clash_any w54 k a12 c13 (p.take 30) (ListAt.row (enc := encB) (sz := 1) encB_len (by decide) (H56.at 2 rfl)) (by omega) x) ?_
        rintro _ w68 ⟨rfl, u70⟩
        have H69 := H56.keepU u70
        refine ⟨_, rfl, ?_⟩
        refine hK67 _ _ ?_
        clear hK67 K67
        refine wl_pure (wantsY 8 81 false rfl (by kernel_rfl) rfl (by kernel_rfl)) (d := 89) (v := (.bool (decide (shaR (ofT 1 (1 + withinV k 9) x (p.take 30)) = entH k)))) rfl (by kernel_rfl) ?_
        refine wl_pure (wants0 rfl) (d := 90) (v := (.bool (decide (shaR (ofT 1 (1 + withinV k 9) x (p.take 30)) = entH k)))) rfl (by kernel_rfl) ?_
        refine wl_pure (wants0 rfl) (d := 91) (v := (.bool (decide (shaR (ofT 1 (1 + withinV k 9) x (p.take 30)) = entH k)))) rfl (by kernel_rfl) ?_
        have b71 : (decide (shaR (ofT 1 (1 + withinV k 9) x (p.take 30)) = entH k)) = true := by exact decide_eq_true (by rw [← hh, heq, hn1, hn2])
        refine wl_know 91 (.bool true) (congrArg Value.bool b71) ?_
        refine wl_pure (wantsY 18 91 true rfl (by kernel_rfl) rfl (by kernel_rfl)) (d := 92) (v := (.int .i64 (6))) rfl (by kernel_rfl) ?_
        refine wl_pure (wantsY 18 91 true rfl (by kernel_rfl) rfl (by kernel_rfl)) (d := 93) (v := (.bool true)) rfl (by kernel_rfl) ?_
        refine wl_pure (wants0 rfl) (d := 94) (v := (.bool true)) rfl (by kernel_rfl) ?_
        refine wl_pure (wants0 rfl) (d := 95) (v := (.bool true)) rfl (by kernel_rfl) ?_
        refine wl_do (wantsY 22 95 true rfl (by kernel_rfl) rfl (by kernel_rfl)) (fun K72 hK72 => ?_)
        refine d_call (d := 96) rfl (by kernel_rfl) (wakes_any w68) ?_
        rintro _ w73 ⟨rfl, u75⟩
        have H74 := H69.keepU u75
        refine ⟨_, rfl, ?_⟩
        refine hK72 _ _ ?_
        clear hK72 K72
        refine wl_pure (wants0 rfl) (d := 97) (v := (.bool true)) rfl (by kernel_rfl) ?_
        refine wl_pure (wants0 rfl) (d := 6) (v := (.bool true)) rfl (by kernel_rfl) ?_
        refine w_nil ?_
        refine then_normal ?_
        refine w_ret ?_
        refine end1 rfl (res_tmp (v := (.bool true)) rfl) ?_
        exact ⟨rfl, H74.upd 0 rfl [] (fun _ h => h.elim)⟩
    · have H76 : Sat w [restC w (fun _ => False), cellC b2 24 (hc x), rowC 5 1 (.slice a12 ((p.take 30).length) c13) ((p.take 30).length) ((p.take 30).flatMap encB), cellC r16 86 ([(.int .i64 (1)), (.int .i64 (3)), (.int .i64 (1)), (.map (some m17))] : List Value), mapC m17 (Value.int .i64) encP [(k, P33)], rowC 5 1 (.slice (some ⟨b40, 0, none⟩) 1 1) 1 ([UInt8.ofNat (k).toNat].flatMap encB)] w49 := (Sat.turnL (L' := [cellC r16 86 ([(.int .i64 (1)), (.int .i64 (3)), (.int .i64 (1)), (.map (some m17))] : List Value), mapC m17 (Value.int .i64) encP [(k, P33)], rowC 5 1 (.slice a12 ((p.take 30).length) c13) ((p.take 30).length) ((p.take 30).flatMap encB)]) (R := [restC w (fun _ => False), cellC b2 24 (hc x), rowC 5 1 (.slice (some ⟨b40, 0, none⟩) 1 1) 1 ([UInt8.ofNat (k).toNat].flatMap encB)]) H46 [3, 4, 2] [0, 1, 5] (by decide) (by kernel_rfl) rfl T51).pick [3, 4, 2, 0, 1, 5] (by decide)
      refine ⟨_, rfl, ?_⟩
      refine hK48 _ _ ?_
      clear hK48 K48
      refine wl_pure (wants0 rfl) (d := 10) (v := (.int .i64 (10))) rfl (by kernel_rfl) ?_
      refine w_nil ?_
      refine then_normal ?_
      refine w_seq ?_
      refine w_lit ?_
      refine wl_pure (wants0 rfl) (d := 51) (v := (.pointer (some ⟨r16, 0, none⟩))) rfl (by kernel_rfl) ?_
      refine wl_pure (wants0 rfl) (d := 52) (v := (.int .i64 (k))) rfl (by kernel_rfl) ?_
      refine wl_pure (wants0 rfl) (d := 53) (v := (.int .i64 (k + 1))) rfl (e_int (z := k + 1) (by kernel_rfl) (IntWalk.i64_in _ (by omega))) ?_
      refine wl_pure (wants0 rfl) (d := 54) (v := (.slice a12 ((p.take 30).length) c13)) rfl (by kernel_rfl) ?_
      refine wl_pure (wants0 rfl) (d := 55) (v := (.agg ⟨(hc x)⟩)) rfl (e_loadN (vs := (hc x)) rfl (by kernel_rfl) (by kernel_rfl) (by exact Nat.le_of_ble_eq_true (by kernel_rfl)) (H76.at 1 rfl) (by kernel_rfl)) ?_
      refine wl_pure (wants0 rfl) (d := 56) (v := (.agg ⟨(([(.int .i64 (k + 1)), (.slice a12 ((p.take 30).length) c13)] : List Value) ++ hc x)⟩)) rfl (by kernel_rfl) ?_
      refine wl_do (wants0 rfl) (fun K77 hK77 => ?_)
      refine d_call (d := 57) rfl (by kernel_rfl) (revOpenO_any w49 r16 m17 1 3 1 k P33 (H76.at 3 rfl) (H76.at 4 rfl) (k + 1) (.slice a12 ((p.take 30).length) c13) x (by omega)) ?_
      rintro _ w78 ⟨rfl, u79⟩
      have H80 := H76.keepU u79
      refine ⟨_, rfl, ?_⟩
      refine hK77 _ _ ?_
      clear hK77 K77
      refine wl_pure (wants0 rfl) (d := 11) (v := (.int .i64 (6))) rfl (by kernel_rfl) ?_
      refine w_nil ?_
      refine then_normal ?_
      refine w_seq ?_
      refine w_seq ?_
      refine w_lit ?_
      refine wl_pure (wants0 rfl) (d := 58) (v := (.bool (decide ((p.take 30) = [UInt8.ofNat (k).toNat])))) rfl (by kernel_rfl) ?_
      refine w_nil ?_
      refine then_normal ?_
      refine (bsplit (decide ((p.take 30) = [UInt8.ofNat (k).toNat]))).elim (fun b81 => ?_) (fun b81 => ?_)
      · refine wp_know 58 (.bool true) (congrArg Value.bool b81) ?_
        refine wp_ift rfl ?_
        refine w_seq ?_
        exact absurd (show _ = _ by rw [hh, hn1, hn2, of_decide_eq_true b36, of_decide_eq_true b81]; unfold entH; rw [hkk]) hne
      · refine wp_know 58 (.bool false) (congrArg Value.bool b81) ?_
        refine wp_iff rfl ?_
        refine w_skip ?_
        refine then_normal ?_
        refine w_seq ?_
        refine w_lit ?_
        refine wl_pure (wants0 rfl) (d := 73) (v := (.int .i64 (10))) rfl (by kernel_rfl) ?_
        refine wl_pure (wants0 rfl) (d := 74) (v := (.bool true)) rfl (by kernel_rfl) ?_
        refine wl_pure (wants0 rfl) (d := 75) (v := (.bool true)) rfl (by kernel_rfl) ?_
        refine wl_pure (wantsY 2 75 true rfl (by kernel_rfl) rfl (by kernel_rfl)) (d := 76) (v := (.pointer (some ⟨r16, 0, none⟩))) rfl (by kernel_rfl) ?_
        refine wl_pure (wantsY 2 75 true rfl (by kernel_rfl) rfl (by kernel_rfl)) (d := 77) (v := (.int .i64 (k))) rfl (by kernel_rfl) ?_
        refine wl_do (wantsY 2 75 true rfl (by kernel_rfl) rfl (by kernel_rfl)) (fun K82 hK82 => ?_)
        refine d_call (d := 78) rfl (by kernel_rfl) (revAcked_any w78 r16 m17 1 3 1 k P33 (H80.at 3 rfl) (H80.at 4 rfl)) ?_
        rintro _ w83 ⟨rfl, u85⟩
        have H84 := H80.keepU u85
        refine ⟨_, rfl, ?_⟩
        refine hK82 _ _ ?_
        clear hK82 K82
        refine wl_pure (wantsY 2 75 true rfl (by kernel_rfl) rfl (by kernel_rfl)) (d := 79) (v := (.bool (!(P33.acked)))) rfl (by kernel_rfl) ?_
        refine wl_pure (wants0 rfl) (d := 80) (v := (.bool (!(P33.acked)))) rfl (by kernel_rfl) ?_
        refine wl_pure (wants0 rfl) (d := 81) (v := (.bool (!(P33.acked)))) rfl (by kernel_rfl) ?_
        have b86 : (!(P33.acked)) = true := by rw [hack]; rfl
        refine wl_know 81 (.bool true) (congrArg Value.bool b86) ?_
        have g87 := bnot_true b86
        refine wl_pass (wantsN 8 81 false rfl (by kernel_rfl) rfl (by kernel_rfl)) rfl ?_
        refine wl_pass (wantsN 8 81 false rfl (by kernel_rfl) rfl (by kernel_rfl)) rfl ?_
        refine wl_pass (wantsN 8 81 false rfl (by kernel_rfl) rfl (by kernel_rfl)) rfl ?_
        refine wl_pass (wantsU 11 84 true rfl (by kernel_rfl) rfl (by kernel_rfl)) rfl ?_
        refine wl_pass (wantsU 11 84 true rfl (by kernel_rfl) rfl (by kernel_rfl)) rfl ?_
        refine wl_pass (wantsU 11 84 true rfl (by kernel_rfl) rfl (by kernel_rfl)) rfl ?_
        refine wl_pass (wantsU 11 84 true rfl (by kernel_rfl) rfl (by kernel_rfl)) rfl ?_
        refine wl_pass (wantsN 8 81 false rfl (by kernel_rfl) rfl (by kernel_rfl)) rfl ?_
        refine wl_pure (wants0 rfl) (d := 90) (v := (.bool true)) rfl (by kernel_rfl) ?_
        refine wl_pure (wants0 rfl) (d := 91) (v := (.bool true)) rfl (by kernel_rfl) ?_
        refine wl_pure (wantsY 18 91 true rfl (by kernel_rfl) rfl (by kernel_rfl)) (d := 92) (v := (.int .i64 (6))) rfl (by kernel_rfl) ?_
        refine wl_pure (wantsY 18 91 true rfl (by kernel_rfl) rfl (by kernel_rfl)) (d := 93) (v := (.bool true)) rfl (by kernel_rfl) ?_
        refine wl_pure (wants0 rfl) (d := 94) (v := (.bool true)) rfl (by kernel_rfl) ?_
        refine wl_pure (wants0 rfl) (d := 95) (v := (.bool true)) rfl (by kernel_rfl) ?_
        refine wl_do (wantsY 22 95 true rfl (by kernel_rfl) rfl (by kernel_rfl)) (fun K88 hK88 => ?_)
        refine d_call (d := 96) rfl (by kernel_rfl) (wakes_any w83) ?_
        rintro _ w89 ⟨rfl, u91⟩
        have H90 := H84.keepU u91
        refine ⟨_, rfl, ?_⟩
        refine hK88 _ _ ?_
        clear hK88 K88
        refine wl_pure (wants0 rfl) (d := 97) (v := (.bool true)) rfl (by kernel_rfl) ?_
        refine wl_pure (wants0 rfl) (d := 6) (v := (.bool true)) rfl (by kernel_rfl) ?_
        refine w_nil ?_
        refine then_normal ?_
        refine w_ret ?_
        refine end1 rfl (res_tmp (v := (.bool true)) rfl) ?_
        exact ⟨rfl, H90.upd 0 rfl [] (fun _ h => h.elim)⟩
  · have g92 := of_decide_eq_false b36
    refine wl_know 38 (.bool false) (congrArg Value.bool b36) ?_
    have g93 := of_decide_eq_false b36
    refine wl_pass (wantsN 3 38 true rfl (by kernel_rfl) rfl (by kernel_rfl)) rfl ?_
    refine wl_pass (wantsN 3 38 true rfl (by kernel_rfl) rfl (by kernel_rfl)) rfl ?_
    refine wl_pass (wantsN 3 38 true rfl (by kernel_rfl) rfl (by kernel_rfl)) rfl ?_
    refine wl_pass (wantsN 3 38 true rfl (by kernel_rfl) rfl (by kernel_rfl)) rfl ?_
    refine wl_pass (wantsN 3 38 true rfl (by kernel_rfl) rfl (by kernel_rfl)) rfl ?_
    refine wl_pure (wants0 rfl) (d := 44) (v := (.bool false)) rfl (by kernel_rfl) ?_
    refine wl_pure (wants0 rfl) (d := 9) (v := (.bool false)) rfl (by kernel_rfl) ?_
    refine w_nil ?_
    refine then_normal ?_
    refine w_seq ?_
    refine w_lit ?_
    refine wl_pure (wants0 rfl) (d := 45) (v := (.pointer (some ⟨r16, 0, none⟩))) rfl (by kernel_rfl) ?_
    refine wl_pure (wants0 rfl) (d := 46) (v := (.int .i64 (k))) rfl (by kernel_rfl) ?_
    refine wl_pure (wants0 rfl) (d := 47) (v := (.slice a12 ((p.take 30).length) c13)) rfl (by kernel_rfl) ?_
    refine wl_pure (wants0 rfl) (d := 48) (v := (.agg ⟨(hc x)⟩)) rfl (e_loadN (vs := (hc x)) rfl (by kernel_rfl) (by kernel_rfl) (by exact Nat.le_of_ble_eq_true (by kernel_rfl)) (H35.at 1 rfl) (by kernel_rfl)) ?_
    refine wl_pure (wants0 rfl) (d := 49) (v := (.agg ⟨(([(.int .i64 (k)), (.slice a12 ((p.take 30).length) c13)] : List Value) ++ hc x)⟩)) rfl (by kernel_rfl) ?_
    refine wl_do (wants0 rfl) (fun K94 hK94 => ?_)
    refine d_call (d := 50) rfl (by kernel_rfl) (revOpen_any w32 r16 m17 1 3 1 k P33 a12 c13 (p.take 30) (H35.fin [3, 4, 2] (by decide) rfl) x (by omega) hden hack (by omega) (by omega)) ?_
    rintro _ w95 (⟨heq, rfl, P96, hack2, T97⟩ | ⟨hne, rfl, T97⟩)
    · have H98 : Sat w [restC w (fun _ => False), cellC b2 24 (hc x), rowC 5 1 (.slice a12 ((p.take 30).length) c13) ((p.take 30).length) ((p.take 30).flatMap encB), cellC r16 86 ([(.int .i64 (1)), (.int .i64 (3)), (.int .i64 (1)), (.map (some m17))] : List Value), mapC m17 (Value.int .i64) encP [(k, P96)]] w95 := (Sat.turnL (L' := [cellC r16 86 ([(.int .i64 (1)), (.int .i64 (3)), (.int .i64 (1)), (.map (some m17))] : List Value), mapC m17 (Value.int .i64) encP [(k, P96)], rowC 5 1 (.slice a12 ((p.take 30).length) c13) ((p.take 30).length) ((p.take 30).flatMap encB)]) (R := [restC w (fun _ => False), cellC b2 24 (hc x)]) H35 [3, 4, 2] [0, 1] (by decide) (by kernel_rfl) rfl T97).pick [3, 4, 2, 0, 1] (by decide)
      refine ⟨_, rfl, ?_⟩
      refine hK94 _ _ ?_
      clear hK94 K94
      refine wl_pure (wants0 rfl) (d := 10) (v := (.int .i64 (0))) rfl (by kernel_rfl) ?_
      refine w_nil ?_
      refine then_normal ?_
      refine w_seq ?_
      refine w_lit ?_
      refine wl_pure (wants0 rfl) (d := 51) (v := (.pointer (some ⟨r16, 0, none⟩))) rfl (by kernel_rfl) ?_
      refine wl_pure (wants0 rfl) (d := 52) (v := (.int .i64 (k))) rfl (by kernel_rfl) ?_
      refine wl_pure (wants0 rfl) (d := 53) (v := (.int .i64 (k + 1))) rfl (e_int (z := k + 1) (by kernel_rfl) (IntWalk.i64_in _ (by omega))) ?_
      refine wl_pure (wants0 rfl) (d := 54) (v := (.slice a12 ((p.take 30).length) c13)) rfl (by kernel_rfl) ?_
      refine wl_pure (wants0 rfl) (d := 55) (v := (.agg ⟨(hc x)⟩)) rfl (e_loadN (vs := (hc x)) rfl (by kernel_rfl) (by kernel_rfl) (by exact Nat.le_of_ble_eq_true (by kernel_rfl)) (H98.at 1 rfl) (by kernel_rfl)) ?_
      refine wl_pure (wants0 rfl) (d := 56) (v := (.agg ⟨(([(.int .i64 (k + 1)), (.slice a12 ((p.take 30).length) c13)] : List Value) ++ hc x)⟩)) rfl (by kernel_rfl) ?_
      refine wl_do (wants0 rfl) (fun K99 hK99 => ?_)
      refine d_call (d := 57) rfl (by kernel_rfl) (revOpenO_any w95 r16 m17 1 3 1 k P96 (H98.at 3 rfl) (H98.at 4 rfl) (k + 1) (.slice a12 ((p.take 30).length) c13) x (by omega)) ?_
      rintro _ w100 ⟨rfl, u101⟩
      have H102 := H98.keepU u101
      refine ⟨_, rfl, ?_⟩
      refine hK99 _ _ ?_
      clear hK99 K99
      refine wl_pure (wants0 rfl) (d := 11) (v := (.int .i64 (6))) rfl (by kernel_rfl) ?_
      refine w_nil ?_
      refine then_normal ?_
      refine w_seq ?_
      refine w_seq ?_
      refine w_lit ?_
      refine wl_pure (wants0 rfl) (d := 58) (v := (.bool false)) rfl (by kernel_rfl) ?_
      refine w_nil ?_
      refine then_normal ?_
      refine wp_iff rfl ?_
      refine w_skip ?_
      refine then_normal ?_
      refine w_seq ?_
      refine w_lit ?_
      refine wl_pure (wants0 rfl) (d := 73) (v := (.int .i64 (0))) rfl (by kernel_rfl) ?_
      refine wl_pure (wants0 rfl) (d := 74) (v := (.bool false)) rfl (by kernel_rfl) ?_
      refine wl_pure (wants0 rfl) (d := 75) (v := (.bool false)) rfl (by kernel_rfl) ?_
      refine wl_pass (wantsN 2 75 true rfl (by kernel_rfl) rfl (by kernel_rfl)) rfl ?_
      refine wl_pass (wantsN 2 75 true rfl (by kernel_rfl) rfl (by kernel_rfl)) rfl ?_
      refine wl_pass (wantsN 2 75 true rfl (by kernel_rfl) rfl (by kernel_rfl)) rfl ?_
      refine wl_pass (wantsN 2 75 true rfl (by kernel_rfl) rfl (by kernel_rfl)) rfl ?_
      refine wl_pure (wants0 rfl) (d := 80) (v := (.bool false)) rfl (by kernel_rfl) ?_
      refine wl_pure (wants0 rfl) (d := 81) (v := (.bool false)) rfl (by kernel_rfl) ?_
      refine wl_pure (wantsY 8 81 false rfl (by kernel_rfl) rfl (by kernel_rfl)) (d := 82) (v := (.int .i64 (0))) rfl (by kernel_rfl) ?_
      refine wl_pure (wantsY 8 81 false rfl (by kernel_rfl) rfl (by kernel_rfl)) (d := 83) (v := (.bool true)) rfl (by kernel_rfl) ?_
      refine wl_pure (wantsY 8 81 false rfl (by kernel_rfl) rfl (by kernel_rfl)) (d := 84) (v := (.bool true)) rfl (by kernel_rfl) ?_
      refine wl_pure (wantsY 11 84 true rfl (by kernel_rfl) rfl (by kernel_rfl)) (d := 85) (v := (.int .i64 (k))) rfl (by kernel_rfl) ?_
      refine wl_pure (wantsY 11 84 true rfl (by kernel_rfl) rfl (by kernel_rfl)) (d := 86) (v := (.slice a12 ((p.take 30).length) c13)) rfl (by kernel_rfl) ?_
      refine wl_pure (wantsY 11 84 true rfl (by kernel_rfl) rfl (by kernel_rfl)) (d := 87) (v := (.agg ⟨(hc x)⟩)) rfl (e_loadN (vs := (hc x)) rfl (by kernel_rfl) (by kernel_rfl) (by exact Nat.le_of_ble_eq_true (by kernel_rfl)) (H102.at 1 rfl) (by kernel_rfl)) ?_
      refine wl_do (wantsY 11 84 true rfl (by kernel_rfl) rfl (by kernel_rfl)) (fun K103 hK103 => ?_)
      refine d_call (d := 88) rfl (by kernel_rfl) (clash_any w100 k a12 c13 (p.take 30) (ListAt.row (enc := encB) (sz := 1) encB_len (by decide) (H102.at 2 rfl)) (by omega) x) ?_
      rintro _ w104 ⟨rfl, u106⟩
      have H105 := H102.keepU u106
      refine ⟨_, rfl, ?_⟩
      refine hK103 _ _ ?_
      clear hK103 K103
      refine wl_pure (wantsY 8 81 false rfl (by kernel_rfl) rfl (by kernel_rfl)) (d := 89) (v := (.bool (decide (shaR (ofT 1 (1 + withinV k 9) x (p.take 30)) = entH k)))) rfl (by kernel_rfl) ?_
      refine wl_pure (wants0 rfl) (d := 90) (v := (.bool (decide (shaR (ofT 1 (1 + withinV k 9) x (p.take 30)) = entH k)))) rfl (by kernel_rfl) ?_
      refine wl_pure (wants0 rfl) (d := 91) (v := (.bool (decide (shaR (ofT 1 (1 + withinV k 9) x (p.take 30)) = entH k)))) rfl (by kernel_rfl) ?_
      have b107 : (decide (shaR (ofT 1 (1 + withinV k 9) x (p.take 30)) = entH k)) = true := by exact decide_eq_true (by rw [← hh, heq, hn1, hn2])
      refine wl_know 91 (.bool true) (congrArg Value.bool b107) ?_
      refine wl_pure (wantsY 18 91 true rfl (by kernel_rfl) rfl (by kernel_rfl)) (d := 92) (v := (.int .i64 (6))) rfl (by kernel_rfl) ?_
      refine wl_pure (wantsY 18 91 true rfl (by kernel_rfl) rfl (by kernel_rfl)) (d := 93) (v := (.bool true)) rfl (by kernel_rfl) ?_
      refine wl_pure (wants0 rfl) (d := 94) (v := (.bool true)) rfl (by kernel_rfl) ?_
      refine wl_pure (wants0 rfl) (d := 95) (v := (.bool true)) rfl (by kernel_rfl) ?_
      refine wl_do (wantsY 22 95 true rfl (by kernel_rfl) rfl (by kernel_rfl)) (fun K108 hK108 => ?_)
      refine d_call (d := 96) rfl (by kernel_rfl) (wakes_any w104) ?_
      rintro _ w109 ⟨rfl, u111⟩
      have H110 := H105.keepU u111
      refine ⟨_, rfl, ?_⟩
      refine hK108 _ _ ?_
      clear hK108 K108
      refine wl_pure (wants0 rfl) (d := 97) (v := (.bool true)) rfl (by kernel_rfl) ?_
      refine wl_pure (wants0 rfl) (d := 6) (v := (.bool true)) rfl (by kernel_rfl) ?_
      refine w_nil ?_
      refine then_normal ?_
      refine w_ret ?_
      refine end1 rfl (res_tmp (v := (.bool true)) rfl) ?_
      exact ⟨rfl, H110.upd 0 rfl [] (fun _ h => h.elim)⟩
    · have H112 : Sat w [restC w (fun _ => False), cellC b2 24 (hc x), rowC 5 1 (.slice a12 ((p.take 30).length) c13) ((p.take 30).length) ((p.take 30).flatMap encB), cellC r16 86 ([(.int .i64 (1)), (.int .i64 (3)), (.int .i64 (1)), (.map (some m17))] : List Value), mapC m17 (Value.int .i64) encP [(k, P33)]] w95 := (Sat.turnL (L' := [cellC r16 86 ([(.int .i64 (1)), (.int .i64 (3)), (.int .i64 (1)), (.map (some m17))] : List Value), mapC m17 (Value.int .i64) encP [(k, P33)], rowC 5 1 (.slice a12 ((p.take 30).length) c13) ((p.take 30).length) ((p.take 30).flatMap encB)]) (R := [restC w (fun _ => False), cellC b2 24 (hc x)]) H35 [3, 4, 2] [0, 1] (by decide) (by kernel_rfl) rfl T97).pick [3, 4, 2, 0, 1] (by decide)
      refine ⟨_, rfl, ?_⟩
      refine hK94 _ _ ?_
      clear hK94 K94
      refine wl_pure (wants0 rfl) (d := 10) (v := (.int .i64 (10))) rfl (by kernel_rfl) ?_
      refine w_nil ?_
      refine then_normal ?_
      refine w_seq ?_
      refine w_lit ?_
      refine wl_pure (wants0 rfl) (d := 51) (v := (.pointer (some ⟨r16, 0, none⟩))) rfl (by kernel_rfl) ?_
      refine wl_pure (wants0 rfl) (d := 52) (v := (.int .i64 (k))) rfl (by kernel_rfl) ?_
      refine wl_pure (wants0 rfl) (d := 53) (v := (.int .i64 (k + 1))) rfl (e_int (z := k + 1) (by kernel_rfl) (IntWalk.i64_in _ (by omega))) ?_
      refine wl_pure (wants0 rfl) (d := 54) (v := (.slice a12 ((p.take 30).length) c13)) rfl (by kernel_rfl) ?_
      refine wl_pure (wants0 rfl) (d := 55) (v := (.agg ⟨(hc x)⟩)) rfl (e_loadN (vs := (hc x)) rfl (by kernel_rfl) (by kernel_rfl) (by exact Nat.le_of_ble_eq_true (by kernel_rfl)) (H112.at 1 rfl) (by kernel_rfl)) ?_
      refine wl_pure (wants0 rfl) (d := 56) (v := (.agg ⟨(([(.int .i64 (k + 1)), (.slice a12 ((p.take 30).length) c13)] : List Value) ++ hc x)⟩)) rfl (by kernel_rfl) ?_
      refine wl_do (wants0 rfl) (fun K113 hK113 => ?_)
      refine d_call (d := 57) rfl (by kernel_rfl) (revOpenO_any w95 r16 m17 1 3 1 k P33 (H112.at 3 rfl) (H112.at 4 rfl) (k + 1) (.slice a12 ((p.take 30).length) c13) x (by omega)) ?_
      rintro _ w114 ⟨rfl, u115⟩
      have H116 := H112.keepU u115
      refine ⟨_, rfl, ?_⟩
      refine hK113 _ _ ?_
      clear hK113 K113
      refine wl_pure (wants0 rfl) (d := 11) (v := (.int .i64 (6))) rfl (by kernel_rfl) ?_
      refine w_nil ?_
      refine then_normal ?_
      refine w_seq ?_
      refine w_seq ?_
      refine w_lit ?_
      refine wl_pure (wants0 rfl) (d := 58) (v := (.bool false)) rfl (by kernel_rfl) ?_
      refine w_nil ?_
      refine then_normal ?_
      refine wp_iff rfl ?_
      refine w_skip ?_
      refine then_normal ?_
      refine w_seq ?_
      refine w_lit ?_
      refine wl_pure (wants0 rfl) (d := 73) (v := (.int .i64 (10))) rfl (by kernel_rfl) ?_
      refine wl_pure (wants0 rfl) (d := 74) (v := (.bool true)) rfl (by kernel_rfl) ?_
      refine wl_pure (wants0 rfl) (d := 75) (v := (.bool true)) rfl (by kernel_rfl) ?_
      refine wl_pure (wantsY 2 75 true rfl (by kernel_rfl) rfl (by kernel_rfl)) (d := 76) (v := (.pointer (some ⟨r16, 0, none⟩))) rfl (by kernel_rfl) ?_
      refine wl_pure (wantsY 2 75 true rfl (by kernel_rfl) rfl (by kernel_rfl)) (d := 77) (v := (.int .i64 (k))) rfl (by kernel_rfl) ?_
      refine wl_do (wantsY 2 75 true rfl (by kernel_rfl) rfl (by kernel_rfl)) (fun K117 hK117 => ?_)
      refine d_call (d := 78) rfl (by kernel_rfl) (revAcked_any w114 r16 m17 1 3 1 k P33 (H116.at 3 rfl) (H116.at 4 rfl)) ?_
      rintro _ w118 ⟨rfl, u120⟩
      have H119 := H116.keepU u120
      refine ⟨_, rfl, ?_⟩
      refine hK117 _ _ ?_
      clear hK117 K117
      refine wl_pure (wantsY 2 75 true rfl (by kernel_rfl) rfl (by kernel_rfl)) (d := 79) (v := (.bool (!(P33.acked)))) rfl (by kernel_rfl) ?_
      refine wl_pure (wants0 rfl) (d := 80) (v := (.bool (!(P33.acked)))) rfl (by kernel_rfl) ?_
      refine wl_pure (wants0 rfl) (d := 81) (v := (.bool (!(P33.acked)))) rfl (by kernel_rfl) ?_
      have b121 : (!(P33.acked)) = true := by rw [hack]; rfl
      refine wl_know 81 (.bool true) (congrArg Value.bool b121) ?_
      have g122 := bnot_true b121
      refine wl_pass (wantsN 8 81 false rfl (by kernel_rfl) rfl (by kernel_rfl)) rfl ?_
      refine wl_pass (wantsN 8 81 false rfl (by kernel_rfl) rfl (by kernel_rfl)) rfl ?_
      refine wl_pass (wantsN 8 81 false rfl (by kernel_rfl) rfl (by kernel_rfl)) rfl ?_
      refine wl_pass (wantsU 11 84 true rfl (by kernel_rfl) rfl (by kernel_rfl)) rfl ?_
      refine wl_pass (wantsU 11 84 true rfl (by kernel_rfl) rfl (by kernel_rfl)) rfl ?_
      refine wl_pass (wantsU 11 84 true rfl (by kernel_rfl) rfl (by kernel_rfl)) rfl ?_
      refine wl_pass (wantsU 11 84 true rfl (by kernel_rfl) rfl (by kernel_rfl)) rfl ?_
      refine wl_pass (wantsN 8 81 false rfl (by kernel_rfl) rfl (by kernel_rfl)) rfl ?_
      refine wl_pure (wants0 rfl) (d := 90) (v := (.bool true)) rfl (by kernel_rfl) ?_
      refine wl_pure (wants0 rfl) (d := 91) (v := (.bool true)) rfl (by kernel_rfl) ?_
      refine wl_pure (wantsY 18 91 true rfl (by kernel_rfl) rfl (by kernel_rfl)) (d := 92) (v := (.int .i64 (6))) rfl (by kernel_rfl) ?_
      refine wl_pure (wantsY 18 91 true rfl (by kernel_rfl) rfl (by kernel_rfl)) (d := 93) (v := (.bool true)) rfl (by kernel_rfl) ?_
      refine wl_pure (wants0 rfl) (d := 94) (v := (.bool true)) rfl (by kernel_rfl) ?_
      refine wl_pure (wants0 rfl) (d := 95) (v := (.bool true)) rfl (by kernel_rfl) ?_
      refine wl_do (wantsY 22 95 true rfl (by kernel_rfl) rfl (by kernel_rfl)) (fun K123 hK123 => ?_)
      refine d_call (d := 96) rfl (by kernel_rfl) (wakes_any w118) ?_
      rintro _ w124 ⟨rfl, u126⟩
      have H125 := H119.keepU u126
      refine ⟨_, rfl, ?_⟩
      refine hK123 _ _ ?_
      clear hK123 K123
      refine wl_pure (wants0 rfl) (d := 97) (v := (.bool true)) rfl (by kernel_rfl) ?_
      refine wl_pure (wants0 rfl) (d := 6) (v := (.bool true)) rfl (by kernel_rfl) ?_
      refine w_nil ?_
      refine then_normal ?_
      refine w_ret ?_
      refine end1 rfl (res_tmp (v := (.bool true)) rfl) ?_
      exact ⟨rfl, H125.upd 0 rfl [] (fun _ h => h.elim)⟩

end Go.Proofs.Ytoiplcicbjimlaa
