/- WHAT IS PROVED: the walk of RevealTombs. Conditions: stated with each. -/
import Derived.Test.YtoiplcicbjimlaaTb16M
import Derived.Test.YtoiplcicbjimlaaMat16
import Derived.Test.YtoiplcicbjimlaaIns
namespace Go.Proofs.Ytoiplcicbjimlaa
open Go.RowKit
theorem one_elem {O : List DenyD} {i : Int} {x : DenyD} (h : O.map (·.i) = [i]) (hx : O[0]? = some x) : x.i = i := by
  have q := congrArg (·[0]?) h
  simp [hx] at q; exact q
theorem one_elemT {O : List TombD} {i : Int} {x : TombD} (h : O.map (·.i) = [i]) (hx : O[0]? = some x) : x.i = i := by
  have q := congrArg (·[0]?) h
  simp [hx] at q; exact q

set_option maxRecDepth 100000 in
set_option maxHeartbeats 400000 in
theorem rQuorum_any (w : World) (f c : Int) (hf : -1000000 ≤ f ∧ f ≤ 1000000) :
    Calls Try.prog 28 #[(.agg ⟨([(.int .i64 (f)), (.int .i64 (c))] : List Value)⟩)] w fun e w' => e = .returned (.int .i64 (2 * f + 1)) ∧ Upd [] w w' := by
  have H := Sat.start0 w
  refine calls_fr Try.func28 rfl 7 rfl (Nat.le_of_ble_eq_true rfl) ?_
  refine w_seq ?_
  refine w_lit ?_
  refine wl_do (wants0 rfl) (fun K1 hK1 => ?_)
  refine d_box (vs := ([(.int .i64 (f)), (.int .i64 (c))] : List Value)) rfl H rfl rfl ?_
  intro b2 w3 (H4 : Sat w [restC w (fun _ => False), cellC b2 31 ([(.int .i64 (f)), (.int .i64 (c))] : List Value)] w3)
  refine hK1 _ _ ?_
  clear hK1 K1
  refine wl_pure (wants0 rfl) (d := 2) (v := (.int .i64 (0))) rfl (by kernel_rfl) ?_
  refine w_nil ?_
  refine then_normal ?_
  refine w_seq ?_
  refine w_lit ?_
  refine wl_pure (wants0 rfl) (d := 3) (v := (.pointer (some ⟨b2, 0, none⟩))) rfl (by kernel_rfl) ?_
  refine wl_pure (wants0 rfl) (d := 4) (v := (.int .i64 (f))) rfl (e_load1 rfl (by kernel_rfl) (H4.cell 1 rfl rfl)) ?_
  refine wl_pure (wants0 rfl) (d := 5) (v := (.int .i64 (2 * f))) rfl (e_int (z := 2 * f) (by kernel_rfl) (IntWalk.i64_in _ (by omega))) ?_
  refine wl_pure (wants0 rfl) (d := 6) (v := (.int .i64 ((2 * f) + 1))) rfl (e_int (z := (2 * f) + 1) (by kernel_rfl) (IntWalk.i64_in _ (by omega))) ?_
  refine wl_pure (wants0 rfl) (d := 2) (v := (.int .i64 ((2 * f) + 1))) rfl (by kernel_rfl) ?_
  refine w_nil ?_
  refine then_normal ?_
  refine w_ret ?_
  refine end1 rfl (res_tmp (v := (.int .i64 ((2 * f) + 1))) rfl) ?_
  exact ⟨rfl, H4.upd 0 rfl [] (fun _ h => h.elim)⟩

set_option maxRecDepth 100000 in
set_option maxHeartbeats 400000 in
theorem rN_any (w : World) (f c : Int) (hf : -1000000 ≤ f ∧ f ≤ 1000000) :
    Calls Try.prog 23 #[(.agg ⟨([(.int .i64 (f)), (.int .i64 (c))] : List Value)⟩)] w fun e w' => e = .returned (.int .i64 (3 * f + 1)) ∧ Upd [] w w' := by
  have H := Sat.start0 w
  refine calls_fr Try.func23 rfl 7 rfl (Nat.le_of_ble_eq_true rfl) ?_
  refine w_seq ?_
  refine w_lit ?_
  refine wl_do (wants0 rfl) (fun K1 hK1 => ?_)
  refine d_box (vs := ([(.int .i64 (f)), (.int .i64 (c))] : List Value)) rfl H rfl rfl ?_
  intro b2 w3 (H4 : Sat w [restC w (fun _ => False), cellC b2 31 ([(.int .i64 (f)), (.int .i64 (c))] : List Value)] w3)
  refine hK1 _ _ ?_
  clear hK1 K1
  refine wl_pure (wants0 rfl) (d := 2) (v := (.int .i64 (0))) rfl (by kernel_rfl) ?_
  refine w_nil ?_
  refine then_normal ?_
  refine w_seq ?_
  refine w_lit ?_
  refine wl_pure (wants0 rfl) (d := 3) (v := (.pointer (some ⟨b2, 0, none⟩))) rfl (by kernel_rfl) ?_
  refine wl_pure (wants0 rfl) (d := 4) (v := (.int .i64 (f))) rfl (e_load1 rfl (by kernel_rfl) (H4.cell 1 rfl rfl)) ?_
  refine wl_pure (wants0 rfl) (d := 5) (v := (.int .i64 (3 * f))) rfl (e_int (z := 3 * f) (by kernel_rfl) (IntWalk.i64_in _ (by omega))) ?_
  refine wl_pure (wants0 rfl) (d := 6) (v := (.int .i64 ((3 * f) + 1))) rfl (e_int (z := (3 * f) + 1) (by kernel_rfl) (IntWalk.i64_in _ (by omega))) ?_
  refine wl_pure (wants0 rfl) (d := 2) (v := (.int .i64 ((3 * f) + 1))) rfl (by kernel_rfl) ?_
  refine w_nil ?_
  refine then_normal ?_
  refine w_ret ?_
  refine end1 rfl (res_tmp (v := (.int .i64 ((3 * f) + 1))) rfl) ?_
  exact ⟨rfl, H4.upd 0 rfl [] (fun _ h => h.elim)⟩

set_option maxRecDepth 100000 in
set_option maxHeartbeats 4000000 in
theorem tombs16_walk (w : World) (f : Int) (va : Option Addr) (vc : Nat) (who : List Int) (hwho : IntsAt w (.slice va who.length vc) who) (_hwl : who.length ≤ 9223372036854775807) (own : Bool) :
    Calls Try.prog 6 #[(.int .i64 (f)), (.slice va who.length vc), (.bool (own))] w fun e w' => e = .returned (.bool true) ∧ Upd [] w w' := by
  have H := Sat.start0 w
  have hw3 := within_lim f 3 (by omega)
  refine calls_fr Try.func6 rfl 168 rfl (Nat.le_of_ble_eq_true rfl) ?_
  refine w_seq ?_
  refine w_lit ?_
  refine wl_pure (wants0 rfl) (d := 6) (v := (.bool false)) rfl (by kernel_rfl) ?_
  refine w_nil ?_
  refine then_normal ?_
  refine w_seq ?_
  refine w_lit ?_
  refine wl_pure (wants0 rfl) (d := 20) (v := (.int .i64 (f))) rfl (by kernel_rfl) ?_
  refine wl_do (wants0 rfl) (fun K1 hK1 => ?_)
  refine d_call (d := 21) rfl (by kernel_rfl) (within_any w f 3 (by omega)) ?_
  rintro _ w2 ⟨rfl, u4⟩
  have H3 := H.keepU u4
  refine ⟨_, rfl, ?_⟩
  refine hK1 _ _ ?_
  clear hK1 K1
  refine wl_pure (wants0 rfl) (d := 22) (v := (.int .i64 (1 + (withinV f 3)))) rfl (e_int (z := 1 + (withinV f 3)) (by kernel_rfl) (IntWalk.i64_in _ (by omega))) ?_
  refine wl_pure (wants0 rfl) (d := 23) (v := (.agg ⟨([(.int .i64 (1 + (withinV f 3))), (.int .i64 (1))] : List Value)⟩)) rfl (by kernel_rfl) ?_
  refine wl_do (wants0 rfl) (fun K5 hK5 => ?_)
  refine d_alloc (zs := ([(.int .i64 (0)), (.int .i64 (0))] : List Value)) (z := (.agg ⟨([(.int .i64 (0)), (.int .i64 (0))] : List Value)⟩)) rfl H3 (by kernel_rfl) (by kernel_rfl) ?_
  intro b6 w7 (H8 : Sat w [restC w (fun _ => False), cellC b6 31 ([(.int .i64 (0)), (.int .i64 (0))] : List Value)] w7)
  refine hK5 _ _ ?_
  clear hK5 K5
  refine wl_do (wants0 rfl) (fun K9 hK9 => ?_)
  refine d_storeX (vs := ([(.int .i64 (1 + (withinV f 3))), (.int .i64 (1))] : List Value)) (cs' := ([(.int .i64 (1 + (withinV f 3))), (.int .i64 (1))] : List Value)) rfl H8 1 rfl rfl rfl rfl (by kernel_rfl) (Nat.le_of_ble_eq_true (by kernel_rfl)) (Nat.le_of_ble_eq_true (by kernel_rfl)) (by kernel_rfl) (by kernel_rfl) ?_
  intro w10 (H11 : Sat w [restC w (fun _ => False), cellC b6 31 ([(.int .i64 (1 + (withinV f 3))), (.int .i64 (1))] : List Value)] w10)
  refine hK9 _ _ ?_
  clear hK9 K9
  refine w_nil ?_
  refine then_normal ?_
  refine w_seq ?_
  obtain ⟨F, hF⟩ : ∃ F, F = 1 + withinV f 3 := ⟨_, rfl⟩
  have hw3 := within_lim f 3 (by omega)
  have hF3 : 1 ≤ F ∧ F ≤ 3 := by omega
  obtain ⟨N, hN⟩ : ∃ N : Nat, (N : Int) = 3 * F + 1 := ⟨(3 * F + 1).toNat, by omega⟩
  obtain ⟨Q, hQ⟩ : ∃ Q : Nat, (Q : Int) = 2 * F + 1 := ⟨(2 * F + 1).toNat, by omega⟩
  have hnil : ([] : List Signed).length = 0 := rfl
  have H13 : Sat w [restC w (fun _ => False), cellC b6 31 ([(.int .i64 (F)), (.int .i64 (1))] : List Value)] w10 := by rw [hF]; exact H11
  refine w_lit ?_
  refine wl_pure (wants0 rfl) (d := 24) (v := (.agg ⟨([(.int .i64 (F)), (.int .i64 (1))] : List Value)⟩)) rfl (e_loadN (vs := ([(.int .i64 (F)), (.int .i64 (1))] : List Value)) rfl (by kernel_rfl) (by kernel_rfl) (by exact Nat.le_of_ble_eq_true (by kernel_rfl)) (H13.at 1 rfl) (by kernel_rfl)) ?_
  refine wl_do (wants0 rfl) (fun K14 hK14 => ?_)
  refine d_call (d := 25) rfl (by kernel_rfl) (rN_any w10 F 1 (by omega)) ?_
  rintro _ w15 ⟨rfl, u17⟩
  have H16 := H13.keepU u17
  refine ⟨_, rfl, ?_⟩
  refine hK14 _ _ ?_
  clear hK14 K14
  refine wl_pure (wants0 rfl) (d := 8) (v := (.int .i64 (3 * F + 1))) rfl (by kernel_rfl) ?_
  refine w_nil ?_
  refine then_normal ?_
  refine w_seq ?_
  refine wp_know 8 (.int .i64 ((N : Int))) (show ((.int .i64 (3 * F + 1)) : Value) = _ by rw [hN]) ?_
  refine w_lit ?_
  refine wl_do (wants0 rfl) (fun K18 hK18 => ?_)
  refine d_call (d := 27) rfl (by kernel_rfl) (new10_any w15) ?_
  rintro _ w19 ⟨b20, m21, r22, rfl, k23, p24, q25⟩
  have H26 : Sat w [restC w (fun _ => False), cellC b6 31 ([(.int .i64 (F)), (.int .i64 (1))] : List Value), sepC [cellC b20 103 [.map (some m21)], mapC m21 signedV (Value.int .i64) (marks []), cellC r22 96 [.slice none 0 0]]] w19 := H16.addU p24 k23 q25
  have H27 : Sat w [restC w (fun _ => False), cellC b6 31 ([(.int .i64 (F)), (.int .i64 (1))] : List Value), cellC b20 103 ([(.map (some m21))] : List Value), mapC m21 signedV (Value.int .i64) (marks ([] : List Signed)), cellC r22 96 ([(.slice none 0 0)] : List Value)] w19 := H26.open 2 rfl
  refine ⟨_, rfl, ?_⟩
  refine hK18 _ _ ?_
  clear hK18 K18
  refine wl_pure (wants0 rfl) (d := 26) (v := (.tuple #[(.agg ⟨([(.pointer (some ⟨b20, 0, none⟩)), (.pointer (some ⟨r22, 0, none⟩))] : List Value)⟩), (.bool true)])) rfl (by kernel_rfl) ?_
  refine wl_pure (wants0 rfl) (d := 28) (v := (.agg ⟨([(.pointer (some ⟨b20, 0, none⟩)), (.pointer (some ⟨r22, 0, none⟩))] : List Value)⟩)) rfl (by kernel_rfl) ?_
  refine wl_pure (wants0 rfl) (d := 29) (v := (.bool true)) rfl (by kernel_rfl) ?_
  refine wl_do (wants0 rfl) (fun K28 hK28 => ?_)
  refine d_alloc (zs := ([(.pointer none), (.pointer none)] : List Value)) (z := (.agg ⟨([(.pointer none), (.pointer none)] : List Value)⟩)) rfl H27 (by kernel_rfl) (by kernel_rfl) ?_
  intro b29 w30 (H31 : Sat w [restC w (fun _ => False), cellC b6 31 ([(.int .i64 (F)), (.int .i64 (1))] : List Value), cellC b20 103 ([(.map (some m21))] : List Value), mapC m21 signedV (Value.int .i64) (marks ([] : List Signed)), cellC r22 96 ([(.slice none 0 0)] : List Value), cellC b29 52 ([(.pointer none), (.pointer none)] : List Value)] w30)
  refine hK28 _ _ ?_
  clear hK28 K28
  refine wl_do (wants0 rfl) (fun K32 hK32 => ?_)
  refine d_storeX (vs := ([(.pointer (some ⟨b20, 0, none⟩)), (.pointer (some ⟨r22, 0, none⟩))] : List Value)) (cs' := ([(.pointer (some ⟨b20, 0, none⟩)), (.pointer (some ⟨r22, 0, none⟩))] : List Value)) rfl H31 5 rfl rfl rfl rfl (by kernel_rfl) (Nat.le_of_ble_eq_true (by kernel_rfl)) (Nat.le_of_ble_eq_true (by kernel_rfl)) (by kernel_rfl) (by kernel_rfl) ?_
  intro w33 (H34 : Sat w [restC w (fun _ => False), cellC b6 31 ([(.int .i64 (F)), (.int .i64 (1))] : List Value), cellC b20 103 ([(.map (some m21))] : List Value), mapC m21 signedV (Value.int .i64) (marks ([] : List Signed)), cellC r22 96 ([(.slice none 0 0)] : List Value), cellC b29 52 ([(.pointer (some ⟨b20, 0, none⟩)), (.pointer (some ⟨r22, 0, none⟩))] : List Value)] w33)
  refine hK32 _ _ ?_
  clear hK32 K32
  refine wl_pure (wants0 rfl) (d := 10) (v := (.bool true)) rfl (by kernel_rfl) ?_
  refine w_nil ?_
  refine then_normal ?_
  refine w_seq ?_
  refine w_lit ?_
  refine wl_pure (wants0 rfl) (d := 31) (v := (.agg ⟨([(.int .i64 (F)), (.int .i64 (1))] : List Value)⟩)) rfl (e_loadN (vs := ([(.int .i64 (F)), (.int .i64 (1))] : List Value)) rfl (by kernel_rfl) (by kernel_rfl) (by exact Nat.le_of_ble_eq_true (by kernel_rfl)) (H34.at 1 rfl) (by kernel_rfl)) ?_
  refine wl_do (wants0 rfl) (fun K36 hK36 => ?_)
  refine d_call (d := 32) rfl (by kernel_rfl) (rvNew_any w33 F (1 : Int) (0 : Int) (by unfold confB; simp; omega) (by unfold inB; simp; omega)) ?_
  rintro _ w37 ⟨r38, m39, rfl, k40, p41, q42⟩
  have H43 : Sat w [restC w (fun _ => False), cellC b6 31 ([(.int .i64 (F)), (.int .i64 (1))] : List Value), cellC b20 103 ([(.map (some m21))] : List Value), mapC m21 signedV (Value.int .i64) (marks ([] : List Signed)), cellC r22 96 ([(.slice none 0 0)] : List Value), cellC b29 52 ([(.pointer (some ⟨b20, 0, none⟩)), (.pointer (some ⟨r22, 0, none⟩))] : List Value), sepC (rvL r38 m39 F (1 : Int) (0 : Int) [])] w37 := H34.addU p41 k40 q42
  have H44 : Sat w [restC w (fun _ => False), cellC b6 31 ([(.int .i64 (F)), (.int .i64 (1))] : List Value), cellC b20 103 ([(.map (some m21))] : List Value), mapC m21 signedV (Value.int .i64) (marks ([] : List Signed)), cellC r22 96 ([(.slice none 0 0)] : List Value), cellC b29 52 ([(.pointer (some ⟨b20, 0, none⟩)), (.pointer (some ⟨r22, 0, none⟩))] : List Value), cellC r38 86 ([(.int .i64 (F)), (.int .i64 (1)), (.int .i64 (0)), (.map (some m39))] : List Value), mapC m39 (Value.int .i64) encX ([] : List (Int × PlX)), denC ([] : List (Int × PlX))] w37 := H43.open 6 rfl
  refine ⟨_, rfl, ?_⟩
  refine hK36 _ _ ?_
  clear hK36 K36
  refine wl_pure (wants0 rfl) (d := 30) (v := (.tuple #[(.pointer (some ⟨r38, 0, none⟩)), (.int .i64 (0))])) rfl (by kernel_rfl) ?_
  refine wl_pure (wants0 rfl) (d := 33) (v := (.pointer (some ⟨r38, 0, none⟩))) rfl (by kernel_rfl) ?_
  refine wl_pure (wants0 rfl) (d := 34) (v := (.int .i64 (0))) rfl (by kernel_rfl) ?_
  refine wl_pure (wants0 rfl) (d := 11) (v := (.pointer (some ⟨r38, 0, none⟩))) rfl (by kernel_rfl) ?_
  refine wl_pure (wants0 rfl) (d := 12) (v := (.int .i64 (0))) rfl (by kernel_rfl) ?_
  refine w_nil ?_
  refine then_normal ?_
  refine w_seq ?_
  refine w_seq ?_
  refine w_lit ?_
  refine wl_pure (wants0 rfl) (d := 35) (v := (.bool true)) rfl (by kernel_rfl) ?_
  refine wl_pure (wants0 rfl) (d := 36) (v := (.bool false)) rfl (by kernel_rfl) ?_
  refine wl_pure (wants0 rfl) (d := 37) (v := (.bool false)) rfl (by kernel_rfl) ?_
  refine wl_pure (wantsY 2 37 false rfl (by kernel_rfl) rfl (by kernel_rfl)) (d := 38) (v := (.int .i64 (0))) rfl (by kernel_rfl) ?_
  refine wl_pure (wantsY 2 37 false rfl (by kernel_rfl) rfl (by kernel_rfl)) (d := 39) (v := (.bool false)) rfl (by kernel_rfl) ?_
  refine wl_pure (wants0 rfl) (d := 40) (v := (.bool false)) rfl (by kernel_rfl) ?_
  refine wl_pure (wants0 rfl) (d := 41) (v := (.bool false)) rfl (by kernel_rfl) ?_
  refine wl_pure (wantsY 6 41 false rfl (by kernel_rfl) rfl (by kernel_rfl)) (d := 42) (v := (.pointer (some ⟨r38, 0, none⟩))) rfl (by kernel_rfl) ?_
  refine wl_pure (wantsY 6 41 false rfl (by kernel_rfl) rfl (by kernel_rfl)) (d := 43) (v := (.bool false)) rfl (by kernel_rfl) ?_
  refine wl_pure (wants0 rfl) (d := 44) (v := (.bool false)) rfl (by kernel_rfl) ?_
  refine wl_pure (wants0 rfl) (d := 45) (v := (.bool false)) rfl (by kernel_rfl) ?_
  refine wl_pure (wantsY 10 45 false rfl (by kernel_rfl) rfl (by kernel_rfl)) (d := 46) (v := (.pointer (some ⟨r38, 0, none⟩))) rfl (by kernel_rfl) ?_
  refine wl_do (wantsY 10 45 false rfl (by kernel_rfl) rfl (by kernel_rfl)) (fun K45 hK45 => ?_)
  refine d_call (d := 47) rfl (by kernel_rfl) (entry_any w37 (4 : Int)) ?_
  rintro _ w46 ⟨rfl, u48⟩
  have H47 := H44.keepU u48
  refine ⟨_, rfl, ?_⟩
  refine hK45 _ _ ?_
  clear hK45 K45
  refine wl_do (wantsY 10 45 false rfl (by kernel_rfl) rfl (by kernel_rfl)) (fun K49 hK49 => ?_)
  refine d_call (d := 48) rfl (by kernel_rfl) (rvPlaceG_any w46 r38 m39 F 1 0 ([] : List (Int × PlX)) (H47.fin [6, 7, 8] (by decide) rfl) (4 : Int) (1 : Int) (1 + withinV (4 : Int) 9) (entH (4 : Int)) (3 : Int) (0 : Int) (by omega)) ?_
  rintro _ w50 ⟨M51, rfl, R52, T53⟩
  have H54 : Sat w [restC w (fun _ => False), cellC b6 31 ([(.int .i64 (F)), (.int .i64 (1))] : List Value), cellC b20 103 ([(.map (some m21))] : List Value), mapC m21 signedV (Value.int .i64) (marks ([] : List Signed)), cellC r22 96 ([(.slice none 0 0)] : List Value), cellC b29 52 ([(.pointer (some ⟨b20, 0, none⟩)), (.pointer (some ⟨r22, 0, none⟩))] : List Value), cellC r38 86 ([(.int .i64 (F)), (.int .i64 (1)), (.int .i64 (0)), (.map (some m39))] : List Value), mapC m39 (Value.int .i64) encX M51, denC M51] w50 := (Sat.turnL (L' := [cellC r38 86 ([(.int .i64 (F)), (.int .i64 (1)), (.int .i64 (0)), (.map (some m39))] : List Value), mapC m39 (Value.int .i64) encX M51, denC M51]) (R := [restC w (fun _ => False), cellC b6 31 ([(.int .i64 (F)), (.int .i64 (1))] : List Value), cellC b20 103 ([(.map (some m21))] : List Value), mapC m21 signedV (Value.int .i64) (marks ([] : List Signed)), cellC r22 96 ([(.slice none 0 0)] : List Value), cellC b29 52 ([(.pointer (some ⟨b20, 0, none⟩)), (.pointer (some ⟨r22, 0, none⟩))] : List Value)]) H47 [6, 7, 8] [0, 1, 2, 3, 4, 5] (by decide) (by kernel_rfl) rfl T53).pick [3, 4, 5, 6, 7, 8, 0, 1, 2] (by decide)
  refine ⟨_, rfl, ?_⟩
  obtain ⟨X57, hc, ha, hd, hD, hX55, hM⟩ := R52.new rfl
  have hk56 : M51.map (·.1) = [(4 : Int)] := by rw [hM]; rfl
  have hs0 : X57.p.since = 0 := by have q := hc; unfold coreX at q; simp only [Prod.mk.injEq] at q; exact q.2.2.2
  have hT58 : TmI N X57 (List.replicate N false) := TmI.start N hD
  refine hK49 _ _ ?_
  clear hK49 K49
  refine wl_pure (wantsY 10 45 false rfl (by kernel_rfl) rfl (by kernel_rfl)) (d := 49) (v := (.bool (!(!(lookM ([] : List (Int × PlX)) (4 : Int)).isSome)))) rfl (by kernel_rfl) ?_
  refine wl_pure (wants0 rfl) (d := 50) (v := (.bool (!(!(lookM ([] : List (Int × PlX)) (4 : Int)).isSome)))) rfl (by kernel_rfl) ?_
  refine w_nil ?_
  refine then_normal ?_
  have b59 : (!(!(lookM ([] : List (Int × PlX)) (4 : Int)).isSome)) = false := by rfl
  refine wp_know 50 (.bool false) (congrArg Value.bool b59) ?_
  have g60 := bnot_false b59
  refine wp_iff rfl ?_
  refine w_skip ?_
  refine then_normal ?_
  refine w_seq ?_
  refine w_lit ?_
  refine wl_pure (wants0 rfl) (d := 51) (v := (.int .i64 ((N : Int)))) rfl (by kernel_rfl) ?_
  refine wl_do (wants0 rfl) (fun K61 hK61 => ?_)
  refine d_makeTr (e := 4) (m := N) rfl H54 (by kernel_rfl) (by kernel_rfl) rfl rfl (by omega) ?_
  intro b62 w63 (H64 : Sat w [restC w (fun _ => False), cellC b6 31 ([(.int .i64 (F)), (.int .i64 (1))] : List Value), cellC b20 103 ([(.map (some m21))] : List Value), mapC m21 signedV (Value.int .i64) (marks ([] : List Signed)), cellC r22 96 ([(.slice none 0 0)] : List Value), cellC b29 52 ([(.pointer (some ⟨b20, 0, none⟩)), (.pointer (some ⟨r22, 0, none⟩))] : List Value), cellC r38 86 ([(.int .i64 (F)), (.int .i64 (1)), (.int .i64 (0)), (.map (some m39))] : List Value), mapC m39 (Value.int .i64) encX M51, denC M51, rowTr b62 4 N (List.replicate N false)] w63)
  refine hK61 _ _ ?_
  clear hK61 K61
  refine wl_pure (wants0 rfl) (d := 13) (v := (.slice (some ⟨b62, 0, none⟩) N N)) rfl (by kernel_rfl) ?_
  refine w_nil ?_
  refine then_normal ?_
  refine wp_meetR [6, 14, 53, 54, 55, 56, 57, 58, 59, 60, 61, 62, 63, 64, 65, 66, 67, 68, 69, 70, 71, 72, 73, 74, 75, 76, 77] (fun G_ W_ => ∃ (L : List (Int × PlX)) (X : PlX) (B : List Signed) (A : List Bool), (L.map (·.1) = [(4 : Int)]) ∧ (lookM L 4 = some X) ∧ (TmI N X A) ∧ (B.length ≤ 2) ∧ Sat w [restC w (fun _ => False), cellC b6 31 ([(.int .i64 (F)), (.int .i64 (1))] : List Value), cellC b20 103 ([(.map (some m21))] : List Value), mapC m21 signedV (Value.int .i64) (marks B), cellC r22 96 ([(.slice none 0 0)] : List Value), cellC b29 52 ([(.pointer (some ⟨b20, 0, none⟩)), (.pointer (some ⟨r22, 0, none⟩))] : List Value), cellC r38 86 ([(.int .i64 (F)), (.int .i64 (1)), (.int .i64 (0)), (.map (some m39))] : List Value), mapC m39 (Value.int .i64) encX L, denC L, rowTr b62 4 N A] W_) ?_ ?_
  · refine w_seq ?_
    refine w_lit ?_
    refine wl_pure (wants0 rfl) (d := 53) (v := (.bool (own))) rfl (by kernel_rfl) ?_
    refine w_nil ?_
    refine then_normal ?_
    refine (bsplit (own)).elim (fun b66 => ?_) (fun b66 => ?_)
    · refine wp_know 53 (.bool true) (congrArg Value.bool b66) ?_
      refine wp_ift rfl ?_
      refine w_seq ?_
      refine w_lit ?_
      refine wl_pure (wants0 rfl) (d := 54) (v := (.pointer (some ⟨r38, 0, none⟩))) rfl (by kernel_rfl) ?_
      refine wl_pure (wants0 rfl) (d := 55) (v := (.pointer (some ⟨b29, 0, none⟩))) rfl (by kernel_rfl) ?_
      refine wl_pure (wants0 rfl) (d := 56) (v := (.pointer (some ⟨b20, 0, none⟩))) rfl (e_load1 rfl (by kernel_rfl) (H64.cell 5 rfl rfl)) ?_
      refine wl_do (wants0 rfl) (fun K67 hK67 => ?_)
      refine d_call (d := 57) rfl (by kernel_rfl) (rvDue_any w63 r38 m39 F 1 0 M51 b20 m21 ([] : List Signed) (H64.fin [6, 7, 8, 2, 3] (by decide) rfl) (by have q := one_len hk56; omega) (one_i64 hk56 ⟨by decide, by decide⟩) (nodup_one hk56) (one_all (P := fun X => 0 ≤ X.p.since) hk56 hX55 (by omega)) (by decide) (20 : Int) (by omega) (by omega)) ?_
      rintro _ w68 ⟨M69, N70, a71, c72, O73, rfl, R74, n75, T76⟩
      have H77 : Sat w [restC w (fun _ => False), cellC b6 31 ([(.int .i64 (F)), (.int .i64 (1))] : List Value), cellC b20 103 ([(.map (some m21))] : List Value), mapC m21 signedV (Value.int .i64) (marks N70), cellC r22 96 ([(.slice none 0 0)] : List Value), cellC b29 52 ([(.pointer (some ⟨b20, 0, none⟩)), (.pointer (some ⟨r22, 0, none⟩))] : List Value), cellC r38 86 ([(.int .i64 (F)), (.int .i64 (1)), (.int .i64 (0)), (.map (some m39))] : List Value), mapC m39 (Value.int .i64) encX M69, denC M69, rowTr b62 4 N (List.replicate N false), rowC 63 4 (.slice a71 O73.length c72) O73.length (O73.flatMap encDn)] w68 := (Sat.turnL (L' := [cellC r38 86 ([(.int .i64 (F)), (.int .i64 (1)), (.int .i64 (0)), (.map (some m39))] : List Value), mapC m39 (Value.int .i64) encX M69, denC M69, cellC b20 103 ([(.map (some m21))] : List Value), mapC m21 signedV (Value.int .i64) (marks N70), rowC 63 4 (.slice a71 O73.length c72) O73.length (O73.flatMap encDn)]) (R := [restC w (fun _ => False), cellC b6 31 ([(.int .i64 (F)), (.int .i64 (1))] : List Value), cellC r22 96 ([(.slice none 0 0)] : List Value), cellC b29 52 ([(.pointer (some ⟨b20, 0, none⟩)), (.pointer (some ⟨r22, 0, none⟩))] : List Value), rowTr b62 4 N (List.replicate N false)]) H64 [6, 7, 8, 2, 3] [0, 1, 4, 5, 9] (by decide) (by kernel_rfl) rfl T76).pick [6, 7, 3, 4, 8, 9, 0, 1, 2, 10, 5] (by decide)
      have hllw68 := one_len hk56
      obtain ⟨hO, hk79, X78, hX80, hcxw68, haxw68, _, _, hdxw68, hnw68, hyw68⟩ := R74.one hk56 hX55
      have hsw68 : X78.p.since = 0 := by have q := hcxw68; unfold coreX at q; simp only [Prod.mk.injEq] at q; exact q.2.2.2.trans hs0
      have hdue : dueX 20 X57 = true := by unfold dueX; rw [ha, hd, hs0]; rfl
      rw [if_pos hdue] at hO
      have hol : O73.length = 1 := by simpa using congrArg List.length hO
      obtain ⟨_, _, _, hDD⟩ := hyw68 hdue
      have hT81 := TmI.own hT58 (by omega) hDD
      have hden : X78.p.denied = true := by rw [hdxw68, hdue]; simp
      refine ⟨_, rfl, ?_⟩
      refine hK67 _ _ ?_
      clear hK67 K67
      refine wl_pure (wants0 rfl) (d := 14) (v := (.slice a71 O73.length c72)) rfl (by kernel_rfl) ?_
      refine w_nil ?_
      refine then_normal ?_
      refine w_seq ?_
      refine w_seq ?_
      refine w_lit ?_
      refine wl_pure (wants0 rfl) (d := 58) (v := (.slice a71 O73.length c72)) rfl (by kernel_rfl) ?_
      refine wl_pure (wants0 rfl) (d := 59) (v := (.int .i64 ((O73.length : Int)))) rfl (by kernel_rfl) ?_
      refine wl_pure (wants0 rfl) (d := 60) (v := (.bool (!(decide ((O73.length : Int) = 1))))) rfl (by kernel_rfl) ?_
      refine wl_pure (wants0 rfl) (d := 61) (v := (.bool (!(decide ((O73.length : Int) = 1))))) rfl (by kernel_rfl) ?_
      have b82 : (!(decide ((O73.length : Int) = 1))) = false := by (rw [decide_eq_true (by omega)]; rfl)
      refine wl_know 61 (.bool false) (congrArg Value.bool b82) ?_
      have g83 := bnot_false b82
      have g84 := of_decide_eq_true g83
      refine wl_pure (wantsY 3 61 false rfl (by kernel_rfl) rfl (by kernel_rfl)) (d := 62) (v := (.slice a71 O73.length c72)) rfl (by kernel_rfl) ?_
      obtain ⟨g85, c86, e87⟩ := row_shape (H77.at 10 rfl) (by omega)
      obtain ⟨x88, h89⟩ := get_at (show 0 < O73.length by omega)
      refine wl_pure (wantsY 3 61 false rfl (by kernel_rfl) rfl (by kernel_rfl)) (d := 63) (v := (.pointer (some ⟨g85, 0 + ((0 : Int)).toNat * 4, none⟩))) rfl (e_indexAddrV (E := 63) (by kernel_rfl) (by kernel_rfl) (Nat.le_of_ble_eq_true rfl) rfl e87 rfl (by omega) (by omega)) ?_
      refine wl_pure (wantsY 3 61 false rfl (by kernel_rfl) rfl (by kernel_rfl)) (d := 64) (v := (.pointer (some ⟨g85, 0 + ((0 : Int)).toNat * 4 + 1, none⟩))) rfl (by kernel_rfl) ?_
      refine wl_pure (wantsY 3 61 false rfl (by kernel_rfl) rfl (by kernel_rfl)) (d := 65) (v := (.int .i64 (x88.i))) rfl (e_load1 rfl (by kernel_rfl) (rows_cell (H77.at 10 rfl) e87 encDn_len h89 1 rfl (show 0 + ((0 : Int)).toNat * 4 + 1 = 0 * 4 + 1 by omega) (by kernel_rfl))) ?_
      refine wl_pure (wantsY 3 61 false rfl (by kernel_rfl) rfl (by kernel_rfl)) (d := 66) (v := (.bool (!(decide (x88.i = 4))))) rfl (by kernel_rfl) ?_
      refine wl_pure (wants0 rfl) (d := 67) (v := (.bool (!(decide (x88.i = 4))))) rfl (by kernel_rfl) ?_
      refine wl_pure (wants0 rfl) (d := 68) (v := (.bool (!(decide (x88.i = 4))))) rfl (by kernel_rfl) ?_
      have b90 : (!(decide (x88.i = 4))) = false := by (rw [decide_eq_true (one_elem hO h89)]; rfl)
      refine wl_know 68 (.bool false) (congrArg Value.bool b90) ?_
      have g91 := bnot_false b90
      have g92 := of_decide_eq_true g91
      refine wl_pure (wantsY 10 68 false rfl (by kernel_rfl) rfl (by kernel_rfl)) (d := 69) (v := (.pointer (some ⟨r38, 0, none⟩))) rfl (by kernel_rfl) ?_
      refine wl_pure (wantsY 10 68 false rfl (by kernel_rfl) rfl (by kernel_rfl)) (d := 70) (v := (.pointer (some ⟨b29, 0, none⟩))) rfl (by kernel_rfl) ?_
      refine wl_pure (wantsY 10 68 false rfl (by kernel_rfl) rfl (by kernel_rfl)) (d := 71) (v := (.pointer (some ⟨b20, 0, none⟩))) rfl (e_load1 rfl (by kernel_rfl) (H77.cell 5 rfl rfl)) ?_
      refine wl_do (wantsY 10 68 false rfl (by kernel_rfl) rfl (by kernel_rfl)) (fun K93 hK93 => ?_)
      refine d_call (d := 72) rfl (by kernel_rfl) (rvDue_any w68 r38 m39 F 1 0 M69 b20 m21 N70 (H77.fin [6, 7, 8, 2, 3] (by decide) rfl) (by have q := one_len hk79; omega) (one_i64 hk79 ⟨by decide, by decide⟩) (nodup_one hk79) (one_all (P := fun X => 0 ≤ X.p.since) hk79 hX80 (by omega)) (by decide) (40 : Int) (by omega) (by omega)) ?_
      rintro _ w94 ⟨M95, N96, a97, c98, O99, rfl, R100, n101, T102⟩
      have H103 : Sat w [restC w (fun _ => False), cellC b6 31 ([(.int .i64 (F)), (.int .i64 (1))] : List Value), cellC b20 103 ([(.map (some m21))] : List Value), mapC m21 signedV (Value.int .i64) (marks N96), cellC r22 96 ([(.slice none 0 0)] : List Value), cellC b29 52 ([(.pointer (some ⟨b20, 0, none⟩)), (.pointer (some ⟨r22, 0, none⟩))] : List Value), cellC r38 86 ([(.int .i64 (F)), (.int .i64 (1)), (.int .i64 (0)), (.map (some m39))] : List Value), mapC m39 (Value.int .i64) encX M95, denC M95, rowTr b62 4 N (List.replicate N false), rowC 63 4 (.slice a71 O73.length c72) O73.length (O73.flatMap encDn), rowC 63 4 (.slice a97 O99.length c98) O99.length (O99.flatMap encDn)] w94 := (Sat.turnL (L' := [cellC r38 86 ([(.int .i64 (F)), (.int .i64 (1)), (.int .i64 (0)), (.map (some m39))] : List Value), mapC m39 (Value.int .i64) encX M95, denC M95, cellC b20 103 ([(.map (some m21))] : List Value), mapC m21 signedV (Value.int .i64) (marks N96), rowC 63 4 (.slice a97 O99.length c98) O99.length (O99.flatMap encDn)]) (R := [restC w (fun _ => False), cellC b6 31 ([(.int .i64 (F)), (.int .i64 (1))] : List Value), cellC r22 96 ([(.slice none 0 0)] : List Value), cellC b29 52 ([(.pointer (some ⟨b20, 0, none⟩)), (.pointer (some ⟨r22, 0, none⟩))] : List Value), rowTr b62 4 N (List.replicate N false), rowC 63 4 (.slice a71 O73.length c72) O73.length (O73.flatMap encDn)]) H77 [6, 7, 8, 2, 3] [0, 1, 4, 5, 9, 10] (by decide) (by kernel_rfl) rfl T102).pick [6, 7, 3, 4, 8, 9, 0, 1, 2, 10, 11, 5] (by decide)
      have hllw94 := one_len hk79
      obtain ⟨hO2, hk105, X104, hX106, hcxw94, haxw94, _, _, hdxw94, hnw94, hyw94⟩ := R100.one hk79 hX80
      have hsw94 : X104.p.since = 0 := by have q := hcxw94; unfold coreX at q; simp only [Prod.mk.injEq] at q; exact q.2.2.2.trans hsw68
      have hdue2 : dueX 40 X78 = false := by unfold dueX; rw [hden]; simp
      rw [if_neg (by rw [hdue2]; decide)] at hO2
      have hol2 : O99.length = 0 := by simpa using congrArg List.length hO2
      have hT107 := TmI.keep hT81 (hnw94 hdue2)
      refine ⟨_, rfl, ?_⟩
      refine hK93 _ _ ?_
      clear hK93 K93
      refine wl_pure (wantsY 10 68 false rfl (by kernel_rfl) rfl (by kernel_rfl)) (d := 73) (v := (.int .i64 ((O99.length : Int)))) rfl (by kernel_rfl) ?_
      refine wl_pure (wantsY 10 68 false rfl (by kernel_rfl) rfl (by kernel_rfl)) (d := 74) (v := (.bool (!(decide ((O99.length : Int) = 0))))) rfl (by kernel_rfl) ?_
      refine wl_pure (wants0 rfl) (d := 75) (v := (.bool (!(decide ((O99.length : Int) = 0))))) rfl (by kernel_rfl) ?_
      refine w_nil ?_
      refine then_normal ?_
      have b108 : (!(decide ((O99.length : Int) = 0))) = false := by (rw [decide_eq_true (by omega)]; rfl)
      refine wp_know 75 (.bool false) (congrArg Value.bool b108) ?_
      have g109 := bnot_false b108
      have g110 := of_decide_eq_true g109
      refine wp_iff rfl ?_
      refine w_skip ?_
      refine then_normal ?_
      refine w_lit ?_
      refine wl_pure (wants0 rfl) (d := 76) (v := (.slice (some ⟨b62, 0, none⟩) N N)) rfl (by kernel_rfl) ?_
      refine wl_pure (wants0 rfl) (d := 77) (v := (.pointer (some ⟨b62, 0, none⟩))) rfl (e_indexAddr (E := 4) (z := 0) (o := 0) (len := N) (sz := 1) (by kernel_rfl) (by kernel_rfl) (Nat.le_of_ble_eq_true rfl) rfl rfl (by decide) (by omega)) ?_
      refine wl_do (wants0 rfl) (fun K111 hK111 => ?_)
      refine d_storeTr rfl H103 9 rfl rfl rfl (by kernel_rfl) (show 0 = 0 by omega) (show 0 < N by omega) ?_
      intro w112 (H113 : Sat w [restC w (fun _ => False), cellC b6 31 ([(.int .i64 (F)), (.int .i64 (1))] : List Value), cellC b20 103 ([(.map (some m21))] : List Value), mapC m21 signedV (Value.int .i64) (marks N96), cellC r22 96 ([(.slice none 0 0)] : List Value), cellC b29 52 ([(.pointer (some ⟨b20, 0, none⟩)), (.pointer (some ⟨r22, 0, none⟩))] : List Value), cellC r38 86 ([(.int .i64 (F)), (.int .i64 (1)), (.int .i64 (0)), (.map (some m39))] : List Value), mapC m39 (Value.int .i64) encX M95, denC M95, rowTr b62 4 N ((List.replicate N false).set 0 true), rowC 63 4 (.slice a71 O73.length c72) O73.length (O73.flatMap encDn), rowC 63 4 (.slice a97 O99.length c98) O99.length (O99.flatMap encDn)] w112)
      refine hK111 _ _ ?_
      clear hK111 K111
      refine w_nil ?_
      have H114 : Sat w [restC w (fun _ => False), cellC b6 31 ([(.int .i64 (F)), (.int .i64 (1))] : List Value), cellC b20 103 ([(.map (some m21))] : List Value), mapC m21 signedV (Value.int .i64) (marks N96), cellC r22 96 ([(.slice none 0 0)] : List Value), cellC b29 52 ([(.pointer (some ⟨b20, 0, none⟩)), (.pointer (some ⟨r22, 0, none⟩))] : List Value), cellC r38 86 ([(.int .i64 (F)), (.int .i64 (1)), (.int .i64 (0)), (.map (some m39))] : List Value), mapC m39 (Value.int .i64) encX M95, denC M95, rowTr b62 4 N ((List.replicate N false).set 0 true)] w112 := H113.pick [0, 1, 2, 3, 4, 5, 6, 7, 8, 9] (by decide)
      refine meetR_at ?_ ⟨M95, X104, N96, ((List.replicate N false).set 0 true), hk105, hX106, hT107, (by omega), H114⟩
      exact (same_upd rfl (same_upd rfl (same_upd rfl (same_upd rfl (same_upd rfl (same_upd rfl (same_upd rfl (same_upd rfl (same_upd rfl (same_upd rfl (same_upd rfl (same_upd rfl (same_upd rfl (same_upd rfl (same_upd rfl (same_upd rfl (same_upd rfl (same_upd rfl (same_upd rfl (same_upd rfl (same_upd rfl (same_upd rfl (same_upd rfl (same_upd rfl (same_upd rfl (same_upd rfl (same_upd rfl (same_upd rfl (same_upd rfl (same_upd rfl (same_refl)))))))))))))))))))))))))))))))
    · refine wp_know 53 (.bool false) (congrArg Value.bool b66) ?_
      refine wp_iff rfl ?_
      refine w_skip ?_
      refine meetR_at ?_ ⟨M51, X57, ([] : List Signed), (List.replicate N false), hk56, hX55, hT58, (by omega), H64⟩
      exact (same_upd rfl (same_upd rfl (same_refl)))
  · rintro f115 w116 ⟨L, X, B, A, hk, hX, hT, hBl, H117⟩
    refine w_seq ?_
    refine w_seq ?_
    refine w_lit ?_
    refine wl_pure (wants0 rfl) (d := 15) (v := (.int .i64 (0))) rfl (by kernel_rfl) ?_
    refine w_nil ?_
    refine then_normal ?_
    refine w_block ?_
    refine wp_round [6, 15, 16, 17, 18, 19, 78, 79, 80, 81, 82, 83, 84, 85, 86, 87, 88, 89, 90, 91, 92, 93, 94, 95, 96, 97, 98, 99, 100, 101, 102, 103, 104, 105, 106, 107, 108, 109, 110, 111, 112, 113, 114, 115, 116, 117, 118, 119, 120, 121, 122, 123, 124, 125, 126, 127, 128, 129, 130, 131, 132, 133, 134, 135, 136, 137, 138, 139, 140, 141, 142, 143, 144, 145, 146, 147, 148, 149, 150, 151, 152, 153, 154, 155, 156, 157, 158, 159, 160, 161, 162, 163, 164, 165, 166] (fun F_ W_ m_ => ∃ (i : Nat) (L : List (Int × PlX)) (X : PlX) (B : List Signed) (A : List Bool), F_ 15 = (.int .i64 ((i : Int))) ∧ (i ≤ 40) ∧ (L.map (·.1) = [(4 : Int)]) ∧ (lookM L 4 = some X) ∧ (TmI N X A) ∧ (B.length ≤ 2 + i) ∧ Sat w [restC w (fun _ => False), cellC b6 31 ([(.int .i64 (F)), (.int .i64 (1))] : List Value), cellC b20 103 ([(.map (some m21))] : List Value), mapC m21 signedV (Value.int .i64) (marks B), cellC r22 96 ([(.slice none 0 0)] : List Value), cellC b29 52 ([(.pointer (some ⟨b20, 0, none⟩)), (.pointer (some ⟨r22, 0, none⟩))] : List Value), cellC r38 86 ([(.int .i64 (F)), (.int .i64 (1)), (.int .i64 (0)), (.map (some m39))] : List Value), mapC m39 (Value.int .i64) encX L, denC L, rowTr b62 4 N A] W_ ∧ m_ = 41 - i) _ ⟨0, L, X, B, A, (show ((.int .i64 (0)) : Value) = _ by first | rfl | go_num), (by omega), hk, hX, hT, (by omega), H117, rfl⟩ ?_
    rintro g118 w119 _ ⟨i, L, X, B, A, v121, hi, hk, hX, hT, hBl, H120, rfl⟩
    refine wp_know 15 _ v121 ?_
    have hlA := hT.len
    refine w_seq ?_
    refine w_seq ?_
    refine w_lit ?_
    refine wl_pure (wants0 rfl) (d := 78) (v := (.int .i64 ((i : Int)))) rfl (by kernel_rfl) ?_
    refine wl_pure (wants0 rfl) (d := 79) (v := (.slice va who.length vc)) rfl (by kernel_rfl) ?_
    refine wl_pure (wants0 rfl) (d := 80) (v := (.int .i64 ((who.length : Int)))) rfl (by kernel_rfl) ?_
    refine wl_pure (wants0 rfl) (d := 81) (v := (.bool (decide ((i : Int) < (who.length : Int))))) rfl (by kernel_rfl) ?_
    refine wl_pure (wants0 rfl) (d := 82) (v := (.bool (decide ((i : Int) < (who.length : Int))))) rfl (by kernel_rfl) ?_
    refine (bsplit (decide ((i : Int) < (who.length : Int)))).elim (fun b123 => ?_) (fun b123 => ?_)
    · have g124 := of_decide_eq_true b123
      refine wl_know 82 (.bool true) (congrArg Value.bool b123) ?_
      have g125 := of_decide_eq_true b123
      refine wl_pure (wantsY 4 82 true rfl (by kernel_rfl) rfl (by kernel_rfl)) (d := 83) (v := (.int .i64 ((i : Int)))) rfl (by kernel_rfl) ?_
      refine wl_pure (wantsY 4 82 true rfl (by kernel_rfl) rfl (by kernel_rfl)) (d := 84) (v := (.bool (decide ((i : Int) < 40)))) rfl (by kernel_rfl) ?_
      refine wl_pure (wants0 rfl) (d := 85) (v := (.bool (decide ((i : Int) < 40)))) rfl (by kernel_rfl) ?_
      refine w_nil ?_
      refine then_normal ?_
      refine (bsplit (decide ((i : Int) < 40))).elim (fun b126 => ?_) (fun b126 => ?_)
      · have g127 := of_decide_eq_true b126
        refine wp_know 85 (.bool true) (congrArg Value.bool b126) ?_
        have g128 := of_decide_eq_true b126
        refine wp_ift rfl ?_
        refine w_skip ?_
        refine then_normal ?_
        refine w_seq ?_
        refine w_block ?_
        refine w_seq ?_
        refine w_lit ?_
        refine wl_pure (wants0 rfl) (d := 88) (v := (.slice va who.length vc)) rfl (by kernel_rfl) ?_
        refine wl_pure (wants0 rfl) (d := 89) (v := (.int .i64 ((i : Int)))) rfl (by kernel_rfl) ?_
        obtain ⟨g129, o130, c131, e132, R133⟩ := IntsAt.atD hwho (show i < who.length by omega)
        refine wl_pure (wants0 rfl) (d := 90) (v := (.pointer (some ⟨g129, o130 + ((i : Int)).toNat * 1, none⟩))) rfl (e_indexAddrW (E := 3) (by kernel_rfl) (by kernel_rfl) (Nat.le_of_ble_eq_true rfl) rfl e132 rfl (by omega) (by omega)) ?_
        refine wl_pure (wants0 rfl) (d := 91) (v := (.int .i64 ((who.getD i 0)))) rfl (e_load1 rfl (by kernel_rfl) (H120.cellR 0 rfl (cells_at R133 0 (by kernel_rfl) (show o130 + ((i : Int)).toNat * 1 = o130 + i * 1 + 0 by omega)) (fun h => h))) ?_
        refine wl_pure (wants0 rfl) (d := 92) (v := (.int .i64 ((N : Int)))) rfl (by kernel_rfl) ?_
        refine wl_do (wants0 rfl) (fun K134 hK134 => ?_)
        refine d_call (d := 93) rfl (by kernel_rfl) (within_any w119 (who.getD i 0) (N : Int) (by omega)) ?_
        rintro _ w135 ⟨rfl, u137⟩
        have H136 := H120.keepU u137
        refine ⟨_, rfl, ?_⟩
        refine hK134 _ _ ?_
        clear hK134 K134
        refine wl_pure (wants0 rfl) (d := 94) (v := (.agg ⟨([(.int .i64 (withinV (who.getD i 0) (N : Int))), (.int .i64 (4)), (.int .i64 (0)), (.int .i64 (0))] : List Value)⟩)) rfl (by kernel_rfl) ?_
        refine wl_do (wants0 rfl) (fun K138 hK138 => ?_)
        refine d_alloc (zs := ([(.int .i64 (0)), (.int .i64 (0)), (.int .i64 (0)), (.int .i64 (0))] : List Value)) (z := (.agg ⟨([(.int .i64 (0)), (.int .i64 (0)), (.int .i64 (0)), (.int .i64 (0))] : List Value)⟩)) rfl H136 (by kernel_rfl) (by kernel_rfl) ?_
        intro b139 w140 (H141 : Sat w [restC w (fun _ => False), cellC b6 31 ([(.int .i64 (F)), (.int .i64 (1))] : List Value), cellC b20 103 ([(.map (some m21))] : List Value), mapC m21 signedV (Value.int .i64) (marks B), cellC r22 96 ([(.slice none 0 0)] : List Value), cellC b29 52 ([(.pointer (some ⟨b20, 0, none⟩)), (.pointer (some ⟨r22, 0, none⟩))] : List Value), cellC r38 86 ([(.int .i64 (F)), (.int .i64 (1)), (.int .i64 (0)), (.map (some m39))] : List Value), mapC m39 (Value.int .i64) encX L, denC L, rowTr b62 4 N A, cellC b139 63 ([(.int .i64 (0)), (.int .i64 (0)), (.int .i64 (0)), (.int .i64 (0))] : List Value)] w140)
        refine hK138 _ _ ?_
        clear hK138 K138
        refine wl_do (wants0 rfl) (fun K142 hK142 => ?_)
        refine d_storeX (vs := ([(.int .i64 (withinV (who.getD i 0) (N : Int))), (.int .i64 (4)), (.int .i64 (0)), (.int .i64 (0))] : List Value)) (cs' := ([(.int .i64 (withinV (who.getD i 0) (N : Int))), (.int .i64 (4)), (.int .i64 (0)), (.int .i64 (0))] : List Value)) rfl H141 10 rfl rfl rfl rfl (by kernel_rfl) (Nat.le_of_ble_eq_true (by kernel_rfl)) (Nat.le_of_ble_eq_true (by kernel_rfl)) (by kernel_rfl) (by kernel_rfl) ?_
        intro w143 (H144 : Sat w [restC w (fun _ => False), cellC b6 31 ([(.int .i64 (F)), (.int .i64 (1))] : List Value), cellC b20 103 ([(.map (some m21))] : List Value), mapC m21 signedV (Value.int .i64) (marks B), cellC r22 96 ([(.slice none 0 0)] : List Value), cellC b29 52 ([(.pointer (some ⟨b20, 0, none⟩)), (.pointer (some ⟨r22, 0, none⟩))] : List Value), cellC r38 86 ([(.int .i64 (F)), (.int .i64 (1)), (.int .i64 (0)), (.map (some m39))] : List Value), mapC m39 (Value.int .i64) encX L, denC L, rowTr b62 4 N A, cellC b139 63 ([(.int .i64 (withinV (who.getD i 0) (N : Int))), (.int .i64 (4)), (.int .i64 (0)), (.int .i64 (0))] : List Value)] w143)
        refine hK142 _ _ ?_
        clear hK142 K142
        refine w_nil ?_
        refine then_normal ?_
        refine w_seq ?_
        obtain ⟨R, hR⟩ : ∃ R, R = withinV (who.getD i 0) (N : Int) := ⟨_, rfl⟩
        have hR2 := within_lim (who.getD i 0) (N : Int) (by omega)
        rw [← hR] at hR2
        have hR0 : 0 ≤ R := hR2.1
        have hR1 : R < (N : Int) := hR2.2
        have H146 : Sat w [restC w (fun _ => False), cellC b6 31 ([(.int .i64 (F)), (.int .i64 (1))] : List Value), cellC b20 103 ([(.map (some m21))] : List Value), mapC m21 signedV (Value.int .i64) (marks B), cellC r22 96 ([(.slice none 0 0)] : List Value), cellC b29 52 ([(.pointer (some ⟨b20, 0, none⟩)), (.pointer (some ⟨r22, 0, none⟩))] : List Value), cellC r38 86 ([(.int .i64 (F)), (.int .i64 (1)), (.int .i64 (0)), (.map (some m39))] : List Value), mapC m39 (Value.int .i64) encX L, denC L, rowTr b62 4 N A, cellC b139 63 ([(.int .i64 (R)), (.int .i64 (4)), (.int .i64 (0)), (.int .i64 (0))] : List Value)] w143 := by rw [hR]; exact H144
        refine k_start H146 [restC w (fun _ => False), cellC b6 31 ([(.int .i64 (F)), (.int .i64 (1))] : List Value), cellC b20 103 ([(.map (some m21))] : List Value), cellC r22 96 ([(.slice none 0 0)] : List Value), cellC b29 52 ([(.pointer (some ⟨b20, 0, none⟩)), (.pointer (some ⟨r22, 0, none⟩))] : List Value), cellC r38 86 ([(.int .i64 (F)), (.int .i64 (1)), (.int .i64 (0)), (.map (some m39))] : List Value), mapC m39 (Value.int .i64) encX L, denC L, rowTr b62 4 N A, cellC b139 63 ([(.int .i64 (R)), (.int .i64 (4)), (.int .i64 (0)), (.int .i64 (0))] : List Value)] [8] 9 rfl (by kernel_rfl) (fun Hx => (Hx.pick [0, 1, 2, 4, 5, 6, 7, 8, 9, 10] (by decide))) ?_
        intro w147 H148 S149
        refine k_pure 0 rfl (by kernel_rfl) (by kernel_rfl) (by kernel_rfl) (fun _ _ _ h => h) S149 (wants0 rfl) rfl (d := 95) (v := (.pointer (some ⟨b29, 0, none⟩))) rfl (fun _ => (by kernel_rfl)) ?_
        refine k_val 1 rfl (by kernel_rfl) (by kernel_rfl) (by kernel_rfl) (fun _ _ _ h => h) S149 (wants0 rfl) rfl (by kernel_rfl) (d := 96) (v := (.pointer (some ⟨b20, 0, none⟩))) rfl (fun _ H' => (e_load1 rfl (by kernel_rfl) (H'.cell 4 rfl rfl))) ?_
        refine k_pure 2 rfl (by kernel_rfl) (by kernel_rfl) (by kernel_rfl) (fun _ _ _ h => h) S149 (wants0 rfl) rfl (d := 97) (v := (.pointer (some ⟨b139, 0, none⟩))) rfl (fun _ => (by kernel_rfl)) ?_
        refine k_val 3 rfl (by kernel_rfl) (by kernel_rfl) (by kernel_rfl) (fun _ _ _ h => h) S149 (wants0 rfl) rfl (by kernel_rfl) (d := 98) (v := (.int .i64 (R))) rfl (fun _ H' => (e_load1 rfl (by kernel_rfl) (H'.cell 9 rfl rfl))) ?_
        refine k_val 4 rfl (by kernel_rfl) (by kernel_rfl) (by kernel_rfl) (fun _ _ _ h => h) S149 (wants0 rfl) rfl (by kernel_rfl) (d := 99) (v := (.agg ⟨([(.int .i64 (R)), (.int .i64 (4)), (.int .i64 (0)), (.int .i64 (0))] : List Value)⟩)) rfl (fun _ H' => (e_loadN (vs := ([(.int .i64 (R)), (.int .i64 (4)), (.int .i64 (0)), (.int .i64 (0))] : List Value)) rfl (by kernel_rfl) (by kernel_rfl) (by exact Nat.le_of_ble_eq_true (by kernel_rfl)) (H'.at 9 rfl) (by kernel_rfl))) ?_
        refine k_do 5 rfl (by kernel_rfl) (wants0 rfl) rfl (fun K150 hK150 => ?_)
        refine d_call (d := 100) rfl (by kernel_rfl) (rDenyText_any w147 (⟨R, 4, 0, 0⟩ : DenyD) ⟨by show R ≤ _; omega, by show 4 ≤ _; omega⟩) ?_
        rintro _ w151 ⟨u152, rfl, k153, p154, q155⟩
        have hdl := denyB_len R (4 : Int)
        have H156 : Sat w [restC w (fun _ => False), cellC b6 31 ([(.int .i64 (F)), (.int .i64 (1))] : List Value), cellC b20 103 ([(.map (some m21))] : List Value), mapC m21 signedV (Value.int .i64) (marks B), cellC r22 96 ([(.slice none 0 0)] : List Value), cellC b29 52 ([(.pointer (some ⟨b20, 0, none⟩)), (.pointer (some ⟨r22, 0, none⟩))] : List Value), cellC r38 86 ([(.int .i64 (F)), (.int .i64 (1)), (.int .i64 (0)), (.map (some m39))] : List Value), mapC m39 (Value.int .i64) encX L, denC L, rowTr b62 4 N A, cellC b139 63 ([(.int .i64 (R)), (.int .i64 (4)), (.int .i64 (0)), (.int .i64 (0))] : List Value), rowC 5 1 u152 ((denyB R (4 : Int)).length) ((denyB R (4 : Int)).flatMap encB)] w151 := H148.addU p154 k153 q155
        obtain ⟨a157, c158, rfl⟩ := ownsRow_shape (H156.at 11 rfl)
        refine ⟨_, rfl, ?_⟩
        have S159 := H156.pick [0, 1, 2, 4, 5, 6, 7, 8, 9, 10] (by decide)
        refine hK150 _ _ S159 ?_
        clear hK150 K150
        refine k_do 6 rfl (by kernel_rfl) (wants0 rfl) rfl (fun K160 hK160 => ?_)
        refine d_call (d := 101) rfl (by kernel_rfl) (pSign_any w151 b20 m21 B (.slice a157 ((denyB R (4 : Int)).length) c158) (denyB R (4 : Int)) (H156.fin [2, 3, 11] (by decide) rfl) (by omega) R) ?_
        rintro _ w161 ⟨rfl, T162⟩
        have hsl := signL_len B (⟨R, (denyB R (4 : Int))⟩ : Signed)
        have H163 : Sat w [restC w (fun _ => False), cellC b6 31 ([(.int .i64 (F)), (.int .i64 (1))] : List Value), cellC b20 103 ([(.map (some m21))] : List Value), mapC m21 signedV (Value.int .i64) (marks (signL B (⟨R, (denyB R (4 : Int))⟩ : Signed))), cellC r22 96 ([(.slice none 0 0)] : List Value), cellC b29 52 ([(.pointer (some ⟨b20, 0, none⟩)), (.pointer (some ⟨r22, 0, none⟩))] : List Value), cellC r38 86 ([(.int .i64 (F)), (.int .i64 (1)), (.int .i64 (0)), (.map (some m39))] : List Value), mapC m39 (Value.int .i64) encX L, denC L, rowTr b62 4 N A, cellC b139 63 ([(.int .i64 (R)), (.int .i64 (4)), (.int .i64 (0)), (.int .i64 (0))] : List Value), rowC 5 1 (.slice a157 ((denyB R (4 : Int)).length) c158) ((denyB R (4 : Int)).length) ((denyB R (4 : Int)).flatMap encB)] w161 := (Sat.turnL (L' := [cellC b20 103 ([(.map (some m21))] : List Value), mapC m21 signedV (Value.int .i64) (marks (signL B (⟨R, (denyB R (4 : Int))⟩ : Signed))), rowC 5 1 (.slice a157 ((denyB R (4 : Int)).length) c158) ((denyB R (4 : Int)).length) ((denyB R (4 : Int)).flatMap encB)]) (R := [restC w (fun _ => False), cellC b6 31 ([(.int .i64 (F)), (.int .i64 (1))] : List Value), cellC r22 96 ([(.slice none 0 0)] : List Value), cellC b29 52 ([(.pointer (some ⟨b20, 0, none⟩)), (.pointer (some ⟨r22, 0, none⟩))] : List Value), cellC r38 86 ([(.int .i64 (F)), (.int .i64 (1)), (.int .i64 (0)), (.map (some m39))] : List Value), mapC m39 (Value.int .i64) encX L, denC L, rowTr b62 4 N A, cellC b139 63 ([(.int .i64 (R)), (.int .i64 (4)), (.int .i64 (0)), (.int .i64 (0))] : List Value)]) H156 [2, 3, 11] [0, 1, 4, 5, 6, 7, 8, 9, 10] (by decide) (by kernel_rfl) rfl T162).pick [3, 4, 0, 1, 5, 6, 7, 8, 9, 10, 11, 2] (by decide)
        refine ⟨_, rfl, ?_⟩
        have S164 := H163.pick [0, 1, 2, 4, 5, 6, 7, 8, 9, 10] (by decide)
        refine hK160 _ _ S164 ?_
        clear hK160 K160
        refine k_pure 7 rfl (by kernel_rfl) (by kernel_rfl) (by kernel_rfl) (fun _ _ _ h => h) S164 (wants0 rfl) rfl (d := 102) (v := (.pointer (some ⟨b139, 2, none⟩))) rfl (fun _ => (by kernel_rfl)) ?_
        refine k_brk 8 (Sat w [restC w (fun _ => False), cellC b6 31 ([(.int .i64 (F)), (.int .i64 (1))] : List Value), cellC b20 103 ([(.map (some m21))] : List Value), cellC r22 96 ([(.slice none 0 0)] : List Value), cellC b29 52 ([(.pointer (some ⟨b20, 0, none⟩)), (.pointer (some ⟨r22, 0, none⟩))] : List Value), cellC r38 86 ([(.int .i64 (F)), (.int .i64 (1)), (.int .i64 (0)), (.map (some m39))] : List Value), mapC m39 (Value.int .i64) encX L, denC L, rowTr b62 4 N A]) rfl (by kernel_rfl) (wants0 rfl) rfl (fun K165 hK165 => ?_)
        refine d_storeX (vs := ([(.int .i64 (R)), (.int .i64 (markOf (signL B (⟨R, (denyB R (4 : Int))⟩ : Signed)) (⟨R, (denyB R (4 : Int))⟩ : Signed)))] : List Value)) (cs' := ([(.int .i64 (R)), (.int .i64 (4)), (.int .i64 (R)), (.int .i64 (markOf (signL B (⟨R, (denyB R (4 : Int))⟩ : Signed)) (⟨R, (denyB R (4 : Int))⟩ : Signed)))] : List Value)) rfl H163 10 rfl rfl rfl rfl (by kernel_rfl) (Nat.le_of_ble_eq_true (by kernel_rfl)) (Nat.le_of_ble_eq_true (by kernel_rfl)) (by kernel_rfl) (by kernel_rfl) ?_
        intro w166 (H167 : Sat w [restC w (fun _ => False), cellC b6 31 ([(.int .i64 (F)), (.int .i64 (1))] : List Value), cellC b20 103 ([(.map (some m21))] : List Value), mapC m21 signedV (Value.int .i64) (marks (signL B (⟨R, (denyB R (4 : Int))⟩ : Signed))), cellC r22 96 ([(.slice none 0 0)] : List Value), cellC b29 52 ([(.pointer (some ⟨b20, 0, none⟩)), (.pointer (some ⟨r22, 0, none⟩))] : List Value), cellC r38 86 ([(.int .i64 (F)), (.int .i64 (1)), (.int .i64 (0)), (.map (some m39))] : List Value), mapC m39 (Value.int .i64) encX L, denC L, rowTr b62 4 N A, cellC b139 63 ([(.int .i64 (R)), (.int .i64 (4)), (.int .i64 (R)), (.int .i64 (markOf (signL B (⟨R, (denyB R (4 : Int))⟩ : Signed)) (⟨R, (denyB R (4 : Int))⟩ : Signed)))] : List Value), rowC 5 1 (.slice a157 ((denyB R (4 : Int)).length) c158) ((denyB R (4 : Int)).length) ((denyB R (4 : Int)).flatMap encB)] w166)
        have S169 := H167.pick [0, 1, 2, 4, 5, 6, 7, 8, 9] (by decide)
        refine hK165 _ _ S169 ?_
        clear hK165 K165
        refine h_fin (by kernel_rfl) ?_
        refine then_normal ?_
        refine w_seq ?_
        refine w_seq ?_
        refine h_start H167 [restC w (fun _ => False), cellC b6 31 ([(.int .i64 (F)), (.int .i64 (1))] : List Value), cellC b20 103 ([(.map (some m21))] : List Value), mapC m21 signedV (Value.int .i64) (marks (signL B (⟨R, (denyB R (4 : Int))⟩ : Signed))), cellC r22 96 ([(.slice none 0 0)] : List Value), cellC b29 52 ([(.pointer (some ⟨b20, 0, none⟩)), (.pointer (some ⟨r22, 0, none⟩))] : List Value), cellC r38 86 ([(.int .i64 (F)), (.int .i64 (1)), (.int .i64 (0)), (.map (some m39))] : List Value), rowTr b62 4 N A, cellC b139 63 ([(.int .i64 (R)), (.int .i64 (4)), (.int .i64 (R)), (.int .i64 (markOf (signL B (⟨R, (denyB R (4 : Int))⟩ : Signed)) (⟨R, (denyB R (4 : Int))⟩ : Signed)))] : List Value), rowC 5 1 (.slice a157 ((denyB R (4 : Int)).length) c158) ((denyB R (4 : Int)).length) ((denyB R (4 : Int)).flatMap encB)] 11 rfl (by kernel_rfl) (fun Hx => (Hx.pick [0, 1, 2, 3, 4, 5, 6, 9, 10, 11] (by decide))) ?_
        intro w170 H171 S172
        refine h_val 0 rfl (by kernel_rfl) (by kernel_rfl) (by kernel_rfl) (fun _ _ _ h => h) S172 (wants0 rfl) (d := 103) (v := (.pointer (some ⟨r38, 0, none⟩))) rfl (fun _ H' => (by kernel_rfl)) ?_
        refine h_val 1 rfl (by kernel_rfl) (by kernel_rfl) (by kernel_rfl) (fun _ _ _ h => h) S172 (wants0 rfl) (d := 104) (v := (.pointer (some ⟨b29, 0, none⟩))) rfl (fun _ H' => (by kernel_rfl)) ?_
        refine h_val 2 rfl (by kernel_rfl) (by kernel_rfl) (by kernel_rfl) (fun _ _ _ h => h) S172 (wants0 rfl) (d := 105) (v := (.pointer (some ⟨b20, 0, none⟩))) rfl (fun _ H' => (e_load1 rfl (by kernel_rfl) (H'.cell 5 rfl rfl))) ?_
        refine h_val 3 rfl (by kernel_rfl) (by kernel_rfl) (by kernel_rfl) (fun _ _ _ h => h) S172 (wants0 rfl) (d := 106) (v := (.agg ⟨([(.int .i64 (R)), (.int .i64 (4)), (.int .i64 (R)), (.int .i64 (markOf (signL B (⟨R, (denyB R (4 : Int))⟩ : Signed)) (⟨R, (denyB R (4 : Int))⟩ : Signed)))] : List Value)⟩)) rfl (fun _ H' => (e_loadN (vs := ([(.int .i64 (R)), (.int .i64 (4)), (.int .i64 (R)), (.int .i64 (markOf (signL B (⟨R, (denyB R (4 : Int))⟩ : Signed)) (⟨R, (denyB R (4 : Int))⟩ : Signed)))] : List Value)) rfl (by kernel_rfl) (by kernel_rfl) (by exact Nat.le_of_ble_eq_true (by kernel_rfl)) (H'.at 8 rfl) (by kernel_rfl))) ?_
        refine h_val 5 rfl (by kernel_rfl) (by kernel_rfl) (by kernel_rfl) (fun _ _ _ h => h) S172 (wants0 rfl) (d := 108) (v := (.slice (some ⟨b62, 0, none⟩) N N)) rfl (fun _ H' => (by kernel_rfl)) ?_
        refine h_val 6 rfl (by kernel_rfl) (by kernel_rfl) (by kernel_rfl) (fun _ _ _ h => h) S172 (wants0 rfl) (d := 109) (v := (.pointer (some ⟨b139, 0, none⟩))) rfl (fun _ H' => (by kernel_rfl)) ?_
        refine h_val 7 rfl (by kernel_rfl) (by kernel_rfl) (by kernel_rfl) (fun _ _ _ h => h) S172 (wants0 rfl) (d := 110) (v := (.int .i64 (R))) rfl (fun _ H' => (e_load1 rfl (by kernel_rfl) (H'.cell 8 rfl rfl))) ?_
        refine h_val 8 rfl (by kernel_rfl) (by kernel_rfl) (by kernel_rfl) (fun _ _ _ h => h) S172 (wants0 rfl) (d := 111) (v := (.pointer (some ⟨b62, 0 + (R).toNat * 1, none⟩))) rfl (fun _ H' => (e_indexAddr (E := 4) (by kernel_rfl) (by kernel_rfl) (Nat.le_of_ble_eq_true rfl) rfl rfl (by omega) (by omega))) ?_
        refine h_val 9 rfl (by kernel_rfl) (by kernel_rfl) (by kernel_rfl) (fun _ _ _ h => h) S172 (wants0 rfl) (d := 112) (v := (.bool (A.getD (R).toNat false))) rfl (fun _ H' => (e_load1 rfl (by kernel_rfl) (rowTr_cell (H'.at 7 rfl) (show (R).toNat < N by omega) (show 0 + (R).toNat * 1 = (R).toNat by omega)))) ?_
        refine h_do 4 rfl (by kernel_rfl) (wants0 rfl) (fun K173 hK173 => ?_)
        refine d_call (d := 107) rfl (by kernel_rfl) (rvDeny_any w170 r38 m39 F 1 0 L b20 m21 (signL B (⟨R, (denyB R (4 : Int))⟩ : Signed)) (H171.fin [6, 7, 8, 2, 3] (by decide) rfl) (by omega) (⟨R, 4, R, markOf (signL B (⟨R, (denyB R (4 : Int))⟩ : Signed)) (⟨R, (denyB R (4 : Int))⟩ : Signed)⟩ : DenyD) (by constructor <;> simp only <;> omega) X hX (by unfold rightDn; simp only [decide_true, Bool.true_and, Bool.and_true, signed_right]; unfold inB; simp; omega)) ?_
        rintro _ w174 ⟨M175, rfl, C176, T177⟩
        have H178 : Sat w [restC w (fun _ => False), cellC b6 31 ([(.int .i64 (F)), (.int .i64 (1))] : List Value), cellC b20 103 ([(.map (some m21))] : List Value), mapC m21 signedV (Value.int .i64) (marks (signL B (⟨R, (denyB R (4 : Int))⟩ : Signed))), cellC r22 96 ([(.slice none 0 0)] : List Value), cellC b29 52 ([(.pointer (some ⟨b20, 0, none⟩)), (.pointer (some ⟨r22, 0, none⟩))] : List Value), cellC r38 86 ([(.int .i64 (F)), (.int .i64 (1)), (.int .i64 (0)), (.map (some m39))] : List Value), mapC m39 (Value.int .i64) encX M175, denC M175, rowTr b62 4 N A, cellC b139 63 ([(.int .i64 (R)), (.int .i64 (4)), (.int .i64 (R)), (.int .i64 (markOf (signL B (⟨R, (denyB R (4 : Int))⟩ : Signed)) (⟨R, (denyB R (4 : Int))⟩ : Signed)))] : List Value), rowC 5 1 (.slice a157 ((denyB R (4 : Int)).length) c158) ((denyB R (4 : Int)).length) ((denyB R (4 : Int)).flatMap encB)] w174 := (Sat.turnL (L' := [cellC r38 86 ([(.int .i64 (F)), (.int .i64 (1)), (.int .i64 (0)), (.map (some m39))] : List Value), mapC m39 (Value.int .i64) encX M175, denC M175, cellC b20 103 ([(.map (some m21))] : List Value), mapC m21 signedV (Value.int .i64) (marks (signL B (⟨R, (denyB R (4 : Int))⟩ : Signed)))]) (R := [restC w (fun _ => False), cellC b6 31 ([(.int .i64 (F)), (.int .i64 (1))] : List Value), cellC r22 96 ([(.slice none 0 0)] : List Value), cellC b29 52 ([(.pointer (some ⟨b20, 0, none⟩)), (.pointer (some ⟨r22, 0, none⟩))] : List Value), rowTr b62 4 N A, cellC b139 63 ([(.int .i64 (R)), (.int .i64 (4)), (.int .i64 (R)), (.int .i64 (markOf (signL B (⟨R, (denyB R (4 : Int))⟩ : Signed)) (⟨R, (denyB R (4 : Int))⟩ : Signed)))] : List Value), rowC 5 1 (.slice a157 ((denyB R (4 : Int)).length) c158) ((denyB R (4 : Int)).length) ((denyB R (4 : Int)).flatMap encB)]) H171 [6, 7, 8, 2, 3] [0, 1, 4, 5, 9, 10, 11] (by decide) (by kernel_rfl) rfl T177).pick [5, 6, 3, 4, 7, 8, 0, 1, 2, 9, 10, 11] (by decide)
        obtain ⟨X181, hX179, hk180, hT182, _⟩ := TmI.count (i := 4) hT C176 hR0 hR1 rfl hk
        refine ⟨_, rfl, ?_⟩
        have S183 := H178.pick [0, 1, 2, 3, 4, 5, 6, 9, 10, 11] (by decide)
        refine hK173 _ _ S183 ?_
        clear hK173 K173
        refine h_val 10 rfl (by kernel_rfl) (by kernel_rfl) (by kernel_rfl) (fun _ _ _ h => h) S183 (wants0 rfl) (d := 113) (v := (.bool ((!(lookM X.D R).isSome) == (A.getD (R).toNat false)))) rfl (fun _ H' => (by kernel_rfl)) ?_
        refine h_fin (by kernel_rfl) ?_
        refine then_normal ?_
        have b184 : ((!(lookM X.D R).isSome) == (A.getD (R).toNat false)) = false := by (rw [hT.at hR0 hR1]; cases (lookM X.D R).isSome <;> rfl)
        refine wp_know 113 (.bool false) (congrArg Value.bool b184) ?_
        refine wp_iff rfl ?_
        refine w_skip ?_
        refine then_normal ?_
        refine w_seq ?_
        refine w_lit ?_
        refine wl_pure (wants0 rfl) (d := 114) (v := (.slice (some ⟨b62, 0, none⟩) N N)) rfl (by kernel_rfl) ?_
        refine wl_pure (wants0 rfl) (d := 115) (v := (.pointer (some ⟨b139, 0, none⟩))) rfl (by kernel_rfl) ?_
        refine wl_pure (wants0 rfl) (d := 116) (v := (.int .i64 (R))) rfl (e_load1 rfl (by kernel_rfl) (H178.cell 10 rfl rfl)) ?_
        refine wl_pure (wants0 rfl) (d := 117) (v := (.pointer (some ⟨b62, 0 + (R).toNat * 1, none⟩))) rfl (e_indexAddr (E := 4) (by kernel_rfl) (by kernel_rfl) (Nat.le_of_ble_eq_true rfl) rfl rfl (by omega) (by omega)) ?_
        refine wl_do (wants0 rfl) (fun K185 hK185 => ?_)
        refine d_storeTr rfl H178 9 rfl rfl rfl (by kernel_rfl) (show 0 + (R).toNat * 1 = (R).toNat by omega) (show (R).toNat < N by omega) ?_
        intro w186 (H187 : Sat w [restC w (fun _ => False), cellC b6 31 ([(.int .i64 (F)), (.int .i64 (1))] : List Value), cellC b20 103 ([(.map (some m21))] : List Value), mapC m21 signedV (Value.int .i64) (marks (signL B (⟨R, (denyB R (4 : Int))⟩ : Signed))), cellC r22 96 ([(.slice none 0 0)] : List Value), cellC b29 52 ([(.pointer (some ⟨b20, 0, none⟩)), (.pointer (some ⟨r22, 0, none⟩))] : List Value), cellC r38 86 ([(.int .i64 (F)), (.int .i64 (1)), (.int .i64 (0)), (.map (some m39))] : List Value), mapC m39 (Value.int .i64) encX M175, denC M175, rowTr b62 4 N (A.set (R).toNat true), cellC b139 63 ([(.int .i64 (R)), (.int .i64 (4)), (.int .i64 (R)), (.int .i64 (markOf (signL B (⟨R, (denyB R (4 : Int))⟩ : Signed)) (⟨R, (denyB R (4 : Int))⟩ : Signed)))] : List Value), rowC 5 1 (.slice a157 ((denyB R (4 : Int)).length) c158) ((denyB R (4 : Int)).length) ((denyB R (4 : Int)).flatMap encB)] w186)
        refine hK185 _ _ ?_
        clear hK185 K185
        refine w_nil ?_
        refine then_normal ?_
        refine w_seq ?_
        refine w_lit ?_
        refine wl_pure (wants0 rfl) (d := 17) (v := (.int .i64 (0))) rfl (by kernel_rfl) ?_
        refine w_nil ?_
        refine then_normal ?_
        refine w_seq ?_
        refine w_seq ?_
        refine w_lit ?_
        refine wl_pure (wants0 rfl) (d := 118) (v := (.slice (some ⟨b62, 0, none⟩) N N)) rfl (by kernel_rfl) ?_
        refine wl_pure (wants0 rfl) (d := 119) (v := (.int .i64 ((N : Int)))) rfl (by kernel_rfl) ?_
        refine wl_pure (wants0 rfl) (d := 120) (v := (.int .i64 (0))) rfl (by kernel_rfl) ?_
        refine w_nil ?_
        refine then_normal ?_
        refine w_block ?_
        refine wp_round [17, 18, 120, 121, 122, 123, 124, 125, 126, 127, 128, 129] (fun F_ W_ m_ => ∃ (j : Nat), F_ 120 = (.int .i64 ((j : Int))) ∧ F_ 17 = (.int .i64 (((((A.set (R).toNat true).take j).count true : Nat) : Int))) ∧ (j ≤ N) ∧ Sat w [restC w (fun _ => False), cellC b6 31 ([(.int .i64 (F)), (.int .i64 (1))] : List Value), cellC b20 103 ([(.map (some m21))] : List Value), mapC m21 signedV (Value.int .i64) (marks (signL B (⟨R, (denyB R (4 : Int))⟩ : Signed))), cellC r22 96 ([(.slice none 0 0)] : List Value), cellC b29 52 ([(.pointer (some ⟨b20, 0, none⟩)), (.pointer (some ⟨r22, 0, none⟩))] : List Value), cellC r38 86 ([(.int .i64 (F)), (.int .i64 (1)), (.int .i64 (0)), (.map (some m39))] : List Value), mapC m39 (Value.int .i64) encX M175, denC M175, rowTr b62 4 N (A.set (R).toNat true), cellC b139 63 ([(.int .i64 (R)), (.int .i64 (4)), (.int .i64 (R)), (.int .i64 (markOf (signL B (⟨R, (denyB R (4 : Int))⟩ : Signed)) (⟨R, (denyB R (4 : Int))⟩ : Signed)))] : List Value), rowC 5 1 (.slice a157 ((denyB R (4 : Int)).length) c158) ((denyB R (4 : Int)).length) ((denyB R (4 : Int)).flatMap encB)] W_ ∧ m_ = N - j) _ ⟨0, (show ((.int .i64 (0)) : Value) = _ by first | rfl | go_num), rfl, (Nat.zero_le _), H187, rfl⟩ ?_
        rintro g188 w189 _ ⟨j, v191, v192, hj, H190, rfl⟩
        refine wp_know 120 _ v191 ?_
        refine wp_know 17 _ v192 ?_
        have hcl : ((A.set (R).toNat true).take j).count true ≤ 1000 := by have q1 := List.count_le_length (a := true) (l := (A.set (R).toNat true).take j); rw [List.length_take] at q1; omega
        refine w_seq ?_
        refine w_lit ?_
        refine wl_pure (wants0 rfl) (d := 121) (v := (.bool (decide ((j : Int) < (N : Int))))) rfl (by kernel_rfl) ?_
        refine w_nil ?_
        refine then_normal ?_
        refine w_seq ?_
        refine (bsplit (decide ((j : Int) < (N : Int)))).elim (fun b194 => ?_) (fun b194 => ?_)
        · have g195 := of_decide_eq_true b194
          refine wp_know 121 (.bool true) (congrArg Value.bool b194) ?_
          have g196 := of_decide_eq_true b194
          refine wp_ift rfl ?_
          refine w_skip ?_
          refine then_normal ?_
          refine w_seq ?_
          refine w_block ?_
          refine w_seq ?_
          refine w_lit ?_
          refine wl_pure (wants0 rfl) (d := 122) (v := (.int .i64 ((j : Int)))) rfl (by kernel_rfl) ?_
          refine wl_pure (wants0 rfl) (d := 18) (v := (.int .i64 ((j : Int)))) rfl (by kernel_rfl) ?_
          refine w_nil ?_
          refine then_normal ?_
          refine w_seq ?_
          refine w_lit ?_
          refine wl_pure (wants0 rfl) (d := 123) (v := (.slice (some ⟨b62, 0, none⟩) N N)) rfl (by kernel_rfl) ?_
          refine wl_pure (wants0 rfl) (d := 124) (v := (.int .i64 ((j : Int)))) rfl (by kernel_rfl) ?_
          refine wl_pure (wants0 rfl) (d := 125) (v := (.pointer (some ⟨b62, 0 + ((j : Int)).toNat * 1, none⟩))) rfl (e_indexAddr (E := 4) (by kernel_rfl) (by kernel_rfl) (Nat.le_of_ble_eq_true rfl) rfl rfl (by omega) (by omega)) ?_
          refine wl_pure (wants0 rfl) (d := 126) (v := (.bool ((A.set (R).toNat true).getD j false))) rfl (e_load1 rfl (by kernel_rfl) (rowTr_cell (H190.at 9 rfl) (show j < N by omega) (show 0 + ((j : Int)).toNat * 1 = j by omega))) ?_
          refine w_nil ?_
          refine then_normal ?_
          refine (bsplit ((A.set (R).toNat true).getD j false)).elim (fun b197 => ?_) (fun b197 => ?_)
          · refine wp_know 126 (.bool true) (congrArg Value.bool b197) ?_
            refine wp_ift rfl ?_
            refine w_lit ?_
            refine wl_pure (wants0 rfl) (d := 127) (v := (.int .i64 (((((A.set (R).toNat true).take j).count true : Nat) : Int)))) rfl (by kernel_rfl) ?_
            refine wl_pure (wants0 rfl) (d := 128) (v := (.int .i64 (((((A.set (R).toNat true).take j).count true : Nat) : Int) + 1))) rfl (e_int (z := ((((A.set (R).toNat true).take j).count true : Nat) : Int) + 1) (by kernel_rfl) (IntWalk.i64_in _ (by omega))) ?_
            refine wl_pure (wants0 rfl) (d := 17) (v := (.int .i64 (((((A.set (R).toNat true).take j).count true : Nat) : Int) + 1))) rfl (by kernel_rfl) ?_
            refine w_nil ?_
            refine blk_normal ?_
            refine then_normal ?_
            refine w_lit ?_
            refine wl_pure (wants0 rfl) (d := 129) (v := (.int .i64 ((j : Int) + 1))) rfl (e_int (z := (j : Int) + 1) (by kernel_rfl) (IntWalk.i64_in _ (by omega))) ?_
            refine wl_pure (wants0 rfl) (d := 120) (v := (.int .i64 ((j : Int) + 1))) rfl (by kernel_rfl) ?_
            refine w_nil ?_
            refine round_back ?_ _ ⟨(j + 1), (show ((.int .i64 ((j : Int) + 1)) : Value) = _ by first | rfl | go_num), (show ((.int .i64 (((((A.set (R).toNat true).take j).count true : Nat) : Int) + 1)) : Value) = _ by rw [count_take (A.set (R).toNat true) (by rw [List.length_set]; omega), if_pos b197]; first | rfl | (simp; done)), (by omega), H190, rfl⟩ (by omega)
            exact (same_upd rfl (same_upd rfl (same_upd rfl (same_upd rfl (same_upd rfl (same_upd rfl (same_upd rfl (same_upd rfl (same_upd rfl (same_upd rfl (same_upd rfl (same_upd rfl (same_upd rfl (same_upd rfl (same_upd rfl (same_upd rfl (same_ovr)))))))))))))))))
          · refine wp_know 126 (.bool false) (congrArg Value.bool b197) ?_
            refine wp_iff rfl ?_
            refine w_skip ?_
            refine blk_normal ?_
            refine then_normal ?_
            refine w_lit ?_
            refine wl_pure (wants0 rfl) (d := 129) (v := (.int .i64 ((j : Int) + 1))) rfl (e_int (z := (j : Int) + 1) (by kernel_rfl) (IntWalk.i64_in _ (by omega))) ?_
            refine wl_pure (wants0 rfl) (d := 120) (v := (.int .i64 ((j : Int) + 1))) rfl (by kernel_rfl) ?_
            refine w_nil ?_
            refine round_back ?_ _ ⟨(j + 1), (show ((.int .i64 ((j : Int) + 1)) : Value) = _ by first | rfl | go_num), (show ((.int .i64 (((((A.set (R).toNat true).take j).count true : Nat) : Int))) : Value) = _ by rw [count_take (A.set (R).toNat true) (by rw [List.length_set]; omega), if_neg (by rw [b197]; decide)]; first | rfl | (simp; done)), (by omega), H190, rfl⟩ (by omega)
            exact (same_upd rfl (same_upd rfl (same_upd rfl (same_upd rfl (same_upd rfl (same_upd rfl (same_upd rfl (same_upd rfl (same_upd rfl (same_upd rfl (same_upd rfl (same_upd rfl (same_upd rfl (same_ovr))))))))))))))
        · have g198 := of_decide_eq_false b194
          refine wp_know 121 (.bool false) (congrArg Value.bool b194) ?_
          have g199 := of_decide_eq_false b194
          refine wp_iff rfl ?_
          refine w_exit ?_
          refine then_exit ?_
          refine back_exit ?_
          refine blk_hit ?_
          refine then_normal ?_
          refine w_seq ?_
          have hjN : j = N := by omega
          have htk : (A.set (R).toNat true).take j = (A.set (R).toNat true) := List.take_of_length_le (by rw [List.length_set]; omega)
          refine wp_know 17 (.int .i64 ((((A.set (R).toNat true).count true : Nat) : Int))) (show ((.int .i64 (((((A.set (R).toNat true).take j).count true : Nat) : Int))) : Value) = _ by rw [htk]) ?_
          refine w_lit ?_
          refine wl_pure (wants0 rfl) (d := 130) (v := (.pointer (some ⟨r38, 0, none⟩))) rfl (by kernel_rfl) ?_
          refine wl_do (wants0 rfl) (fun K200 hK200 => ?_)
          refine d_call (d := 131) rfl (by kernel_rfl) (rvTombs_any w189 r38 m39 F 1 0 M175 (H190.at 6 rfl) (H190.at 7 rfl) (by have q := one_len hk180; omega) (one_i64 hk180 ⟨by decide, by decide⟩) (H190.at 8 rfl) (hT182.dens (by omega) hk180 hX179) Q hQ (by omega)) ?_
          rintro _ w201 ⟨a202, c203, O204, rfl, o205, o206, k207, u208, q209⟩
          have H210 : Sat w [restC w (fun _ => False), cellC b6 31 ([(.int .i64 (F)), (.int .i64 (1))] : List Value), cellC b20 103 ([(.map (some m21))] : List Value), mapC m21 signedV (Value.int .i64) (marks (signL B (⟨R, (denyB R (4 : Int))⟩ : Signed))), cellC r22 96 ([(.slice none 0 0)] : List Value), cellC b29 52 ([(.pointer (some ⟨b20, 0, none⟩)), (.pointer (some ⟨r22, 0, none⟩))] : List Value), cellC r38 86 ([(.int .i64 (F)), (.int .i64 (1)), (.int .i64 (0)), (.map (some m39))] : List Value), mapC m39 (Value.int .i64) encX M175, denC M175, rowTr b62 4 N (A.set (R).toNat true), cellC b139 63 ([(.int .i64 (R)), (.int .i64 (4)), (.int .i64 (R)), (.int .i64 (markOf (signL B (⟨R, (denyB R (4 : Int))⟩ : Signed)) (⟨R, (denyB R (4 : Int))⟩ : Signed)))] : List Value), rowC 5 1 (.slice a157 ((denyB R (4 : Int)).length) c158) ((denyB R (4 : Int)).length) ((denyB R (4 : Int)).flatMap encB), rowC 78 2 (.slice a202 O204.length c203) O204.length (O204.flatMap encTb)] w201 := H190.addU u208 k207 q209
          refine ⟨_, rfl, ?_⟩
          have hz := hT182.tombs hk180 hX179 o205
          refine hK200 _ _ ?_
          clear hK200 K200
          refine wl_pure (wants0 rfl) (d := 19) (v := (.slice a202 O204.length c203)) rfl (by kernel_rfl) ?_
          refine w_nil ?_
          refine then_normal ?_
          refine w_seq ?_
          refine (bsplit (decide (Q ≤ (A.set (R).toNat true).count true))).elim (fun b215 => ?_) (fun b215 => ?_)
          · have g216 := of_decide_eq_true b215
            rw [if_pos (of_decide_eq_true b215)] at hz
            have hzl : O204.length = 1 := by simpa using congrArg List.length hz
            have hcq := of_decide_eq_true b215
            refine q_start H210 (by kernel_rfl) (by kernel_rfl) ?_
            refine q_val (wants0 rfl) (d := 132) (v := (.slice a202 O204.length c203)) rfl (fun _ H' => (by kernel_rfl)) ?_
            refine q_val (wants0 rfl) (d := 133) (v := (.int .i64 ((O204.length : Int)))) rfl (fun _ H' => (by kernel_rfl)) ?_
            refine q_val (wants0 rfl) (d := 134) (v := (.bool (decide ((O204.length : Int) = 1)))) rfl (fun _ H' => (by kernel_rfl)) ?_
            refine q_val (wants0 rfl) (d := 135) (v := (.int .i64 ((((A.set (R).toNat true).count true : Nat) : Int)))) rfl (fun _ H' => (by kernel_rfl)) ?_
            refine q_val (wants0 rfl) (d := 136) (v := (.agg ⟨([(.int .i64 (F)), (.int .i64 (1))] : List Value)⟩)) rfl (fun _ H' => (e_loadN (vs := ([(.int .i64 (F)), (.int .i64 (1))] : List Value)) rfl (by kernel_rfl) (by kernel_rfl) (by exact Nat.le_of_ble_eq_true (by kernel_rfl)) (H'.at 1 rfl) (by kernel_rfl))) ?_
            refine q_call (wants0 rfl) (d := 137) (v := (.int .i64 (2 * F + 1))) rfl (fun _ _ => by kernel_rfl) (fun w' H' => (rQuorum_any w' F 1 (by omega)).mono fun _ _ h => ⟨h.1, H'.keepU h.2⟩) ?_
            refine q_val (wants0 rfl) (d := 138) (v := (.bool (decide ((((A.set (R).toNat true).count true : Nat) : Int) ≥ (2 * F + 1))))) rfl (fun _ H' => (by kernel_rfl)) ?_
            refine q_val (wants0 rfl) (d := 139) (v := (.bool (!((decide ((O204.length : Int) = 1)) == (decide ((((A.set (R).toNat true).count true : Nat) : Int) ≥ (2 * F + 1))))))) rfl (fun _ H' => (by kernel_rfl)) ?_
            refine q_val (wants0 rfl) (d := 140) (v := (.bool (!((decide ((O204.length : Int) = 1)) == (decide ((((A.set (R).toNat true).count true : Nat) : Int) ≥ (2 * F + 1))))))) rfl (fun _ H' => (by kernel_rfl)) ?_
            have b217 : (!((decide ((O204.length : Int) = 1)) == (decide ((((A.set (R).toNat true).count true : Nat) : Int) ≥ (2 * F + 1))))) = false := by (rw [decide_eq_true (by omega), decide_eq_true (by omega)]; rfl)
            refine q_know 140 (.bool false) (congrArg Value.bool b217) ?_
            have g218 := bnot_false b217
            refine q_val (wantsY 8 140 false rfl (by kernel_rfl) rfl (by kernel_rfl)) (d := 141) (v := (.slice a202 O204.length c203)) rfl (fun _ H' => (by kernel_rfl)) ?_
            refine q_val (wantsY 8 140 false rfl (by kernel_rfl) rfl (by kernel_rfl)) (d := 142) (v := (.int .i64 ((O204.length : Int)))) rfl (fun _ H' => (by kernel_rfl)) ?_
            refine q_val (wantsY 8 140 false rfl (by kernel_rfl) rfl (by kernel_rfl)) (d := 143) (v := (.bool (decide ((O204.length : Int) > 1)))) rfl (fun _ H' => (by kernel_rfl)) ?_
            refine q_val (wants0 rfl) (d := 144) (v := (.bool (decide ((O204.length : Int) > 1)))) rfl (fun _ H' => (by kernel_rfl)) ?_
            refine q_val (wants0 rfl) (d := 145) (v := (.bool (decide ((O204.length : Int) > 1)))) rfl (fun _ H' => (by kernel_rfl)) ?_
            have b219 : (decide ((O204.length : Int) > 1)) = false := by (exact decide_eq_false (by omega))
            refine q_know 145 (.bool false) (congrArg Value.bool b219) ?_
            have g220 := of_decide_eq_false b219
            refine q_val (wantsY 13 145 false rfl (by kernel_rfl) rfl (by kernel_rfl)) (d := 146) (v := (.slice a202 O204.length c203)) rfl (fun _ H' => (by kernel_rfl)) ?_
            refine q_val (wantsY 13 145 false rfl (by kernel_rfl) rfl (by kernel_rfl)) (d := 147) (v := (.int .i64 ((O204.length : Int)))) rfl (fun _ H' => (by kernel_rfl)) ?_
            refine q_val (wantsY 13 145 false rfl (by kernel_rfl) rfl (by kernel_rfl)) (d := 148) (v := (.bool (decide ((O204.length : Int) = 1)))) rfl (fun _ H' => (by kernel_rfl)) ?_
            refine q_val (wantsY 13 145 false rfl (by kernel_rfl) rfl (by kernel_rfl)) (d := 149) (v := (.bool (decide ((O204.length : Int) = 1)))) rfl (fun _ H' => (by kernel_rfl)) ?_
            have b221 : (decide ((O204.length : Int) = 1)) = true := by (exact decide_eq_true (by omega))
            refine q_know 149 (.bool true) (congrArg Value.bool b221) ?_
            have g222 := of_decide_eq_true b221
            refine q_val (wantsY 17 149 true rfl (by kernel_rfl) rfl (by kernel_rfl)) (d := 150) (v := (.slice a202 O204.length c203)) rfl (fun _ H' => (by kernel_rfl)) ?_
            obtain ⟨g223, c224, e225⟩ := row_shape (H210.at 12 rfl) (by omega)
            obtain ⟨x226, h227⟩ := get_at (show 0 < O204.length by omega)
            refine q_val (wantsY 17 149 true rfl (by kernel_rfl) rfl (by kernel_rfl)) (d := 151) (v := (.pointer (some ⟨g223, 0 + ((0 : Int)).toNat * 2, none⟩))) rfl (fun _ H' => (e_indexAddrV (E := 78) (by kernel_rfl) (by kernel_rfl) (Nat.le_of_ble_eq_true rfl) rfl e225 rfl (by omega) (by omega))) ?_
            refine q_val (wantsY 17 149 true rfl (by kernel_rfl) rfl (by kernel_rfl)) (d := 152) (v := (.pointer (some ⟨g223, 0 + ((0 : Int)).toNat * 2, none⟩))) rfl (fun _ H' => (by kernel_rfl)) ?_
            refine q_val (wantsY 17 149 true rfl (by kernel_rfl) rfl (by kernel_rfl)) (d := 153) (v := (.int .i64 (x226.i))) rfl (fun _ H' => (e_load1 rfl (by kernel_rfl) (rows_cell (H'.at 12 rfl) e225 encTb_len h227 0 rfl (show 0 + ((0 : Int)).toNat * 2 = 0 * 2 + 0 by omega) (by kernel_rfl)))) ?_
            refine q_val (wantsY 17 149 true rfl (by kernel_rfl) rfl (by kernel_rfl)) (d := 154) (v := (.bool (!(decide (x226.i = 4))))) rfl (fun _ H' => (by kernel_rfl)) ?_
            refine q_val (wantsY 17 149 true rfl (by kernel_rfl) rfl (by kernel_rfl)) (d := 155) (v := (.bool (!(decide (x226.i = 4))))) rfl (fun _ H' => (by kernel_rfl)) ?_
            have b228 : (!(decide (x226.i = 4))) = false := by (rw [decide_eq_true (one_elemT hz h227)]; rfl)
            refine q_know 155 (.bool false) (congrArg Value.bool b228) ?_
            have g229 := bnot_false b228
            have g230 := of_decide_eq_true g229
            refine q_val (wantsY 23 155 false rfl (by kernel_rfl) rfl (by kernel_rfl)) (d := 156) (v := (.slice a202 O204.length c203)) rfl (fun _ H' => (by kernel_rfl)) ?_
            refine q_val (wantsY 23 155 false rfl (by kernel_rfl) rfl (by kernel_rfl)) (d := 157) (v := (.pointer (some ⟨g223, 0 + ((0 : Int)).toNat * 2, none⟩))) rfl (fun _ H' => (e_indexAddrV (E := 78) (by kernel_rfl) (by kernel_rfl) (Nat.le_of_ble_eq_true rfl) rfl e225 rfl (by omega) (by omega))) ?_
            refine q_val (wantsY 23 155 false rfl (by kernel_rfl) rfl (by kernel_rfl)) (d := 158) (v := (.pointer (some ⟨g223, 0 + ((0 : Int)).toNat * 2 + 1, none⟩))) rfl (fun _ H' => (by kernel_rfl)) ?_
            refine q_val (wantsY 23 155 false rfl (by kernel_rfl) rfl (by kernel_rfl)) (d := 159) (v := (.slice x226.a x226.n x226.c)) rfl (fun _ H' => (e_load1 rfl (by kernel_rfl) (rows_cell (H'.at 12 rfl) e225 encTb_len h227 1 rfl (show 0 + ((0 : Int)).toNat * 2 + 1 = 0 * 2 + 1 by omega) (by kernel_rfl)))) ?_
            refine q_val (wantsY 23 155 false rfl (by kernel_rfl) rfl (by kernel_rfl)) (d := 160) (v := (.int .i64 ((x226.n : Int)))) rfl (fun _ H' => (by kernel_rfl)) ?_
            refine q_val (wantsY 23 155 false rfl (by kernel_rfl) rfl (by kernel_rfl)) (d := 161) (v := (.agg ⟨([(.int .i64 (F)), (.int .i64 (1))] : List Value)⟩)) rfl (fun _ H' => (e_loadN (vs := ([(.int .i64 (F)), (.int .i64 (1))] : List Value)) rfl (by kernel_rfl) (by kernel_rfl) (by exact Nat.le_of_ble_eq_true (by kernel_rfl)) (H'.at 1 rfl) (by kernel_rfl))) ?_
            refine q_call (wantsY 23 155 false rfl (by kernel_rfl) rfl (by kernel_rfl)) (d := 162) (v := (.int .i64 (2 * F + 1))) rfl (fun _ _ => by kernel_rfl) (fun w' H' => (rQuorum_any w' F 1 (by omega)).mono fun _ _ h => ⟨h.1, H'.keepU h.2⟩) ?_
            refine q_val (wantsY 23 155 false rfl (by kernel_rfl) rfl (by kernel_rfl)) (d := 163) (v := (.bool (!(decide ((x226.n : Int) = (2 * F + 1)))))) rfl (fun _ H' => (by kernel_rfl)) ?_
            refine q_val (wantsY 17 149 true rfl (by kernel_rfl) rfl (by kernel_rfl)) (d := 164) (v := (.bool (!(decide ((x226.n : Int) = (2 * F + 1)))))) rfl (fun _ H' => (by kernel_rfl)) ?_
            refine q_val (wantsY 13 145 false rfl (by kernel_rfl) rfl (by kernel_rfl)) (d := 165) (v := (.bool (!(decide ((x226.n : Int) = (2 * F + 1)))))) rfl (fun _ H' => (by kernel_rfl)) ?_
            refine q_val (wants0 rfl) (d := 166) (v := (.bool (!(decide ((x226.n : Int) = (2 * F + 1)))))) rfl (fun _ H' => (by kernel_rfl)) ?_
            refine q_end ?_
            intro w231 H232
            refine then_normal ?_
            have b233 : (!(decide ((x226.n : Int) = (2 * F + 1)))) = false := by (rw [decide_eq_true (by have q := o206 _ (List.mem_of_getElem? h227); omega)]; rfl)
            refine wp_know 166 (.bool false) (congrArg Value.bool b233) ?_
            have g234 := bnot_false b233
            have g235 := of_decide_eq_true g234
            refine wp_iff rfl ?_
            refine w_skip ?_
            refine blk_normal ?_
            refine then_normal ?_
            refine w_lit ?_
            refine wl_pure (wants0 rfl) (d := 86) (v := (.int .i64 ((i : Int)))) rfl (by kernel_rfl) ?_
            refine wl_pure (wants0 rfl) (d := 87) (v := (.int .i64 ((i : Int) + 1))) rfl (e_int (z := (i : Int) + 1) (by kernel_rfl) (IntWalk.i64_in _ (by omega))) ?_
            refine wl_pure (wants0 rfl) (d := 15) (v := (.int .i64 ((i : Int) + 1))) rfl (by kernel_rfl) ?_
            refine w_nil ?_
            have H236 : Sat w [restC w (fun _ => False), cellC b6 31 ([(.int .i64 (F)), (.int .i64 (1))] : List Value), cellC b20 103 ([(.map (some m21))] : List Value), mapC m21 signedV (Value.int .i64) (marks (signL B (⟨R, (denyB R (4 : Int))⟩ : Signed))), cellC r22 96 ([(.slice none 0 0)] : List Value), cellC b29 52 ([(.pointer (some ⟨b20, 0, none⟩)), (.pointer (some ⟨r22, 0, none⟩))] : List Value), cellC r38 86 ([(.int .i64 (F)), (.int .i64 (1)), (.int .i64 (0)), (.map (some m39))] : List Value), mapC m39 (Value.int .i64) encX M175, denC M175, rowTr b62 4 N (A.set (R).toNat true)] w231 := H232.pick [0, 1, 2, 3, 4, 5, 6, 7, 8, 9] (by decide)
            refine round_back ?_ _ ⟨(i + 1), M175, X181, (signL B (⟨R, (denyB R (4 : Int))⟩ : Signed)), (A.set (R).toNat true), (show ((.int .i64 ((i : Int) + 1)) : Value) = _ by first | rfl | go_num), (by omega), hk180, hX179, hT182, (by omega), H236, rfl⟩ (by omega)
            exact (same_upd rfl (same_upd rfl (same_upd rfl (same_upd rfl (same_upd rfl (same_upd rfl (same_upd rfl (same_upd rfl (same_upd rfl (same_upd rfl (same_upd rfl (same_upd rfl (same_upd rfl (same_upd rfl (same_upd rfl (same_upd rfl (same_upd rfl (same_upd rfl (same_upd rfl (same_upd rfl (same_upd rfl (same_upd rfl (same_upd rfl (same_upd rfl (same_upd rfl (same_upd rfl (same_upd rfl (same_upd rfl (same_upd rfl (same_upd rfl (same_upd rfl (same_upd rfl (same_upd rfl (same_upd rfl (same_upd rfl (same_upd rfl (same_upd rfl (same_upd rfl (same_upd rfl (same_upd rfl (same_upd rfl (same_upd rfl (same_upd rfl (same_upd rfl (same_upd rfl (same_upd rfl (same_upd rfl (same_upd rfl (same_upd rfl (same_upd rfl (same_upd rfl (same_ovr2 rfl (same_upd rfl (same_upd rfl (same_upd rfl (same_upd rfl (same_upd rfl (same_upd rfl (same_upd rfl (same_upd rfl (same_upd rfl (same_upd rfl (same_upd rfl (same_upd rfl (same_upd rfl (same_upd rfl (same_upd rfl (same_upd rfl (same_upd rfl (same_upd rfl (same_upd rfl (same_upd rfl (same_upd rfl (same_upd rfl (same_upd rfl (same_upd rfl (same_upd rfl (same_upd rfl (same_upd rfl (same_upd rfl (same_upd rfl (same_upd rfl (same_upd rfl (same_upd rfl (same_upd rfl (same_upd rfl (same_upd rfl (same_upd rfl (same_upd rfl (same_upd rfl (same_upd rfl (same_upd rfl (same_upd rfl (same_upd rfl (same_upd rfl (same_upd rfl (same_upd rfl (same_upd rfl (same_upd rfl (same_ovr))))))))))))))))))))))))))))))))))))))))))))))))))))))))))))))))))))))))))))))))))))))))))))))))))))
          · have g237 := of_decide_eq_false b215
            rw [if_neg (of_decide_eq_false b215)] at hz
            have hzl : O204.length = 0 := by simpa using congrArg List.length hz
            have hcq := of_decide_eq_false b215
            refine q_start H210 (by kernel_rfl) (by kernel_rfl) ?_
            refine q_val (wants0 rfl) (d := 132) (v := (.slice a202 O204.length c203)) rfl (fun _ H' => (by kernel_rfl)) ?_
            refine q_val (wants0 rfl) (d := 133) (v := (.int .i64 ((O204.length : Int)))) rfl (fun _ H' => (by kernel_rfl)) ?_
            refine q_val (wants0 rfl) (d := 134) (v := (.bool (decide ((O204.length : Int) = 1)))) rfl (fun _ H' => (by kernel_rfl)) ?_
            refine q_val (wants0 rfl) (d := 135) (v := (.int .i64 ((((A.set (R).toNat true).count true : Nat) : Int)))) rfl (fun _ H' => (by kernel_rfl)) ?_
            refine q_val (wants0 rfl) (d := 136) (v := (.agg ⟨([(.int .i64 (F)), (.int .i64 (1))] : List Value)⟩)) rfl (fun _ H' => (e_loadN (vs := ([(.int .i64 (F)), (.int .i64 (1))] : List Value)) rfl (by kernel_rfl) (by kernel_rfl) (by exact Nat.le_of_ble_eq_true (by kernel_rfl)) (H'.at 1 rfl) (by kernel_rfl))) ?_
            refine q_call (wants0 rfl) (d := 137) (v := (.int .i64 (2 * F + 1))) rfl (fun _ _ => by kernel_rfl) (fun w' H' => (rQuorum_any w' F 1 (by omega)).mono fun _ _ h => ⟨h.1, H'.keepU h.2⟩) ?_
            refine q_val (wants0 rfl) (d := 138) (v := (.bool (decide ((((A.set (R).toNat true).count true : Nat) : Int) ≥ (2 * F + 1))))) rfl (fun _ H' => (by kernel_rfl)) ?_
            refine q_val (wants0 rfl) (d := 139) (v := (.bool (!((decide ((O204.length : Int) = 1)) == (decide ((((A.set (R).toNat true).count true : Nat) : Int) ≥ (2 * F + 1))))))) rfl (fun _ H' => (by kernel_rfl)) ?_
            refine q_val (wants0 rfl) (d := 140) (v := (.bool (!((decide ((O204.length : Int) = 1)) == (decide ((((A.set (R).toNat true).count true : Nat) : Int) ≥ (2 * F + 1))))))) rfl (fun _ H' => (by kernel_rfl)) ?_
            have b238 : (!((decide ((O204.length : Int) = 1)) == (decide ((((A.set (R).toNat true).count true : Nat) : Int) ≥ (2 * F + 1))))) = false := by (rw [decide_eq_false (by omega), decide_eq_false (by omega)]; rfl)
            refine q_know 140 (.bool false) (congrArg Value.bool b238) ?_
            have g239 := bnot_false b238
            refine q_val (wantsY 8 140 false rfl (by kernel_rfl) rfl (by kernel_rfl)) (d := 141) (v := (.slice a202 O204.length c203)) rfl (fun _ H' => (by kernel_rfl)) ?_
            refine q_val (wantsY 8 140 false rfl (by kernel_rfl) rfl (by kernel_rfl)) (d := 142) (v := (.int .i64 ((O204.length : Int)))) rfl (fun _ H' => (by kernel_rfl)) ?_
            refine q_val (wantsY 8 140 false rfl (by kernel_rfl) rfl (by kernel_rfl)) (d := 143) (v := (.bool (decide ((O204.length : Int) > 1)))) rfl (fun _ H' => (by kernel_rfl)) ?_
            refine q_val (wants0 rfl) (d := 144) (v := (.bool (decide ((O204.length : Int) > 1)))) rfl (fun _ H' => (by kernel_rfl)) ?_
            refine q_val (wants0 rfl) (d := 145) (v := (.bool (decide ((O204.length : Int) > 1)))) rfl (fun _ H' => (by kernel_rfl)) ?_
            have b240 : (decide ((O204.length : Int) > 1)) = false := by (exact decide_eq_false (by omega))
            refine q_know 145 (.bool false) (congrArg Value.bool b240) ?_
            have g241 := of_decide_eq_false b240
            refine q_val (wantsY 13 145 false rfl (by kernel_rfl) rfl (by kernel_rfl)) (d := 146) (v := (.slice a202 O204.length c203)) rfl (fun _ H' => (by kernel_rfl)) ?_
            refine q_val (wantsY 13 145 false rfl (by kernel_rfl) rfl (by kernel_rfl)) (d := 147) (v := (.int .i64 ((O204.length : Int)))) rfl (fun _ H' => (by kernel_rfl)) ?_
            refine q_val (wantsY 13 145 false rfl (by kernel_rfl) rfl (by kernel_rfl)) (d := 148) (v := (.bool (decide ((O204.length : Int) = 1)))) rfl (fun _ H' => (by kernel_rfl)) ?_
            refine q_val (wantsY 13 145 false rfl (by kernel_rfl) rfl (by kernel_rfl)) (d := 149) (v := (.bool (decide ((O204.length : Int) = 1)))) rfl (fun _ H' => (by kernel_rfl)) ?_
            have b242 : (decide ((O204.length : Int) = 1)) = false := by (exact decide_eq_false (by omega))
            refine q_know 149 (.bool false) (congrArg Value.bool b242) ?_
            have g243 := of_decide_eq_false b242
            refine q_pass (wantsN 17 149 true rfl (by kernel_rfl) rfl (by kernel_rfl)) rfl ?_
            refine q_pass (wantsN 17 149 true rfl (by kernel_rfl) rfl (by kernel_rfl)) rfl ?_
            refine q_pass (wantsN 17 149 true rfl (by kernel_rfl) rfl (by kernel_rfl)) rfl ?_
            refine q_pass (wantsN 17 149 true rfl (by kernel_rfl) rfl (by kernel_rfl)) rfl ?_
            refine q_pass (wantsN 17 149 true rfl (by kernel_rfl) rfl (by kernel_rfl)) rfl ?_
            refine q_pass (wantsN 17 149 true rfl (by kernel_rfl) rfl (by kernel_rfl)) rfl ?_
            refine q_pass (wantsU 23 155 false rfl (by kernel_rfl) rfl (by kernel_rfl)) rfl ?_
            refine q_pass (wantsU 23 155 false rfl (by kernel_rfl) rfl (by kernel_rfl)) rfl ?_
            refine q_pass (wantsU 23 155 false rfl (by kernel_rfl) rfl (by kernel_rfl)) rfl ?_
            refine q_pass (wantsU 23 155 false rfl (by kernel_rfl) rfl (by kernel_rfl)) rfl ?_
            refine q_pass (wantsU 23 155 false rfl (by kernel_rfl) rfl (by kernel_rfl)) rfl ?_
            refine q_pass (wantsU 23 155 false rfl (by kernel_rfl) rfl (by kernel_rfl)) rfl ?_
            refine q_pass (wantsU 23 155 false rfl (by kernel_rfl) rfl (by kernel_rfl)) rfl ?_
            refine q_pass (wantsU 23 155 false rfl (by kernel_rfl) rfl (by kernel_rfl)) rfl ?_
            refine q_pass (wantsN 17 149 true rfl (by kernel_rfl) rfl (by kernel_rfl)) rfl ?_
            refine q_val (wantsY 13 145 false rfl (by kernel_rfl) rfl (by kernel_rfl)) (d := 165) (v := (.bool false)) rfl (fun _ H' => (by kernel_rfl)) ?_
            refine q_val (wants0 rfl) (d := 166) (v := (.bool false)) rfl (fun _ H' => (by kernel_rfl)) ?_
            refine q_end ?_
            intro w244 H245
            refine then_normal ?_
            refine wp_iff rfl ?_
            refine w_skip ?_
            refine blk_normal ?_
            refine then_normal ?_
            refine w_lit ?_
            refine wl_pure (wants0 rfl) (d := 86) (v := (.int .i64 ((i : Int)))) rfl (by kernel_rfl) ?_
            refine wl_pure (wants0 rfl) (d := 87) (v := (.int .i64 ((i : Int) + 1))) rfl (e_int (z := (i : Int) + 1) (by kernel_rfl) (IntWalk.i64_in _ (by omega))) ?_
            refine wl_pure (wants0 rfl) (d := 15) (v := (.int .i64 ((i : Int) + 1))) rfl (by kernel_rfl) ?_
            refine w_nil ?_
            have H246 : Sat w [restC w (fun _ => False), cellC b6 31 ([(.int .i64 (F)), (.int .i64 (1))] : List Value), cellC b20 103 ([(.map (some m21))] : List Value), mapC m21 signedV (Value.int .i64) (marks (signL B (⟨R, (denyB R (4 : Int))⟩ : Signed))), cellC r22 96 ([(.slice none 0 0)] : List Value), cellC b29 52 ([(.pointer (some ⟨b20, 0, none⟩)), (.pointer (some ⟨r22, 0, none⟩))] : List Value), cellC r38 86 ([(.int .i64 (F)), (.int .i64 (1)), (.int .i64 (0)), (.map (some m39))] : List Value), mapC m39 (Value.int .i64) encX M175, denC M175, rowTr b62 4 N (A.set (R).toNat true)] w244 := H245.pick [0, 1, 2, 3, 4, 5, 6, 7, 8, 9] (by decide)
            refine round_back ?_ _ ⟨(i + 1), M175, X181, (signL B (⟨R, (denyB R (4 : Int))⟩ : Signed)), (A.set (R).toNat true), (show ((.int .i64 ((i : Int) + 1)) : Value) = _ by first | rfl | go_num), (by omega), hk180, hX179, hT182, (by omega), H246, rfl⟩ (by omega)
            exact (same_upd rfl (same_upd rfl (same_upd rfl (same_upd rfl (same_upd rfl (same_upd rfl (same_upd rfl (same_upd rfl (same_upd rfl (same_upd rfl (same_upd rfl (same_upd rfl (same_upd rfl (same_upd rfl (same_upd rfl (same_upd rfl (same_upd rfl (same_upd rfl (same_upd rfl (same_upd rfl (same_upd rfl (same_upd rfl (same_upd rfl (same_upd rfl (same_upd rfl (same_upd rfl (same_upd rfl (same_upd rfl (same_upd rfl (same_upd rfl (same_upd rfl (same_upd rfl (same_upd rfl (same_upd rfl (same_upd rfl (same_upd rfl (same_upd rfl (same_upd rfl (same_upd rfl (same_upd rfl (same_upd rfl (same_upd rfl (same_upd rfl (same_upd rfl (same_upd rfl (same_upd rfl (same_upd rfl (same_upd rfl (same_upd rfl (same_ovr2 rfl (same_upd rfl (same_upd rfl (same_upd rfl (same_upd rfl (same_upd rfl (same_upd rfl (same_upd rfl (same_upd rfl (same_upd rfl (same_upd rfl (same_upd rfl (same_upd rfl (same_upd rfl (same_upd rfl (same_upd rfl (same_upd rfl (same_upd rfl (same_upd rfl (same_upd rfl (same_upd rfl (same_upd rfl (same_upd rfl (same_upd rfl (same_upd rfl (same_upd rfl (same_upd rfl (same_upd rfl (same_upd rfl (same_upd rfl (same_upd rfl (same_upd rfl (same_upd rfl (same_upd rfl (same_upd rfl (same_upd rfl (same_upd rfl (same_upd rfl (same_upd rfl (same_upd rfl (same_upd rfl (same_upd rfl (same_upd rfl (same_upd rfl (same_upd rfl (same_upd rfl (same_upd rfl (same_upd rfl (same_ovr))))))))))))))))))))))))))))))))))))))))))))))))))))))))))))))))))))))))))))))))))))))))))))))))))
      · have g247 := of_decide_eq_false b126
        refine wp_know 85 (.bool false) (congrArg Value.bool b126) ?_
        have g248 := of_decide_eq_false b126
        refine wp_iff rfl ?_
        refine w_exit ?_
        refine then_exit ?_
        refine back_exit ?_
        refine blk_hit ?_
        refine then_normal ?_
        refine w_seq ?_
        refine w_lit ?_
        refine wl_do (wants0 rfl) (fun K249 hK249 => ?_)
        refine d_call (d := 167) rfl (by kernel_rfl) (wakes_any w119) ?_
        rintro _ w250 ⟨rfl, u252⟩
        have H251 := H120.keepU u252
        refine ⟨_, rfl, ?_⟩
        refine hK249 _ _ ?_
        clear hK249 K249
        refine wl_pure (wants0 rfl) (d := 6) (v := (.bool true)) rfl (by kernel_rfl) ?_
        refine w_nil ?_
        refine then_normal ?_
        refine w_ret ?_
        refine end1 rfl (res_tmp (v := (.bool true)) rfl) ?_
        exact ⟨rfl, H251.upd 0 rfl [] (fun _ h => h.elim)⟩
    · have g253 := of_decide_eq_false b123
      refine wl_know 82 (.bool false) (congrArg Value.bool b123) ?_
      have g254 := of_decide_eq_false b123
      refine wl_pass (wantsN 4 82 true rfl (by kernel_rfl) rfl (by kernel_rfl)) rfl ?_
      refine wl_pass (wantsN 4 82 true rfl (by kernel_rfl) rfl (by kernel_rfl)) rfl ?_
      refine wl_pure (wants0 rfl) (d := 85) (v := (.bool false)) rfl (by kernel_rfl) ?_
      refine w_nil ?_
      refine then_normal ?_
      refine wp_iff rfl ?_
      refine w_exit ?_
      refine then_exit ?_
      refine back_exit ?_
      refine blk_hit ?_
      refine then_normal ?_
      refine w_seq ?_
      refine w_lit ?_
      refine wl_do (wants0 rfl) (fun K255 hK255 => ?_)
      refine d_call (d := 167) rfl (by kernel_rfl) (wakes_any w119) ?_
      rintro _ w256 ⟨rfl, u258⟩
      have H257 := H120.keepU u258
      refine ⟨_, rfl, ?_⟩
      refine hK255 _ _ ?_
      clear hK255 K255
      refine wl_pure (wants0 rfl) (d := 6) (v := (.bool true)) rfl (by kernel_rfl) ?_
      refine w_nil ?_
      refine then_normal ?_
      refine w_ret ?_
      refine end1 rfl (res_tmp (v := (.bool true)) rfl) ?_
      exact ⟨rfl, H257.upd 0 rfl [] (fun _ h => h.elim)⟩

end Go.Proofs.Ytoiplcicbjimlaa
