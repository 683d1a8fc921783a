/- WHAT IS PROVED: the walk of CertWhole. Conditions: stated with each. -/
import Derived.Test.YtbpeofcoceaahaaWhole10M
import Derived.Test.YtbpeofcoceaahaaRg2w
import Derived.Test.YtbpeofcoceaahaaMkG
namespace Go.Proofs.Ytbpeofcoceaahaa
open Go.RowKit
theorem ListAt.takeN {α : Type} {enc : α → List Value} {sz : Nat} {w : World} {a : Option Addr} {n c Q : Nat} {xs : List α} (h : ListAt enc sz w (.slice a n c) xs) (hQ : Q ≤ xs.length) : ListAt enc sz w (.slice a Q c) (xs.take Q) := ListAt.take h (by obtain ⟨_, _, e⟩ := SliceOf.len h; simp only [Value.slice.injEq] at e; omega)
theorem getD_memU {xs : List Int} {i : Nat} (h : i < xs.length) : xs.getD i 0 ∈ xs := by
  rw [List.getD_eq_getElem?_getD, List.getElem?_eq_getElem h]; exact List.getElem_mem h

theorem wRightX_at (w : World) (f cn : Int) (hf : -1099511627776 ≤ f ∧ f ≤ 1099511627776) (b mb : Nat) (L : List Signed) (hb : (cellC b 107 [.map (some mb)]).ok w) (hm : MapAt w mb signedV (Value.int .i64) (marks L)) (x : CommitD) (hx : CoOk x) (v : Value) (S : List StampD) (hS : ListAt encSt 38 w v S) (hok : StsOk S) (hlS : S.length ≤ 1000000) :
    Calls Try.prog 20 #[.agg ⟨[.int .i64 f, .int .i64 cn]⟩, .pointer (some ⟨b, 0, none⟩), .agg ⟨encCo x ++ [v]⟩] w fun e w' => e = .returned (.bool (rightX f cn L x S)) ∧ Upd [] w w' := by
  obtain ⟨a, c, rfl⟩ := SliceOf.len hS
  exact wRightX_any w f cn hf b mb L hb hm x hx a c S hS hok hlS

theorem wMakeG_at (w : World) (f cn : Int) (x : CommitD) (N Q : Nat) (hN : (N : Int) = 3 * f + 1) (hQ : (Q : Int) = 2 * f + 1) (hf : 1 ≤ f ∧ f ≤ 5) (v : Value) (S : List StampD) (hS : ListAt encSt 38 w v S) (hlS : S.length ≤ 1000) (hlo : (outS f x S).length ≤ 12) :
    Calls Try.prog 31 #[.agg ⟨[.int .i64 f, .int .i64 cn]⟩, .agg ⟨encCo x⟩, v] w fun e w' => (e = .returned (.tuple #[.agg ⟨encCo commit0 ++ [.slice none 0 0]⟩, .int .i64 8]) ∧ (refS x S N).length < Q ∧ Upd [] w w') ∨ ∃ g c, e = .returned (.tuple #[.agg ⟨encCo x ++ [.slice (some ⟨g, 0, none⟩) Q c]⟩, .int .i64 0]) ∧ Q ≤ (refS x S N).length ∧ (rowC 49 38 (.slice (some ⟨g, 0, none⟩) (refS x S N).length c) (refS x S N).length ((refS x S N).flatMap encSt)).ok w' ∧ Upd [] w w' ∧ w.heap.size ≤ g := by
  obtain ⟨a, c, rfl⟩ := SliceOf.len hS
  exact wMakeG_any w f cn x N Q hN hQ hf a c S hS hlS hlo

set_option maxRecDepth 100000 in
set_option maxHeartbeats 4000000 in
theorem whole10_walk (w : World) (f nc ns skip : Int) (va : Option Addr) (vc : Nat) (xs : List Int) (hxs : ListAt encU 1 w (.slice va xs.length vc) xs) (hbd : ∀ x ∈ xs, 0 ≤ x ∧ x ≤ 18446744073709551615) :
    Calls Try.prog 9 #[(.int .i64 (f)), (.agg ⟨([(.int .i64 (nc)), (.int .i64 (ns))] : List Value)⟩), (.slice va xs.length vc), (.int .i64 (skip))] w fun e w' => e = .returned (.bool true) ∧ Upd [] w w' := by
  have hwf := within_lim f 4 (by omega)
  have hw3 := within_lim nc 3 (by omega)
  have hw9 := within_lim ns 9 (by omega)
  have H := Sat.start0 w
  refine calls_fr Try.func9 rfl 182 rfl (Nat.le_of_ble_eq_true rfl) ?_
  refine w_seq ?_
  refine w_lit ?_
  refine wl_do (wants0 rfl) (fun K1 hK1 => ?_)
  refine d_box (vs := ([(.int .i64 (nc)), (.int .i64 (ns))] : List Value)) rfl H rfl rfl ?_
  intro b2 w3 (H4 : Sat w [restC w (fun _ => False), cellC b2 38 ([(.int .i64 (nc)), (.int .i64 (ns))] : List Value)] w3)
  refine hK1 _ _ ?_
  clear hK1 K1
  refine wl_pure (wants0 rfl) (d := 8) (v := (.bool false)) rfl (by kernel_rfl) ?_
  refine w_nil ?_
  refine then_normal ?_
  refine w_seq ?_
  refine w_lit ?_
  refine wl_pure (wants0 rfl) (d := 23) (v := (.int .i64 (f))) rfl (by kernel_rfl) ?_
  refine wl_do (wants0 rfl) (fun K5 hK5 => ?_)
  refine d_call (d := 24) rfl (by kernel_rfl) (within_any w3 f 4 (by omega)) ?_
  rintro _ w6 ⟨rfl, u8⟩
  have H7 := H4.keepU u8
  refine ⟨_, rfl, ?_⟩
  refine hK5 _ _ ?_
  clear hK5 K5
  refine wl_pure (wants0 rfl) (d := 25) (v := (.int .i64 (1 + (withinV f 4)))) rfl (e_int (z := 1 + (withinV f 4)) (by kernel_rfl) (IntWalk.i64_in _ (by omega))) ?_
  refine wl_pure (wants0 rfl) (d := 26) (v := (.agg ⟨([(.int .i64 (1 + (withinV f 4))), (.int .i64 (3))] : List Value)⟩)) rfl (by kernel_rfl) ?_
  refine wl_do (wants0 rfl) (fun K9 hK9 => ?_)
  refine d_alloc (zs := ([(.int .i64 (0)), (.int .i64 (0))] : List Value)) (z := (.agg ⟨([(.int .i64 (0)), (.int .i64 (0))] : List Value)⟩)) rfl H7 (by kernel_rfl) (by kernel_rfl) ?_
  intro b10 w11 (H12 : Sat w [restC w (fun _ => False), cellC b2 38 ([(.int .i64 (nc)), (.int .i64 (ns))] : List Value), cellC b10 36 ([(.int .i64 (0)), (.int .i64 (0))] : List Value)] w11)
  refine hK9 _ _ ?_
  clear hK9 K9
  refine wl_do (wants0 rfl) (fun K13 hK13 => ?_)
  refine d_storeX (vs := ([(.int .i64 (1 + (withinV f 4))), (.int .i64 (3))] : List Value)) (cs' := ([(.int .i64 (1 + (withinV f 4))), (.int .i64 (3))] : List Value)) rfl H12 2 rfl rfl rfl rfl (by kernel_rfl) (Nat.le_of_ble_eq_true (by kernel_rfl)) (Nat.le_of_ble_eq_true (by kernel_rfl)) (by kernel_rfl) (by kernel_rfl) ?_
  intro w14 (H15 : Sat w [restC w (fun _ => False), cellC b2 38 ([(.int .i64 (nc)), (.int .i64 (ns))] : List Value), cellC b10 36 ([(.int .i64 (1 + (withinV f 4))), (.int .i64 (3))] : List Value)] w14)
  refine hK13 _ _ ?_
  clear hK13 K13
  refine w_nil ?_
  refine then_normal ?_
  refine w_seq ?_
  obtain ⟨F, hF⟩ : ∃ F : Int, F = 1 + withinV f 4 := ⟨_, rfl⟩
  have hf : 1 ≤ F ∧ F ≤ 4 := by omega
  obtain ⟨N, hN⟩ : ∃ N : Nat, (N : Int) = 3 * F + 1 := ⟨(3 * F + 1).toNat, by omega⟩
  obtain ⟨Q, hQ⟩ : ∃ Q : Nat, (Q : Int) = 2 * F + 1 := ⟨(2 * F + 1).toNat, by omega⟩
  have H17 : Sat w [restC w (fun _ => False), cellC b2 38 ([(.int .i64 (nc)), (.int .i64 (ns))] : List Value), cellC b10 36 ([(.int .i64 (F)), (.int .i64 (3))] : List Value)] w14 := by rw [hF]; exact H15
  refine w_lit ?_
  refine wl_do (wants0 rfl) (fun K18 hK18 => ?_)
  refine d_call (d := 28) rfl (by kernel_rfl) (new10_any w14) ?_
  rintro _ w19 ⟨b20, m21, r22, rfl, k23, p24, q25⟩
  have H26 : Sat w [restC w (fun _ => False), cellC b2 38 ([(.int .i64 (nc)), (.int .i64 (ns))] : List Value), cellC b10 36 ([(.int .i64 (F)), (.int .i64 (3))] : List Value), sepC [cellC b20 107 [.map (some m21)], mapC m21 signedV (Value.int .i64) (marks []), cellC r22 88 [.slice none 0 0]]] w19 := H17.addU p24 k23 q25
  have H27 : Sat w [restC w (fun _ => False), cellC b2 38 ([(.int .i64 (nc)), (.int .i64 (ns))] : List Value), cellC b10 36 ([(.int .i64 (F)), (.int .i64 (3))] : List Value), cellC b20 107 ([(.map (some m21))] : List Value), mapC m21 signedV (Value.int .i64) (marks []), cellC r22 88 ([(.slice none (([] : List Signed).length) 0)] : List Value)] w19 := H26.open 3 rfl
  have H28 : Sat w [restC w (fun _ => False), cellC b2 38 ([(.int .i64 (nc)), (.int .i64 (ns))] : List Value), cellC b10 36 ([(.int .i64 (F)), (.int .i64 (3))] : List Value), cellC b20 107 ([(.map (some m21))] : List Value), mapC m21 signedV (Value.int .i64) (marks []), cellC r22 88 ([(.slice none (([] : List Signed).length) 0)] : List Value), rowC 120 2 (.slice none (([] : List Signed).length) 0) (([] : List Signed).length) (([] : List Signed).flatMap encS)] w19 := H27.addNil 120 2
  refine ⟨_, rfl, ?_⟩
  refine hK18 _ _ ?_
  clear hK18 K18
  refine wl_pure (wants0 rfl) (d := 27) (v := (.tuple #[(.agg ⟨([(.pointer (some ⟨b20, 0, none⟩)), (.pointer (some ⟨r22, 0, none⟩))] : List Value)⟩), (.bool true)])) rfl (by kernel_rfl) ?_
  refine wl_pure (wants0 rfl) (d := 29) (v := (.agg ⟨([(.pointer (some ⟨b20, 0, none⟩)), (.pointer (some ⟨r22, 0, none⟩))] : List Value)⟩)) rfl (by kernel_rfl) ?_
  refine wl_pure (wants0 rfl) (d := 30) (v := (.bool true)) rfl (by kernel_rfl) ?_
  refine wl_do (wants0 rfl) (fun K29 hK29 => ?_)
  refine d_alloc (zs := ([(.pointer none), (.pointer none)] : List Value)) (z := (.agg ⟨([(.pointer none), (.pointer none)] : List Value)⟩)) rfl H28 (by kernel_rfl) (by kernel_rfl) ?_
  intro b30 w31 (H32 : Sat w [restC w (fun _ => False), cellC b2 38 ([(.int .i64 (nc)), (.int .i64 (ns))] : List Value), cellC b10 36 ([(.int .i64 (F)), (.int .i64 (3))] : List Value), cellC b20 107 ([(.map (some m21))] : List Value), mapC m21 signedV (Value.int .i64) (marks []), cellC r22 88 ([(.slice none (([] : List Signed).length) 0)] : List Value), rowC 120 2 (.slice none (([] : List Signed).length) 0) (([] : List Signed).length) (([] : List Signed).flatMap encS), cellC b30 54 ([(.pointer none), (.pointer none)] : List Value)] w31)
  refine hK29 _ _ ?_
  clear hK29 K29
  refine wl_do (wants0 rfl) (fun K33 hK33 => ?_)
  refine d_storeX (vs := ([(.pointer (some ⟨b20, 0, none⟩)), (.pointer (some ⟨r22, 0, none⟩))] : List Value)) (cs' := ([(.pointer (some ⟨b20, 0, none⟩)), (.pointer (some ⟨r22, 0, none⟩))] : List Value)) rfl H32 7 rfl rfl rfl rfl (by kernel_rfl) (Nat.le_of_ble_eq_true (by kernel_rfl)) (Nat.le_of_ble_eq_true (by kernel_rfl)) (by kernel_rfl) (by kernel_rfl) ?_
  intro w34 (H35 : Sat w [restC w (fun _ => False), cellC b2 38 ([(.int .i64 (nc)), (.int .i64 (ns))] : List Value), cellC b10 36 ([(.int .i64 (F)), (.int .i64 (3))] : List Value), cellC b20 107 ([(.map (some m21))] : List Value), mapC m21 signedV (Value.int .i64) (marks []), cellC r22 88 ([(.slice none (([] : List Signed).length) 0)] : List Value), rowC 120 2 (.slice none (([] : List Signed).length) 0) (([] : List Signed).length) (([] : List Signed).flatMap encS), cellC b30 54 ([(.pointer (some ⟨b20, 0, none⟩)), (.pointer (some ⟨r22, 0, none⟩))] : List Value)] w34)
  refine hK33 _ _ ?_
  clear hK33 K33
  refine wl_pure (wants0 rfl) (d := 11) (v := (.bool true)) rfl (by kernel_rfl) ?_
  refine w_nil ?_
  refine then_normal ?_
  refine w_seq ?_
  refine w_seq ?_
  have hnil : ([] : List Signed).length = 0 := rfl
  refine w_lit ?_
  refine wl_pure (wants0 rfl) (d := 31) (v := (.bool true)) rfl (by kernel_rfl) ?_
  refine wl_pure (wants0 rfl) (d := 32) (v := (.bool false)) rfl (by kernel_rfl) ?_
  refine w_nil ?_
  refine then_normal ?_
  refine wp_iff rfl ?_
  refine w_skip ?_
  refine then_normal ?_
  refine w_seq ?_
  refine k_start H35 [restC w (fun _ => False), cellC b2 38 ([(.int .i64 (nc)), (.int .i64 (ns))] : List Value), cellC b10 36 ([(.int .i64 (F)), (.int .i64 (3))] : List Value), cellC b20 107 ([(.map (some m21))] : List Value), mapC m21 signedV (Value.int .i64) (marks []), cellC r22 88 ([(.slice none (([] : List Signed).length) 0)] : List Value), rowC 120 2 (.slice none (([] : List Signed).length) 0) (([] : List Signed).length) (([] : List Signed).flatMap encS), cellC b30 54 ([(.pointer (some ⟨b20, 0, none⟩)), (.pointer (some ⟨r22, 0, none⟩))] : List Value)] [8] 9 rfl (by kernel_rfl) (fun Hx => (Hx.pick [0, 1, 2, 3, 4, 5, 6, 7] (by decide))) ?_
  intro w37 H38 S39
  refine k_pure 0 rfl (by kernel_rfl) (by kernel_rfl) (by kernel_rfl) (fun _ _ _ h => h) S39 (wants0 rfl) rfl (d := 33) (v := (.pointer (some ⟨b2, 0, none⟩))) rfl (fun _ => (by kernel_rfl)) ?_
  refine k_val 1 rfl (by kernel_rfl) (by kernel_rfl) (by kernel_rfl) (fun _ _ _ h => h) S39 (wants0 rfl) rfl (by kernel_rfl) (d := 34) (v := (.int .i64 (nc))) rfl (fun _ H' => (e_load1 rfl (by kernel_rfl) (H'.cell 1 rfl rfl))) ?_
  refine k_pure 3 rfl (by kernel_rfl) (by kernel_rfl) (by kernel_rfl) (fun _ _ _ h => h) S39 (wants0 rfl) rfl (d := 36) (v := (.pointer (some ⟨b2, 1, none⟩))) rfl (fun _ => (by kernel_rfl)) ?_
  refine k_val 4 rfl (by kernel_rfl) (by kernel_rfl) (by kernel_rfl) (fun _ _ _ h => h) S39 (wants0 rfl) rfl (by kernel_rfl) (d := 37) (v := (.int .i64 (ns))) rfl (fun _ H' => (e_load1 rfl (by kernel_rfl) (H'.cell 1 rfl rfl))) ?_
  refine k_do 2 rfl (by kernel_rfl) (wants0 rfl) rfl (fun K40 hK40 => ?_)
  refine d_call (d := 35) rfl (by kernel_rfl) (within_any w37 nc 3 (by omega)) ?_
  rintro _ w41 ⟨rfl, u43⟩
  have H42 := H38.keepU u43
  refine ⟨_, rfl, ?_⟩
  have S44 := H42.pick [0, 1, 2, 3, 4, 5, 6, 7] (by decide)
  refine hK40 _ _ S44 ?_
  clear hK40 K40
  refine k_do 5 rfl (by kernel_rfl) (wants0 rfl) rfl (fun K45 hK45 => ?_)
  refine d_call (d := 38) rfl (by kernel_rfl) (within_any w41 ns 9 (by omega)) ?_
  rintro _ w46 ⟨rfl, u48⟩
  have H47 := H42.keepU u48
  refine ⟨_, rfl, ?_⟩
  have S49 := H47.pick [0, 1, 2, 3, 4, 5, 6, 7] (by decide)
  refine hK45 _ _ S49 ?_
  clear hK45 K45
  refine k_pure 6 rfl (by kernel_rfl) (by kernel_rfl) (by kernel_rfl) (fun _ _ _ h => h) S49 (wants0 rfl) rfl (d := 39) (v := (.int .i64 (1 + (withinV ns 9)))) rfl (fun _ => (e_int (z := 1 + (withinV ns 9)) (by kernel_rfl) (IntWalk.i64_in _ (by omega)))) ?_
  refine k_pure 7 rfl (by kernel_rfl) (by kernel_rfl) (by kernel_rfl) (fun _ _ _ h => h) S49 (wants0 rfl) rfl (d := 40) (v := (.agg ⟨([(.int .i64 (withinV nc 3)), (.int .i64 (1 + (withinV ns 9)))] : List Value)⟩)) rfl (fun _ => (by kernel_rfl)) ?_
  refine k_brk 8 (Sat w [restC w (fun _ => False), cellC b10 36 ([(.int .i64 (F)), (.int .i64 (3))] : List Value), cellC b20 107 ([(.map (some m21))] : List Value), mapC m21 signedV (Value.int .i64) (marks []), cellC r22 88 ([(.slice none (([] : List Signed).length) 0)] : List Value), rowC 120 2 (.slice none (([] : List Signed).length) 0) (([] : List Signed).length) (([] : List Signed).flatMap encS), cellC b30 54 ([(.pointer (some ⟨b20, 0, none⟩)), (.pointer (some ⟨r22, 0, none⟩))] : List Value)]) rfl (by kernel_rfl) (wants0 rfl) rfl (fun K50 hK50 => ?_)
  refine d_storeX (vs := ([(.int .i64 (withinV nc 3)), (.int .i64 (1 + (withinV ns 9)))] : List Value)) (cs' := ([(.int .i64 (withinV nc 3)), (.int .i64 (1 + (withinV ns 9)))] : List Value)) rfl H47 1 rfl rfl rfl rfl (by kernel_rfl) (Nat.le_of_ble_eq_true (by kernel_rfl)) (Nat.le_of_ble_eq_true (by kernel_rfl)) (by kernel_rfl) (by kernel_rfl) ?_
  intro w51 (H52 : Sat w [restC w (fun _ => False), cellC b2 38 ([(.int .i64 (withinV nc 3)), (.int .i64 (1 + (withinV ns 9)))] : List Value), cellC b10 36 ([(.int .i64 (F)), (.int .i64 (3))] : List Value), cellC b20 107 ([(.map (some m21))] : List Value), mapC m21 signedV (Value.int .i64) (marks []), cellC r22 88 ([(.slice none (([] : List Signed).length) 0)] : List Value), rowC 120 2 (.slice none (([] : List Signed).length) 0) (([] : List Signed).length) (([] : List Signed).flatMap encS), cellC b30 54 ([(.pointer (some ⟨b20, 0, none⟩)), (.pointer (some ⟨r22, 0, none⟩))] : List Value)] w51)
  have S54 := H52.pick [0, 2, 3, 4, 5, 6, 7] (by decide)
  refine hK50 _ _ S54 ?_
  clear hK50 K50
  refine h_fin (by kernel_rfl) ?_
  refine then_normal ?_
  refine w_seq ?_
  refine w_lit ?_
  refine wl_pure (wants0 rfl) (d := 41) (v := (.agg ⟨([(.pointer (some ⟨b20, 0, none⟩)), (.pointer (some ⟨r22, 0, none⟩))] : List Value)⟩)) rfl (e_loadN (vs := ([(.pointer (some ⟨b20, 0, none⟩)), (.pointer (some ⟨r22, 0, none⟩))] : List Value)) rfl (by kernel_rfl) (by kernel_rfl) (by exact Nat.le_of_ble_eq_true (by kernel_rfl)) (H52.at 7 rfl) (by kernel_rfl)) ?_
  refine wl_pure (wants0 rfl) (d := 42) (v := (.agg ⟨([(.int .i64 (withinV nc 3)), (.int .i64 (1 + (withinV ns 9)))] : List Value)⟩)) rfl (e_loadN (vs := ([(.int .i64 (withinV nc 3)), (.int .i64 (1 + (withinV ns 9)))] : List Value)) rfl (by kernel_rfl) (by kernel_rfl) (by exact Nat.le_of_ble_eq_true (by kernel_rfl)) (H52.at 1 rfl) (by kernel_rfl)) ?_
  refine wl_do (wants0 rfl) (fun K55 hK55 => ?_)
  refine d_buildSlice (e := 5) (size := 1) (bytes := 1) (z := (.int .u8 (0))) (pvs := [(0, (.int .u8 (1)))]) (vs := ([(.int .u8 (1))] : List Value)) rfl H52 (by kernel_rfl) (by kernel_rfl) (by kernel_rfl) (by kernel_rfl) (by kernel_rfl) rfl rfl ?_
  intro b56 w57 (H58 : Sat w [restC w (fun _ => False), cellC b2 38 ([(.int .i64 (withinV nc 3)), (.int .i64 (1 + (withinV ns 9)))] : List Value), cellC b10 36 ([(.int .i64 (F)), (.int .i64 (3))] : List Value), cellC b20 107 ([(.map (some m21))] : List Value), mapC m21 signedV (Value.int .i64) (marks []), cellC r22 88 ([(.slice none (([] : List Signed).length) 0)] : List Value), rowC 120 2 (.slice none (([] : List Signed).length) 0) (([] : List Signed).length) (([] : List Signed).flatMap encS), cellC b30 54 ([(.pointer (some ⟨b20, 0, none⟩)), (.pointer (some ⟨r22, 0, none⟩))] : List Value), rowC 5 1 (.slice (some ⟨b56, 0, none⟩) 1 1) 1 ([(.int .u8 (1))] : List Value)] w57)
  have H59 : Sat w [restC w (fun _ => False), cellC b2 38 ([(.int .i64 (withinV nc 3)), (.int .i64 (1 + (withinV ns 9)))] : List Value), cellC b10 36 ([(.int .i64 (F)), (.int .i64 (3))] : List Value), cellC b20 107 ([(.map (some m21))] : List Value), mapC m21 signedV (Value.int .i64) (marks []), cellC r22 88 ([(.slice none (([] : List Signed).length) 0)] : List Value), rowC 120 2 (.slice none (([] : List Signed).length) 0) (([] : List Signed).length) (([] : List Signed).flatMap encS), cellC b30 54 ([(.pointer (some ⟨b20, 0, none⟩)), (.pointer (some ⟨r22, 0, none⟩))] : List Value), rowC 5 1 (.slice (some ⟨b56, 0, none⟩) 1 1) 1 (([1] : List UInt8).flatMap encB)] w57 := H58.cast (by rw [(show ([.int .u8 1] : List Value) = ([1] : List UInt8).flatMap encB by kernel_rfl)])
  refine hK55 _ _ ?_
  clear hK55 K55
  refine wl_do (wants0 rfl) (fun K60 hK60 => ?_)
  refine d_call (d := 44) rfl (by kernel_rfl) (bkCommit_any w57 b20 m21 r22 none 0 ([] : List Signed) (H59.fin [3, 4, 5, 6] (by decide) rfl) (withinV nc 3) (1 + (withinV ns 9)) (some ⟨b56, 0, none⟩) 1 ([1] : List UInt8) (ListAt.row (enc := encB) (sz := 1) encB_len (by decide) (H59.at 8 rfl)) (off_row (e := 5) (k := 1) (xs := (([1] : List UInt8).flatMap encB)) (n := 1) (c := 1) (fun b_ hb_ => H59.offP [3, 4, 5, 6] 8 rfl rfl (by decide) hb_)) (by decide) (by omega) (by omega) (by omega) List.nodup_nil) ?_
  rintro _ w61 ⟨a63, c64, rfl, T62⟩
  obtain ⟨L66, hL66⟩ : ∃ L66 : List Signed, L66 = signL ([] : List Signed) (yC (withinV nc 3) (1 + (withinV ns 9)) hash0 ([1] : List UInt8)) := ⟨_, rfl⟩
  rw [← hL66] at T62
  have H67 : Sat w [restC w (fun _ => False), cellC b2 38 ([(.int .i64 (withinV nc 3)), (.int .i64 (1 + (withinV ns 9)))] : List Value), cellC b10 36 ([(.int .i64 (F)), (.int .i64 (3))] : List Value), cellC b20 107 ([(.map (some m21))] : List Value), mapC m21 signedV (Value.int .i64) (marks L66), cellC r22 88 ([(.slice a63 L66.length c64)] : List Value), rowC 120 2 (.slice a63 L66.length c64) L66.length (L66.flatMap encS), cellC b30 54 ([(.pointer (some ⟨b20, 0, none⟩)), (.pointer (some ⟨r22, 0, none⟩))] : List Value), rowC 5 1 (.slice (some ⟨b56, 0, none⟩) 1 1) 1 (([1] : List UInt8).flatMap encB)] w61 := (Sat.turnL (L' := [cellC b20 107 ([(.map (some m21))] : List Value), mapC m21 signedV (Value.int .i64) (marks L66), cellC r22 88 ([(.slice a63 L66.length c64)] : List Value), rowC 120 2 (.slice a63 L66.length c64) L66.length (L66.flatMap encS)]) (R := [restC w (fun _ => False), cellC b2 38 ([(.int .i64 (withinV nc 3)), (.int .i64 (1 + (withinV ns 9)))] : List Value), cellC b10 36 ([(.int .i64 (F)), (.int .i64 (3))] : List Value), cellC b30 54 ([(.pointer (some ⟨b20, 0, none⟩)), (.pointer (some ⟨r22, 0, none⟩))] : List Value), rowC 5 1 (.slice (some ⟨b56, 0, none⟩) 1 1) 1 (([1] : List UInt8).flatMap encB)]) H59 [3, 4, 5, 6] [0, 1, 2, 7, 8] (by decide) (by kernel_rfl) rfl T62).pick [4, 5, 6, 0, 1, 2, 3, 7, 8] (by decide)
  refine ⟨_, rfl, ?_⟩
  obtain ⟨Y65, hY65⟩ : ∃ Y65 : CommitD, Y65 = mkC ([] : List Signed) (withinV nc 3) (1 + (withinV ns 9)) hash0 ([1] : List UInt8) := ⟨_, rfl⟩
  rw [← hY65]
  have hgY65 : GoodC L66 Y65 := by rw [hL66, hY65]; exact goodC_new _ _ _ _ _
  have ndL66 : L66.Nodup := by rw [hL66]; exact signL_nodup List.nodup_nil _
  have llL66 : L66.length ≤ ([] : List Signed).length + 1 := by rw [hL66]; exact signL_len _ _
  have clY65 : Y65.cl = withinV nc 3 := by rw [hY65]; rfl
  have sqY65 : Y65.seq = 1 + (withinV ns 9) := by rw [hY65]; rfl
  have lnY65 : Y65.len = ([1] : List UInt8).length := by rw [hY65]; rfl
  refine hK60 _ _ ?_
  clear hK60 K60
  refine wl_do (wants0 rfl) (fun K68 hK68 => ?_)
  refine d_alloc (zs := (([(.int .i64 (0)), (.int .i64 (0))] : List Value) ++ hc hash0 ++ ([(.int .i64 (0)), (.int .i64 (0)), (.int .i64 (0))] : List Value))) (z := (.agg ⟨(([(.int .i64 (0)), (.int .i64 (0))] : List Value) ++ hc hash0 ++ ([(.int .i64 (0)), (.int .i64 (0)), (.int .i64 (0))] : List Value))⟩)) rfl H67 (by kernel_rfl) (by kernel_rfl) ?_
  intro b69 w70 (H71 : Sat w [restC w (fun _ => False), cellC b2 38 ([(.int .i64 (withinV nc 3)), (.int .i64 (1 + (withinV ns 9)))] : List Value), cellC b10 36 ([(.int .i64 (F)), (.int .i64 (3))] : List Value), cellC b20 107 ([(.map (some m21))] : List Value), mapC m21 signedV (Value.int .i64) (marks L66), cellC r22 88 ([(.slice a63 L66.length c64)] : List Value), rowC 120 2 (.slice a63 L66.length c64) L66.length (L66.flatMap encS), cellC b30 54 ([(.pointer (some ⟨b20, 0, none⟩)), (.pointer (some ⟨r22, 0, none⟩))] : List Value), rowC 5 1 (.slice (some ⟨b56, 0, none⟩) 1 1) 1 (([1] : List UInt8).flatMap encB), cellC b69 44 (([(.int .i64 (0)), (.int .i64 (0))] : List Value) ++ hc hash0 ++ ([(.int .i64 (0)), (.int .i64 (0)), (.int .i64 (0))] : List Value))] w70)
  refine hK68 _ _ ?_
  clear hK68 K68
  refine wl_do (wants0 rfl) (fun K72 hK72 => ?_)
  refine d_storeX (vs := (([(.int .i64 (Y65.cl)), (.int .i64 (Y65.seq))] : List Value) ++ hc Y65.h ++ ([(.int .i64 (Y65.len)), (.int .i64 (Y65.sb)), (.int .i64 (Y65.sm))] : List Value))) (cs' := (([(.int .i64 (Y65.cl)), (.int .i64 (Y65.seq))] : List Value) ++ hc Y65.h ++ ([(.int .i64 (Y65.len)), (.int .i64 (Y65.sb)), (.int .i64 (Y65.sm))] : List Value))) rfl H71 9 rfl rfl rfl rfl (by kernel_rfl) (Nat.le_of_ble_eq_true (by kernel_rfl)) (Nat.le_of_ble_eq_true (by kernel_rfl)) (by kernel_rfl) (by kernel_rfl) ?_
  intro w73 (H74 : Sat w [restC w (fun _ => False), cellC b2 38 ([(.int .i64 (withinV nc 3)), (.int .i64 (1 + (withinV ns 9)))] : List Value), cellC b10 36 ([(.int .i64 (F)), (.int .i64 (3))] : List Value), cellC b20 107 ([(.map (some m21))] : List Value), mapC m21 signedV (Value.int .i64) (marks L66), cellC r22 88 ([(.slice a63 L66.length c64)] : List Value), rowC 120 2 (.slice a63 L66.length c64) L66.length (L66.flatMap encS), cellC b30 54 ([(.pointer (some ⟨b20, 0, none⟩)), (.pointer (some ⟨r22, 0, none⟩))] : List Value), rowC 5 1 (.slice (some ⟨b56, 0, none⟩) 1 1) 1 (([1] : List UInt8).flatMap encB), cellC b69 44 (([(.int .i64 (Y65.cl)), (.int .i64 (Y65.seq))] : List Value) ++ hc Y65.h ++ ([(.int .i64 (Y65.len)), (.int .i64 (Y65.sb)), (.int .i64 (Y65.sm))] : List Value))] w73)
  refine hK72 _ _ ?_
  clear hK72 K72
  refine w_nil ?_
  refine then_normal ?_
  refine w_seq ?_
  refine w_lit ?_
  refine wl_pure (wants0 rfl) (d := 45) (v := (.agg ⟨([(.pointer (some ⟨b20, 0, none⟩)), (.pointer (some ⟨r22, 0, none⟩))] : List Value)⟩)) rfl (e_loadN (vs := ([(.pointer (some ⟨b20, 0, none⟩)), (.pointer (some ⟨r22, 0, none⟩))] : List Value)) rfl (by kernel_rfl) (by kernel_rfl) (by exact Nat.le_of_ble_eq_true (by kernel_rfl)) (H74.at 7 rfl) (by kernel_rfl)) ?_
  refine wl_pure (wants0 rfl) (d := 46) (v := (.pointer (some ⟨b2, 0, none⟩))) rfl (by kernel_rfl) ?_
  refine wl_pure (wants0 rfl) (d := 47) (v := (.int .i64 (withinV nc 3))) rfl (e_load1 rfl (by kernel_rfl) (H74.cell 1 rfl rfl)) ?_
  refine wl_pure (wants0 rfl) (d := 48) (v := (.pointer (some ⟨b2, 1, none⟩))) rfl (by kernel_rfl) ?_
  refine wl_pure (wants0 rfl) (d := 49) (v := (.int .i64 (1 + (withinV ns 9)))) rfl (e_load1 rfl (by kernel_rfl) (H74.cell 1 rfl rfl)) ?_
  refine wl_pure (wants0 rfl) (d := 50) (v := (.int .i64 ((1 + (withinV ns 9)) + 20))) rfl (e_int (z := (1 + (withinV ns 9)) + 20) (by kernel_rfl) (IntWalk.i64_in _ (by omega))) ?_
  refine wl_pure (wants0 rfl) (d := 51) (v := (.agg ⟨([(.int .i64 (withinV nc 3)), (.int .i64 ((1 + (withinV ns 9)) + 20))] : List Value)⟩)) rfl (by kernel_rfl) ?_
  refine wl_do (wants0 rfl) (fun K76 hK76 => ?_)
  refine d_buildSlice (e := 5) (size := 1) (bytes := 1) (z := (.int .u8 (0))) (pvs := [(0, (.int .u8 (1)))]) (vs := ([(.int .u8 (1))] : List Value)) rfl H74 (by kernel_rfl) (by kernel_rfl) (by kernel_rfl) (by kernel_rfl) (by kernel_rfl) rfl rfl ?_
  intro b77 w78 (H79 : Sat w [restC w (fun _ => False), cellC b2 38 ([(.int .i64 (withinV nc 3)), (.int .i64 (1 + (withinV ns 9)))] : List Value), cellC b10 36 ([(.int .i64 (F)), (.int .i64 (3))] : List Value), cellC b20 107 ([(.map (some m21))] : List Value), mapC m21 signedV (Value.int .i64) (marks L66), cellC r22 88 ([(.slice a63 L66.length c64)] : List Value), rowC 120 2 (.slice a63 L66.length c64) L66.length (L66.flatMap encS), cellC b30 54 ([(.pointer (some ⟨b20, 0, none⟩)), (.pointer (some ⟨r22, 0, none⟩))] : List Value), rowC 5 1 (.slice (some ⟨b56, 0, none⟩) 1 1) 1 (([1] : List UInt8).flatMap encB), cellC b69 44 (([(.int .i64 (Y65.cl)), (.int .i64 (Y65.seq))] : List Value) ++ hc Y65.h ++ ([(.int .i64 (Y65.len)), (.int .i64 (Y65.sb)), (.int .i64 (Y65.sm))] : List Value)), rowC 5 1 (.slice (some ⟨b77, 0, none⟩) 1 1) 1 ([(.int .u8 (1))] : List Value)] w78)
  have H80 : Sat w [restC w (fun _ => False), cellC b2 38 ([(.int .i64 (withinV nc 3)), (.int .i64 (1 + (withinV ns 9)))] : List Value), cellC b10 36 ([(.int .i64 (F)), (.int .i64 (3))] : List Value), cellC b20 107 ([(.map (some m21))] : List Value), mapC m21 signedV (Value.int .i64) (marks L66), cellC r22 88 ([(.slice a63 L66.length c64)] : List Value), rowC 120 2 (.slice a63 L66.length c64) L66.length (L66.flatMap encS), cellC b30 54 ([(.pointer (some ⟨b20, 0, none⟩)), (.pointer (some ⟨r22, 0, none⟩))] : List Value), rowC 5 1 (.slice (some ⟨b56, 0, none⟩) 1 1) 1 (([1] : List UInt8).flatMap encB), cellC b69 44 (([(.int .i64 (Y65.cl)), (.int .i64 (Y65.seq))] : List Value) ++ hc Y65.h ++ ([(.int .i64 (Y65.len)), (.int .i64 (Y65.sb)), (.int .i64 (Y65.sm))] : List Value)), rowC 5 1 (.slice (some ⟨b77, 0, none⟩) 1 1) 1 (([1] : List UInt8).flatMap encB)] w78 := H79.cast (by rw [(show ([.int .u8 1] : List Value) = ([1] : List UInt8).flatMap encB by kernel_rfl)])
  refine hK76 _ _ ?_
  clear hK76 K76
  refine wl_do (wants0 rfl) (fun K81 hK81 => ?_)
  refine d_call (d := 53) rfl (by kernel_rfl) (bkCommit_any w78 b20 m21 r22 a63 c64 L66 (H80.fin [3, 4, 5, 6] (by decide) rfl) (withinV nc 3) ((1 + (withinV ns 9)) + 20) (some ⟨b77, 0, none⟩) 1 ([1] : List UInt8) (ListAt.row (enc := encB) (sz := 1) encB_len (by decide) (H80.at 10 rfl)) (off_row (e := 5) (k := 1) (xs := (([1] : List UInt8).flatMap encB)) (n := 1) (c := 1) (fun b_ hb_ => H80.offP [3, 4, 5, 6] 10 rfl rfl (by decide) hb_)) (by decide) (by omega) (by omega) (by omega) ndL66) ?_
  rintro _ w82 ⟨a84, c85, rfl, T83⟩
  obtain ⟨L87, hL87⟩ : ∃ L87 : List Signed, L87 = signL L66 (yC (withinV nc 3) ((1 + (withinV ns 9)) + 20) hash0 ([1] : List UInt8)) := ⟨_, rfl⟩
  rw [← hL87] at T83
  have H88 : Sat w [restC w (fun _ => False), cellC b2 38 ([(.int .i64 (withinV nc 3)), (.int .i64 (1 + (withinV ns 9)))] : List Value), cellC b10 36 ([(.int .i64 (F)), (.int .i64 (3))] : List Value), cellC b20 107 ([(.map (some m21))] : List Value), mapC m21 signedV (Value.int .i64) (marks L87), cellC r22 88 ([(.slice a84 L87.length c85)] : List Value), rowC 120 2 (.slice a84 L87.length c85) L87.length (L87.flatMap encS), cellC b30 54 ([(.pointer (some ⟨b20, 0, none⟩)), (.pointer (some ⟨r22, 0, none⟩))] : List Value), rowC 5 1 (.slice (some ⟨b56, 0, none⟩) 1 1) 1 (([1] : List UInt8).flatMap encB), cellC b69 44 (([(.int .i64 (Y65.cl)), (.int .i64 (Y65.seq))] : List Value) ++ hc Y65.h ++ ([(.int .i64 (Y65.len)), (.int .i64 (Y65.sb)), (.int .i64 (Y65.sm))] : List Value)), rowC 5 1 (.slice (some ⟨b77, 0, none⟩) 1 1) 1 (([1] : List UInt8).flatMap encB)] w82 := (Sat.turnL (L' := [cellC b20 107 ([(.map (some m21))] : List Value), mapC m21 signedV (Value.int .i64) (marks L87), cellC r22 88 ([(.slice a84 L87.length c85)] : List Value), rowC 120 2 (.slice a84 L87.length c85) L87.length (L87.flatMap encS)]) (R := [restC w (fun _ => False), cellC b2 38 ([(.int .i64 (withinV nc 3)), (.int .i64 (1 + (withinV ns 9)))] : List Value), cellC b10 36 ([(.int .i64 (F)), (.int .i64 (3))] : List Value), cellC b30 54 ([(.pointer (some ⟨b20, 0, none⟩)), (.pointer (some ⟨r22, 0, none⟩))] : List Value), rowC 5 1 (.slice (some ⟨b56, 0, none⟩) 1 1) 1 (([1] : List UInt8).flatMap encB), cellC b69 44 (([(.int .i64 (Y65.cl)), (.int .i64 (Y65.seq))] : List Value) ++ hc Y65.h ++ ([(.int .i64 (Y65.len)), (.int .i64 (Y65.sb)), (.int .i64 (Y65.sm))] : List Value)), rowC 5 1 (.slice (some ⟨b77, 0, none⟩) 1 1) 1 (([1] : List UInt8).flatMap encB)]) H80 [3, 4, 5, 6] [0, 1, 2, 7, 8, 9, 10] (by decide) (by kernel_rfl) rfl T83).pick [4, 5, 6, 0, 1, 2, 3, 7, 8, 9, 10] (by decide)
  refine ⟨_, rfl, ?_⟩
  obtain ⟨Y86, hY86⟩ : ∃ Y86 : CommitD, Y86 = mkC L66 (withinV nc 3) ((1 + (withinV ns 9)) + 20) hash0 ([1] : List UInt8) := ⟨_, rfl⟩
  rw [← hY86]
  have hgY86 : GoodC L87 Y86 := by rw [hL87, hY86]; exact goodC_new _ _ _ _ _
  have ndL87 : L87.Nodup := by rw [hL87]; exact signL_nodup ndL66 _
  have llL87 : L87.length ≤ L66.length + 1 := by rw [hL87]; exact signL_len _ _
  have clY86 : Y86.cl = withinV nc 3 := by rw [hY86]; rfl
  have sqY86 : Y86.seq = (1 + (withinV ns 9)) + 20 := by rw [hY86]; rfl
  have lnY86 : Y86.len = ([1] : List UInt8).length := by rw [hY86]; rfl
  refine hK81 _ _ ?_
  clear hK81 K81
  refine wl_do (wants0 rfl) (fun K89 hK89 => ?_)
  refine d_alloc (zs := (([(.int .i64 (0)), (.int .i64 (0))] : List Value) ++ hc hash0 ++ ([(.int .i64 (0)), (.int .i64 (0)), (.int .i64 (0))] : List Value))) (z := (.agg ⟨(([(.int .i64 (0)), (.int .i64 (0))] : List Value) ++ hc hash0 ++ ([(.int .i64 (0)), (.int .i64 (0)), (.int .i64 (0))] : List Value))⟩)) rfl H88 (by kernel_rfl) (by kernel_rfl) ?_
  intro b90 w91 (H92 : Sat w [restC w (fun _ => False), cellC b2 38 ([(.int .i64 (withinV nc 3)), (.int .i64 (1 + (withinV ns 9)))] : List Value), cellC b10 36 ([(.int .i64 (F)), (.int .i64 (3))] : List Value), cellC b20 107 ([(.map (some m21))] : List Value), mapC m21 signedV (Value.int .i64) (marks L87), cellC r22 88 ([(.slice a84 L87.length c85)] : List Value), rowC 120 2 (.slice a84 L87.length c85) L87.length (L87.flatMap encS), cellC b30 54 ([(.pointer (some ⟨b20, 0, none⟩)), (.pointer (some ⟨r22, 0, none⟩))] : List Value), rowC 5 1 (.slice (some ⟨b56, 0, none⟩) 1 1) 1 (([1] : List UInt8).flatMap encB), cellC b69 44 (([(.int .i64 (Y65.cl)), (.int .i64 (Y65.seq))] : List Value) ++ hc Y65.h ++ ([(.int .i64 (Y65.len)), (.int .i64 (Y65.sb)), (.int .i64 (Y65.sm))] : List Value)), rowC 5 1 (.slice (some ⟨b77, 0, none⟩) 1 1) 1 (([1] : List UInt8).flatMap encB), cellC b90 44 (([(.int .i64 (0)), (.int .i64 (0))] : List Value) ++ hc hash0 ++ ([(.int .i64 (0)), (.int .i64 (0)), (.int .i64 (0))] : List Value))] w91)
  refine hK89 _ _ ?_
  clear hK89 K89
  refine wl_do (wants0 rfl) (fun K93 hK93 => ?_)
  refine d_storeX (vs := (([(.int .i64 (Y86.cl)), (.int .i64 (Y86.seq))] : List Value) ++ hc Y86.h ++ ([(.int .i64 (Y86.len)), (.int .i64 (Y86.sb)), (.int .i64 (Y86.sm))] : List Value))) (cs' := (([(.int .i64 (Y86.cl)), (.int .i64 (Y86.seq))] : List Value) ++ hc Y86.h ++ ([(.int .i64 (Y86.len)), (.int .i64 (Y86.sb)), (.int .i64 (Y86.sm))] : List Value))) rfl H92 11 rfl rfl rfl rfl (by kernel_rfl) (Nat.le_of_ble_eq_true (by kernel_rfl)) (Nat.le_of_ble_eq_true (by kernel_rfl)) (by kernel_rfl) (by kernel_rfl) ?_
  intro w94 (H95 : Sat w [restC w (fun _ => False), cellC b2 38 ([(.int .i64 (withinV nc 3)), (.int .i64 (1 + (withinV ns 9)))] : List Value), cellC b10 36 ([(.int .i64 (F)), (.int .i64 (3))] : List Value), cellC b20 107 ([(.map (some m21))] : List Value), mapC m21 signedV (Value.int .i64) (marks L87), cellC r22 88 ([(.slice a84 L87.length c85)] : List Value), rowC 120 2 (.slice a84 L87.length c85) L87.length (L87.flatMap encS), cellC b30 54 ([(.pointer (some ⟨b20, 0, none⟩)), (.pointer (some ⟨r22, 0, none⟩))] : List Value), rowC 5 1 (.slice (some ⟨b56, 0, none⟩) 1 1) 1 (([1] : List UInt8).flatMap encB), cellC b69 44 (([(.int .i64 (Y65.cl)), (.int .i64 (Y65.seq))] : List Value) ++ hc Y65.h ++ ([(.int .i64 (Y65.len)), (.int .i64 (Y65.sb)), (.int .i64 (Y65.sm))] : List Value)), rowC 5 1 (.slice (some ⟨b77, 0, none⟩) 1 1) 1 (([1] : List UInt8).flatMap encB), cellC b90 44 (([(.int .i64 (Y86.cl)), (.int .i64 (Y86.seq))] : List Value) ++ hc Y86.h ++ ([(.int .i64 (Y86.len)), (.int .i64 (Y86.sb)), (.int .i64 (Y86.sm))] : List Value))] w94)
  refine hK93 _ _ ?_
  clear hK93 K93
  refine w_nil ?_
  refine then_normal ?_
  refine w_seq ?_
  refine w_lit ?_
  refine wl_pure (wants0 rfl) (d := 54) (v := (.pointer (some ⟨b10, 0, none⟩))) rfl (by kernel_rfl) ?_
  refine wl_pure (wants0 rfl) (d := 55) (v := (.int .i64 (F))) rfl (e_load1 rfl (by kernel_rfl) (H95.cell 2 rfl rfl)) ?_
  refine wl_pure (wants0 rfl) (d := 56) (v := (.int .i64 (3 * F))) rfl (e_int (z := 3 * F) (by kernel_rfl) (IntWalk.i64_in _ (by omega))) ?_
  refine wl_pure (wants0 rfl) (d := 57) (v := (.int .i64 ((3 * F) + 1))) rfl (e_int (z := (3 * F) + 1) (by kernel_rfl) (IntWalk.i64_in _ (by omega))) ?_
  refine wl_pure (wants0 rfl) (d := 14) (v := (.int .i64 ((3 * F) + 1))) rfl (by kernel_rfl) ?_
  refine w_nil ?_
  refine then_normal ?_
  refine w_seq ?_
  refine wp_know 14 (.int .i64 ((N : Int))) (show ((.int .i64 ((3 * F) + 1)) : Value) = _ by rw [hN]) ?_
  obtain ⟨K, hK⟩ : ∃ K : Nat, (K : Int) = withinV skip (N : Int) := ⟨(withinV skip (N : Int)).toNat, by have := within_lim skip (N : Int) (by omega); omega⟩
  have hKN : K < N := by have := within_lim skip (N : Int) (by omega); omega
  refine w_lit ?_
  refine wl_pure (wants0 rfl) (d := 58) (v := (.int .i64 (skip))) rfl (by kernel_rfl) ?_
  refine wl_pure (wants0 rfl) (d := 59) (v := (.int .i64 ((N : Int)))) rfl (by kernel_rfl) ?_
  refine wl_do (wants0 rfl) (fun K97 hK97 => ?_)
  refine d_call (d := 60) rfl (by kernel_rfl) (within_any w94 skip (N : Int) (by omega)) ?_
  rintro _ w98 ⟨rfl, u100⟩
  have H99 := H95.keepU u100
  refine ⟨_, rfl, ?_⟩
  refine hK97 _ _ ?_
  clear hK97 K97
  refine wl_pure (wants0 rfl) (d := 3) (v := (.int .i64 (withinV skip (N : Int)))) rfl (by kernel_rfl) ?_
  refine w_nil ?_
  refine then_normal ?_
  refine w_seq ?_
  refine wp_know 3 (.int .i64 ((K : Int))) (show ((.int .i64 (withinV skip (N : Int))) : Value) = _ by rw [hK]) ?_
  have hokY : CoOk Y65 := ⟨by omega, by omega, by simp only [List.length_cons, List.length_nil] at lnY65; omega⟩
  have hokZ : CoOk Y86 := ⟨by omega, by omega, by simp only [List.length_cons, List.length_nil] at lnY86; omega⟩
  have hgY : GoodC L87 Y65 := by rw [hL87]; exact goodC_keep hgY65 _
  refine w_lit ?_
  refine wl_pure (wants0 rfl) (d := 15) (v := (.slice none 0 0)) rfl (by kernel_rfl) ?_
  refine w_nil ?_
  refine then_normal ?_
  refine w_seq ?_
  refine w_seq ?_
  refine w_lit ?_
  refine wl_pure (wants0 rfl) (d := 16) (v := (.int .i64 (0))) rfl (by kernel_rfl) ?_
  refine w_nil ?_
  refine then_normal ?_
  refine w_block ?_
  have H101 := H99.addNil 49 38
  refine wp_round [15, 16, 17, 61, 62, 63, 64, 65, 66, 67, 68, 69, 70, 71, 72, 73, 74, 75, 76, 77, 78, 79, 80, 81, 82, 83, 84, 85, 86, 87, 88, 89, 90, 91, 92, 93, 94, 95, 96, 97, 98, 99, 100, 101, 102, 103, 104, 105] (fun F_ W_ m_ => ∃ (i : Nat) (a : Option Addr) (c : Nat) (D : List StampD) (ra : Option Addr) (rc : Nat) (L : List Signed), F_ 16 = (.int .i64 ((i : Int))) ∧ F_ 15 = (.slice a D.length c) ∧ (i ≤ N) ∧ (WInv Y65 N K L D i) ∧ (GoodC L Y65) ∧ (L.Nodup) ∧ (L.length ≤ 2 + 2 * i) ∧ (D.length ≤ 2 * i) ∧ Sat w [restC w (fun _ => False), cellC b2 38 ([(.int .i64 (withinV nc 3)), (.int .i64 (1 + (withinV ns 9)))] : List Value), cellC b10 36 ([(.int .i64 (F)), (.int .i64 (3))] : List Value), cellC b20 107 ([(.map (some m21))] : List Value), mapC m21 signedV (Value.int .i64) (marks L), cellC r22 88 ([(.slice ra L.length rc)] : List Value), rowC 120 2 (.slice ra L.length rc) L.length (L.flatMap encS), cellC b30 54 ([(.pointer (some ⟨b20, 0, none⟩)), (.pointer (some ⟨r22, 0, none⟩))] : List Value), rowC 5 1 (.slice (some ⟨b56, 0, none⟩) 1 1) 1 (([1] : List UInt8).flatMap encB), cellC b69 44 (([(.int .i64 (Y65.cl)), (.int .i64 (Y65.seq))] : List Value) ++ hc Y65.h ++ ([(.int .i64 (Y65.len)), (.int .i64 (Y65.sb)), (.int .i64 (Y65.sm))] : List Value)), rowC 5 1 (.slice (some ⟨b77, 0, none⟩) 1 1) 1 (([1] : List UInt8).flatMap encB), cellC b90 44 (([(.int .i64 (Y86.cl)), (.int .i64 (Y86.seq))] : List Value) ++ hc Y86.h ++ ([(.int .i64 (Y86.len)), (.int .i64 (Y86.sb)), (.int .i64 (Y86.sm))] : List Value)), rowC 49 38 (.slice a D.length c) D.length (D.flatMap encSt)] W_ ∧ m_ = N - i) _ ⟨0, none, 0, [], a84, c85, L87, (show ((.int .i64 (0)) : Value) = _ by first | rfl | go_num), (by first | rfl | go_num), (Nat.zero_le _), (WInv.start _ _ _ _), hgY, ndL87, (by omega), (by simp), H101, rfl⟩ ?_
  rintro g102 w103 _ ⟨i, a, c, D, ra, rc, L, v105, v106, hi, hI, hgc, hnd, hLl, hDl, H104, rfl⟩
  refine wp_know 16 _ v105 ?_
  refine wp_know 15 _ v106 ?_
  refine w_seq ?_
  refine w_seq ?_
  refine w_lit ?_
  refine wl_pure (wants0 rfl) (d := 61) (v := (.int .i64 ((i : Int)))) rfl (by kernel_rfl) ?_
  refine wl_pure (wants0 rfl) (d := 62) (v := (.int .i64 ((N : Int)))) rfl (by kernel_rfl) ?_
  refine wl_pure (wants0 rfl) (d := 63) (v := (.bool (decide ((i : Int) < (N : Int))))) rfl (by kernel_rfl) ?_
  refine w_nil ?_
  refine then_normal ?_
  refine (bsplit (decide ((i : Int) < (N : Int)))).elim (fun b108 => ?_) (fun b108 => ?_)
  · have g109 := of_decide_eq_true b108
    refine wp_know 63 (.bool true) (congrArg Value.bool b108) ?_
    have g110 := of_decide_eq_true b108
    refine wp_ift rfl ?_
    refine w_skip ?_
    refine then_normal ?_
    refine w_seq ?_
    refine w_block ?_
    refine w_seq ?_
    refine w_lit ?_
    refine wl_pure (wants0 rfl) (d := 17) (v := (.int .u64 (7))) rfl (by kernel_rfl) ?_
    refine w_nil ?_
    refine then_normal ?_
    refine w_seq ?_
    refine w_seq ?_
    refine w_lit ?_
    refine wl_pure (wants0 rfl) (d := 66) (v := (.int .i64 ((i : Int)))) rfl (by kernel_rfl) ?_
    refine wl_pure (wants0 rfl) (d := 67) (v := (.slice va xs.length vc)) rfl (by kernel_rfl) ?_
    refine wl_pure (wants0 rfl) (d := 68) (v := (.int .i64 ((xs.length : Int)))) rfl (by kernel_rfl) ?_
    refine wl_pure (wants0 rfl) (d := 69) (v := (.bool (decide ((i : Int) < (xs.length : Int))))) rfl (by kernel_rfl) ?_
    refine w_nil ?_
    refine then_normal ?_
    refine (bsplit (decide ((i : Int) < (xs.length : Int)))).elim (fun b111 => ?_) (fun b111 => ?_)
    · have g112 := of_decide_eq_true b111
      refine wp_know 69 (.bool true) (congrArg Value.bool b111) ?_
      have g113 := of_decide_eq_true b111
      refine wp_ift rfl ?_
      have hx0 : 0 ≤ xs.getD i 0 := (hbd _ (getD_memU (by omega))).1
      refine w_lit ?_
      refine wl_pure (wants0 rfl) (d := 70) (v := (.slice va xs.length vc)) rfl (by kernel_rfl) ?_
      refine wl_pure (wants0 rfl) (d := 71) (v := (.int .i64 ((i : Int)))) rfl (by kernel_rfl) ?_
      obtain ⟨g114, o115, c116, e117, R118⟩ := SliceOf.atD hxs 0 (show i < xs.length by omega)
      refine wl_pure (wants0 rfl) (d := 72) (v := (.pointer (some ⟨g114, o115 + ((i : Int)).toNat * 1, none⟩))) rfl (e_indexAddrW (E := 23) (by kernel_rfl) (by kernel_rfl) (Nat.le_of_ble_eq_true rfl) rfl e117 rfl (by omega) (by omega)) ?_
      refine wl_pure (wants0 rfl) (d := 73) (v := (.int .u64 ((xs.getD i 0)))) rfl (e_load1 rfl (by kernel_rfl) (H104.cellR 0 rfl (cells_at R118 0 (by kernel_rfl) (show o115 + ((i : Int)).toNat * 1 = o115 + i * 1 + 0 by omega)) (fun h => h))) ?_
      refine wl_pure (wants0 rfl) (d := 74) (v := (.int .u64 ((xs.getD i 0) % 900))) rfl (e_rem (by kernel_rfl) (by omega) (by omega)) ?_
      refine wl_pure (wants0 rfl) (d := 75) (v := (.int .u64 (1 + ((xs.getD i 0) % 900)))) rfl (e_int (z := 1 + ((xs.getD i 0) % 900)) (by kernel_rfl) (wrap_u64 (by omega))) ?_
      refine wl_pure (wants0 rfl) (d := 17) (v := (.int .u64 (1 + ((xs.getD i 0) % 900)))) rfl (by kernel_rfl) ?_
      refine w_nil ?_
      refine then_normal ?_
      refine w_seq ?_
      refine w_seq ?_
      have him : (i : Int) % (N : Int) = (i : Int) := Int.emod_eq_of_lt (by omega) (by omega)
      refine w_lit ?_
      refine wl_pure (wants0 rfl) (d := 76) (v := (.int .i64 ((i : Int)))) rfl (by kernel_rfl) ?_
      refine wl_pure (wants0 rfl) (d := 77) (v := (.int .i64 ((N : Int)))) rfl (by kernel_rfl) ?_
      refine wl_pure (wants0 rfl) (d := 78) (v := (.int .i64 ((i : Int) % (N : Int)))) rfl (e_rem (by kernel_rfl) (by omega) (by omega)) ?_
      refine wl_pure (wants0 rfl) (d := 79) (v := (.int .i64 ((K : Int)))) rfl (by kernel_rfl) ?_
      refine wl_pure (wants0 rfl) (d := 80) (v := (.bool (decide (((i : Int) % (N : Int)) = (K : Int))))) rfl (by kernel_rfl) ?_
      refine w_nil ?_
      refine then_normal ?_
      refine (bsplit (decide (((i : Int) % (N : Int)) = (K : Int)))).elim (fun b119 => ?_) (fun b119 => ?_)
      · have g120 := of_decide_eq_true b119
        refine wp_know 80 (.bool true) (congrArg Value.bool b119) ?_
        have g121 := of_decide_eq_true b119
        refine wp_ift rfl ?_
        refine w_seq ?_
        have hik : i = K := by omega
        have hj0 := Int.emod_nonneg ((i : Int) + 1) (show (N : Int) ≠ 0 by omega)
        have hj1 := Int.emod_lt_of_pos ((i : Int) + 1) (show (0 : Int) < (N : Int) by omega)
        have hjk : ((i : Int) + 1) % (N : Int) ≠ (i : Int) := by
          rcases Int.lt_or_le ((i : Int) + 1) (N : Int) with h | h
          · rw [Int.emod_eq_of_lt (by omega) h]; omega
          · rw [show ((i : Int) + 1) = (N : Int) by omega, Int.emod_self]; omega
        refine h_start H104 [restC w (fun _ => False), cellC b2 38 ([(.int .i64 (withinV nc 3)), (.int .i64 (1 + (withinV ns 9)))] : List Value), cellC b10 36 ([(.int .i64 (F)), (.int .i64 (3))] : List Value), cellC b30 54 ([(.pointer (some ⟨b20, 0, none⟩)), (.pointer (some ⟨r22, 0, none⟩))] : List Value), rowC 5 1 (.slice (some ⟨b56, 0, none⟩) 1 1) 1 (([1] : List UInt8).flatMap encB), cellC b69 44 (([(.int .i64 (Y65.cl)), (.int .i64 (Y65.seq))] : List Value) ++ hc Y65.h ++ ([(.int .i64 (Y65.len)), (.int .i64 (Y65.sb)), (.int .i64 (Y65.sm))] : List Value)), rowC 5 1 (.slice (some ⟨b77, 0, none⟩) 1 1) 1 (([1] : List UInt8).flatMap encB), cellC b90 44 (([(.int .i64 (Y86.cl)), (.int .i64 (Y86.seq))] : List Value) ++ hc Y86.h ++ ([(.int .i64 (Y86.len)), (.int .i64 (Y86.sb)), (.int .i64 (Y86.sm))] : List Value))] 18 rfl (by kernel_rfl) (fun Hx => (Hx.pick [0, 1, 2, 7, 8, 9, 10, 11] (by decide))) ?_
        intro w122 H123 S124
        refine h_val 0 rfl (by kernel_rfl) (by kernel_rfl) (by kernel_rfl) (fun _ _ _ h => h) S124 (wants0 rfl) (d := 81) (v := (.slice a D.length c)) rfl (fun _ H' => (by kernel_rfl)) ?_
        refine h_val 1 rfl (by kernel_rfl) (by kernel_rfl) (by kernel_rfl) (fun _ _ _ h => h) S124 (wants0 rfl) (d := 82) (v := (.agg ⟨([(.pointer (some ⟨b20, 0, none⟩)), (.pointer (some ⟨r22, 0, none⟩))] : List Value)⟩)) rfl (fun _ H' => (e_loadN (vs := ([(.pointer (some ⟨b20, 0, none⟩)), (.pointer (some ⟨r22, 0, none⟩))] : List Value)) rfl (by kernel_rfl) (by kernel_rfl) (by exact Nat.le_of_ble_eq_true (by kernel_rfl)) (H'.at 3 rfl) (by kernel_rfl))) ?_
        refine h_val 2 rfl (by kernel_rfl) (by kernel_rfl) (by kernel_rfl) (fun _ _ _ h => h) S124 (wants0 rfl) (d := 83) (v := (.int .i64 ((i : Int)))) rfl (fun _ H' => (by kernel_rfl)) ?_
        refine h_val 3 rfl (by kernel_rfl) (by kernel_rfl) (by kernel_rfl) (fun _ _ _ h => h) S124 (wants0 rfl) (d := 84) (v := (.agg ⟨(([(.int .i64 (Y86.cl)), (.int .i64 (Y86.seq))] : List Value) ++ hc Y86.h ++ ([(.int .i64 (Y86.len)), (.int .i64 (Y86.sb)), (.int .i64 (Y86.sm))] : List Value))⟩)) rfl (fun _ H' => (e_loadN (vs := (([(.int .i64 (Y86.cl)), (.int .i64 (Y86.seq))] : List Value) ++ hc Y86.h ++ ([(.int .i64 (Y86.len)), (.int .i64 (Y86.sb)), (.int .i64 (Y86.sm))] : List Value))) rfl (by kernel_rfl) (by kernel_rfl) (by exact Nat.le_of_ble_eq_true (by kernel_rfl)) (H'.at 7 rfl) (by kernel_rfl))) ?_
        refine h_val 4 rfl (by kernel_rfl) (by kernel_rfl) (by kernel_rfl) (fun _ _ _ h => h) S124 (wants0 rfl) (d := 85) (v := (.int .u64 (1 + ((xs.getD i 0) % 900)))) rfl (fun _ H' => (by kernel_rfl)) ?_
        refine h_val 6 rfl (by kernel_rfl) (by kernel_rfl) (by kernel_rfl) (fun _ _ _ h => h) S124 (wants0 rfl) (d := 87) (v := (.agg ⟨([(.pointer (some ⟨b20, 0, none⟩)), (.pointer (some ⟨r22, 0, none⟩))] : List Value)⟩)) rfl (fun _ H' => (e_loadN (vs := ([(.pointer (some ⟨b20, 0, none⟩)), (.pointer (some ⟨r22, 0, none⟩))] : List Value)) rfl (by kernel_rfl) (by kernel_rfl) (by exact Nat.le_of_ble_eq_true (by kernel_rfl)) (H'.at 3 rfl) (by kernel_rfl))) ?_
        refine h_val 7 rfl (by kernel_rfl) (by kernel_rfl) (by kernel_rfl) (fun _ _ _ h => h) S124 (wants0 rfl) (d := 88) (v := (.int .i64 ((i : Int)))) rfl (fun _ H' => (by kernel_rfl)) ?_
        refine h_val 8 rfl (by kernel_rfl) (by kernel_rfl) (by kernel_rfl) (fun _ _ _ h => h) S124 (wants0 rfl) (d := 89) (v := (.int .i64 ((i : Int) + 1))) rfl (fun _ H' => (e_int (z := (i : Int) + 1) (by kernel_rfl) (IntWalk.i64_in _ (by omega)))) ?_
        refine h_val 9 rfl (by kernel_rfl) (by kernel_rfl) (by kernel_rfl) (fun _ _ _ h => h) S124 (wants0 rfl) (d := 90) (v := (.int .i64 ((N : Int)))) rfl (fun _ H' => (by kernel_rfl)) ?_
        refine h_val 10 rfl (by kernel_rfl) (by kernel_rfl) (by kernel_rfl) (fun _ _ _ h => h) S124 (wants0 rfl) (d := 91) (v := (.int .i64 (((i : Int) + 1) % (N : Int)))) rfl (fun _ H' => (e_rem (by kernel_rfl) (by omega) (by omega))) ?_
        refine h_val 11 rfl (by kernel_rfl) (by kernel_rfl) (by kernel_rfl) (fun _ _ _ h => h) S124 (wants0 rfl) (d := 92) (v := (.agg ⟨(([(.int .i64 (Y65.cl)), (.int .i64 (Y65.seq))] : List Value) ++ hc Y65.h ++ ([(.int .i64 (Y65.len)), (.int .i64 (Y65.sb)), (.int .i64 (Y65.sm))] : List Value))⟩)) rfl (fun _ H' => (e_loadN (vs := (([(.int .i64 (Y65.cl)), (.int .i64 (Y65.seq))] : List Value) ++ hc Y65.h ++ ([(.int .i64 (Y65.len)), (.int .i64 (Y65.sb)), (.int .i64 (Y65.sm))] : List Value))) rfl (by kernel_rfl) (by kernel_rfl) (by exact Nat.le_of_ble_eq_true (by kernel_rfl)) (H'.at 5 rfl) (by kernel_rfl))) ?_
        refine h_val 12 rfl (by kernel_rfl) (by kernel_rfl) (by kernel_rfl) (fun _ _ _ h => h) S124 (wants0 rfl) (d := 93) (v := (.int .u64 (1 + ((xs.getD i 0) % 900)))) rfl (fun _ H' => (by kernel_rfl)) ?_
        refine h_val 13 rfl (by kernel_rfl) (by kernel_rfl) (by kernel_rfl) (fun _ _ _ h => h) S124 (wants0 rfl) (d := 94) (v := (.int .u64 ((1 + ((xs.getD i 0) % 900)) + 1))) rfl (fun _ H' => (e_int (z := (1 + ((xs.getD i 0) % 900)) + 1) (by kernel_rfl) (wrap_u64 (by omega)))) ?_
        refine h_do 5 rfl (by kernel_rfl) (wants0 rfl) (fun K125 hK125 => ?_)
        refine d_call (d := 86) rfl (by kernel_rfl) (bkStamp_any w122 b20 m21 r22 ra rc L (H123.fin [3, 4, 5, 6] (by decide) rfl) (i : Int) Y86 (1 + ((xs.getD i 0) % 900)) (by omega) hokZ (by omega) (by omega) hnd) ?_
        rintro _ w126 ⟨a128, c129, rfl, T127⟩
        obtain ⟨L131, hL131⟩ : ∃ L131 : List Signed, L131 = signL L (yS (i : Int) Y86 (1 + ((xs.getD i 0) % 900))) := ⟨_, rfl⟩
        rw [← hL131] at T127
        have H132 : Sat w [restC w (fun _ => False), cellC b2 38 ([(.int .i64 (withinV nc 3)), (.int .i64 (1 + (withinV ns 9)))] : List Value), cellC b10 36 ([(.int .i64 (F)), (.int .i64 (3))] : List Value), cellC b20 107 ([(.map (some m21))] : List Value), mapC m21 signedV (Value.int .i64) (marks L131), cellC r22 88 ([(.slice a128 L131.length c129)] : List Value), rowC 120 2 (.slice a128 L131.length c129) L131.length (L131.flatMap encS), cellC b30 54 ([(.pointer (some ⟨b20, 0, none⟩)), (.pointer (some ⟨r22, 0, none⟩))] : List Value), rowC 5 1 (.slice (some ⟨b56, 0, none⟩) 1 1) 1 (([1] : List UInt8).flatMap encB), cellC b69 44 (([(.int .i64 (Y65.cl)), (.int .i64 (Y65.seq))] : List Value) ++ hc Y65.h ++ ([(.int .i64 (Y65.len)), (.int .i64 (Y65.sb)), (.int .i64 (Y65.sm))] : List Value)), rowC 5 1 (.slice (some ⟨b77, 0, none⟩) 1 1) 1 (([1] : List UInt8).flatMap encB), cellC b90 44 (([(.int .i64 (Y86.cl)), (.int .i64 (Y86.seq))] : List Value) ++ hc Y86.h ++ ([(.int .i64 (Y86.len)), (.int .i64 (Y86.sb)), (.int .i64 (Y86.sm))] : List Value)), rowC 49 38 (.slice a D.length c) D.length (D.flatMap encSt)] w126 := (Sat.turnL (L' := [cellC b20 107 ([(.map (some m21))] : List Value), mapC m21 signedV (Value.int .i64) (marks L131), cellC r22 88 ([(.slice a128 L131.length c129)] : List Value), rowC 120 2 (.slice a128 L131.length c129) L131.length (L131.flatMap encS)]) (R := [restC w (fun _ => False), cellC b2 38 ([(.int .i64 (withinV nc 3)), (.int .i64 (1 + (withinV ns 9)))] : List Value), cellC b10 36 ([(.int .i64 (F)), (.int .i64 (3))] : List Value), cellC b30 54 ([(.pointer (some ⟨b20, 0, none⟩)), (.pointer (some ⟨r22, 0, none⟩))] : List Value), rowC 5 1 (.slice (some ⟨b56, 0, none⟩) 1 1) 1 (([1] : List UInt8).flatMap encB), cellC b69 44 (([(.int .i64 (Y65.cl)), (.int .i64 (Y65.seq))] : List Value) ++ hc Y65.h ++ ([(.int .i64 (Y65.len)), (.int .i64 (Y65.sb)), (.int .i64 (Y65.sm))] : List Value)), rowC 5 1 (.slice (some ⟨b77, 0, none⟩) 1 1) 1 (([1] : List UInt8).flatMap encB), cellC b90 44 (([(.int .i64 (Y86.cl)), (.int .i64 (Y86.seq))] : List Value) ++ hc Y86.h ++ ([(.int .i64 (Y86.len)), (.int .i64 (Y86.sb)), (.int .i64 (Y86.sm))] : List Value)), rowC 49 38 (.slice a D.length c) D.length (D.flatMap encSt)]) H123 [3, 4, 5, 6] [0, 1, 2, 7, 8, 9, 10, 11, 12] (by decide) (by kernel_rfl) rfl T127).pick [4, 5, 6, 0, 1, 2, 3, 7, 8, 9, 10, 11, 12] (by decide)
        refine ⟨_, rfl, ?_⟩
        obtain ⟨S130, hS130⟩ : ∃ S130 : StampD, S130 = mkS L (i : Int) Y86 (1 + ((xs.getD i 0) % 900)) := ⟨_, rfl⟩
        rw [← hS130]
        have ndL131 : L131.Nodup := by rw [hL131]; exact signL_nodup hnd _
        have llL131 : L131.length ≤ L.length + 1 := by rw [hL131]; exact signL_len _ _
        have S133 := H132.pick [0, 1, 2, 7, 8, 9, 10, 11] (by decide)
        refine hK125 _ _ S133 ?_
        clear hK125 K125
        refine h_do 14 rfl (by kernel_rfl) (wants0 rfl) (fun K134 hK134 => ?_)
        refine d_call (d := 95) rfl (by kernel_rfl) (bkStamp_any w126 b20 m21 r22 a128 c129 L131 (H132.fin [3, 4, 5, 6] (by decide) rfl) (((i : Int) + 1) % (N : Int)) Y65 ((1 + ((xs.getD i 0) % 900)) + 1) (by omega) hokY (by omega) (by omega) ndL131) ?_
        rintro _ w135 ⟨a137, c138, rfl, T136⟩
        obtain ⟨L140, hL140⟩ : ∃ L140 : List Signed, L140 = signL L131 (yS (((i : Int) + 1) % (N : Int)) Y65 ((1 + ((xs.getD i 0) % 900)) + 1)) := ⟨_, rfl⟩
        rw [← hL140] at T136
        have H141 : Sat w [restC w (fun _ => False), cellC b2 38 ([(.int .i64 (withinV nc 3)), (.int .i64 (1 + (withinV ns 9)))] : List Value), cellC b10 36 ([(.int .i64 (F)), (.int .i64 (3))] : List Value), cellC b20 107 ([(.map (some m21))] : List Value), mapC m21 signedV (Value.int .i64) (marks L140), cellC r22 88 ([(.slice a137 L140.length c138)] : List Value), rowC 120 2 (.slice a137 L140.length c138) L140.length (L140.flatMap encS), cellC b30 54 ([(.pointer (some ⟨b20, 0, none⟩)), (.pointer (some ⟨r22, 0, none⟩))] : List Value), rowC 5 1 (.slice (some ⟨b56, 0, none⟩) 1 1) 1 (([1] : List UInt8).flatMap encB), cellC b69 44 (([(.int .i64 (Y65.cl)), (.int .i64 (Y65.seq))] : List Value) ++ hc Y65.h ++ ([(.int .i64 (Y65.len)), (.int .i64 (Y65.sb)), (.int .i64 (Y65.sm))] : List Value)), rowC 5 1 (.slice (some ⟨b77, 0, none⟩) 1 1) 1 (([1] : List UInt8).flatMap encB), cellC b90 44 (([(.int .i64 (Y86.cl)), (.int .i64 (Y86.seq))] : List Value) ++ hc Y86.h ++ ([(.int .i64 (Y86.len)), (.int .i64 (Y86.sb)), (.int .i64 (Y86.sm))] : List Value)), rowC 49 38 (.slice a D.length c) D.length (D.flatMap encSt)] w135 := (Sat.turnL (L' := [cellC b20 107 ([(.map (some m21))] : List Value), mapC m21 signedV (Value.int .i64) (marks L140), cellC r22 88 ([(.slice a137 L140.length c138)] : List Value), rowC 120 2 (.slice a137 L140.length c138) L140.length (L140.flatMap encS)]) (R := [restC w (fun _ => False), cellC b2 38 ([(.int .i64 (withinV nc 3)), (.int .i64 (1 + (withinV ns 9)))] : List Value), cellC b10 36 ([(.int .i64 (F)), (.int .i64 (3))] : List Value), cellC b30 54 ([(.pointer (some ⟨b20, 0, none⟩)), (.pointer (some ⟨r22, 0, none⟩))] : List Value), rowC 5 1 (.slice (some ⟨b56, 0, none⟩) 1 1) 1 (([1] : List UInt8).flatMap encB), cellC b69 44 (([(.int .i64 (Y65.cl)), (.int .i64 (Y65.seq))] : List Value) ++ hc Y65.h ++ ([(.int .i64 (Y65.len)), (.int .i64 (Y65.sb)), (.int .i64 (Y65.sm))] : List Value)), rowC 5 1 (.slice (some ⟨b77, 0, none⟩) 1 1) 1 (([1] : List UInt8).flatMap encB), cellC b90 44 (([(.int .i64 (Y86.cl)), (.int .i64 (Y86.seq))] : List Value) ++ hc Y86.h ++ ([(.int .i64 (Y86.len)), (.int .i64 (Y86.sb)), (.int .i64 (Y86.sm))] : List Value)), rowC 49 38 (.slice a D.length c) D.length (D.flatMap encSt)]) H132 [3, 4, 5, 6] [0, 1, 2, 7, 8, 9, 10, 11, 12] (by decide) (by kernel_rfl) rfl T136).pick [4, 5, 6, 0, 1, 2, 3, 7, 8, 9, 10, 11, 12] (by decide)
        refine ⟨_, rfl, ?_⟩
        obtain ⟨S139, hS139⟩ : ∃ S139 : StampD, S139 = mkS L131 (((i : Int) + 1) % (N : Int)) Y65 ((1 + ((xs.getD i 0) % 900)) + 1) := ⟨_, rfl⟩
        rw [← hS139]
        have ndL140 : L140.Nodup := by rw [hL140]; exact signL_nodup ndL131 _
        have llL140 : L140.length ≤ L131.length + 1 := by rw [hL140]; exact signL_len _ _
        have S142 := H141.pick [0, 1, 2, 7, 8, 9, 10, 11] (by decide)
        refine hK134 _ _ S142 ?_
        clear hK134 K134
        refine h_do 15 rfl (by kernel_rfl) (wants0 rfl) (fun K143 hK143 => ?_)
        refine d_buildSlice (e := 49) (size := 38) (bytes := 80) (z := (.agg ⟨(([(.int .i64 (0)), (.int .i64 (0)), (.int .i64 (0))] : List Value) ++ hc hash0 ++ ([(.int .u64 (0)), (.int .i64 (0)), (.int .i64 (0))] : List Value))⟩)) (pvs := [(0, (.agg ⟨(([(.int .i64 (S130.r)), (.int .i64 (S130.cl)), (.int .i64 (S130.seq))] : List Value) ++ hc S130.h ++ ([(.int .u64 (S130.t)), (.int .i64 (S130.sb)), (.int .i64 (S130.sm))] : List Value))⟩)), (1, (.agg ⟨(([(.int .i64 (S139.r)), (.int .i64 (S139.cl)), (.int .i64 (S139.seq))] : List Value) ++ hc S139.h ++ ([(.int .u64 (S139.t)), (.int .i64 (S139.sb)), (.int .i64 (S139.sm))] : List Value))⟩))]) (vs := (([(.int .i64 (S130.r)), (.int .i64 (S130.cl)), (.int .i64 (S130.seq))] : List Value) ++ hc S130.h ++ ([(.int .u64 (S130.t)), (.int .i64 (S130.sb)), (.int .i64 (S130.sm)), (.int .i64 (S139.r)), (.int .i64 (S139.cl)), (.int .i64 (S139.seq))] : List Value) ++ hc S139.h ++ ([(.int .u64 (S139.t)), (.int .i64 (S139.sb)), (.int .i64 (S139.sm))] : List Value))) rfl H141 (by kernel_rfl) (by kernel_rfl) (by kernel_rfl) (by kernel_rfl) (by kernel_rfl) rfl rfl ?_
        intro b144 w145 (H146 : Sat w [restC w (fun _ => False), cellC b2 38 ([(.int .i64 (withinV nc 3)), (.int .i64 (1 + (withinV ns 9)))] : List Value), cellC b10 36 ([(.int .i64 (F)), (.int .i64 (3))] : List Value), cellC b20 107 ([(.map (some m21))] : List Value), mapC m21 signedV (Value.int .i64) (marks L140), cellC r22 88 ([(.slice a137 L140.length c138)] : List Value), rowC 120 2 (.slice a137 L140.length c138) L140.length (L140.flatMap encS), cellC b30 54 ([(.pointer (some ⟨b20, 0, none⟩)), (.pointer (some ⟨r22, 0, none⟩))] : List Value), rowC 5 1 (.slice (some ⟨b56, 0, none⟩) 1 1) 1 (([1] : List UInt8).flatMap encB), cellC b69 44 (([(.int .i64 (Y65.cl)), (.int .i64 (Y65.seq))] : List Value) ++ hc Y65.h ++ ([(.int .i64 (Y65.len)), (.int .i64 (Y65.sb)), (.int .i64 (Y65.sm))] : List Value)), rowC 5 1 (.slice (some ⟨b77, 0, none⟩) 1 1) 1 (([1] : List UInt8).flatMap encB), cellC b90 44 (([(.int .i64 (Y86.cl)), (.int .i64 (Y86.seq))] : List Value) ++ hc Y86.h ++ ([(.int .i64 (Y86.len)), (.int .i64 (Y86.sb)), (.int .i64 (Y86.sm))] : List Value)), rowC 49 38 (.slice a D.length c) D.length (D.flatMap encSt), rowC 49 38 (.slice (some ⟨b144, 0, none⟩) 2 2) 2 (([(.int .i64 (S130.r)), (.int .i64 (S130.cl)), (.int .i64 (S130.seq))] : List Value) ++ hc S130.h ++ ([(.int .u64 (S130.t)), (.int .i64 (S130.sb)), (.int .i64 (S130.sm)), (.int .i64 (S139.r)), (.int .i64 (S139.cl)), (.int .i64 (S139.seq))] : List Value) ++ hc S139.h ++ ([(.int .u64 (S139.t)), (.int .i64 (S139.sb)), (.int .i64 (S139.sm))] : List Value))] w145)
        have H147 : Sat w [restC w (fun _ => False), cellC b2 38 ([(.int .i64 (withinV nc 3)), (.int .i64 (1 + (withinV ns 9)))] : List Value), cellC b10 36 ([(.int .i64 (F)), (.int .i64 (3))] : List Value), cellC b20 107 ([(.map (some m21))] : List Value), mapC m21 signedV (Value.int .i64) (marks L140), cellC r22 88 ([(.slice a137 L140.length c138)] : List Value), rowC 120 2 (.slice a137 L140.length c138) L140.length (L140.flatMap encS), cellC b30 54 ([(.pointer (some ⟨b20, 0, none⟩)), (.pointer (some ⟨r22, 0, none⟩))] : List Value), rowC 5 1 (.slice (some ⟨b56, 0, none⟩) 1 1) 1 (([1] : List UInt8).flatMap encB), cellC b69 44 (([(.int .i64 (Y65.cl)), (.int .i64 (Y65.seq))] : List Value) ++ hc Y65.h ++ ([(.int .i64 (Y65.len)), (.int .i64 (Y65.sb)), (.int .i64 (Y65.sm))] : List Value)), rowC 5 1 (.slice (some ⟨b77, 0, none⟩) 1 1) 1 (([1] : List UInt8).flatMap encB), cellC b90 44 (([(.int .i64 (Y86.cl)), (.int .i64 (Y86.seq))] : List Value) ++ hc Y86.h ++ ([(.int .i64 (Y86.len)), (.int .i64 (Y86.sb)), (.int .i64 (Y86.sm))] : List Value)), rowC 49 38 (.slice a D.length c) D.length (D.flatMap encSt), rowC 49 38 (.slice (some ⟨b144, 0, none⟩) 2 2) 2 ([S130, S139].flatMap encSt)] w145 := H146.cast (by rw [(show ((([(.int .i64 (S130.r)), (.int .i64 (S130.cl)), (.int .i64 (S130.seq))] : List Value) ++ hc S130.h ++ ([(.int .u64 (S130.t)), (.int .i64 (S130.sb)), (.int .i64 (S130.sm)), (.int .i64 (S139.r)), (.int .i64 (S139.cl)), (.int .i64 (S139.seq))] : List Value) ++ hc S139.h ++ ([(.int .u64 (S139.t)), (.int .i64 (S139.sb)), (.int .i64 (S139.sm))] : List Value)) : List Value) = [S130, S139].flatMap encSt by kernel_rfl)])
        have S148 := H147.pick [0, 1, 2, 7, 8, 9, 10, 11] (by decide)
        refine hK143 _ _ S148 ?_
        clear hK143 K143
        refine h_do 16 rfl (by kernel_rfl) (wants0 rfl) (fun K149 hK149 => ?_)
        refine d_append (T := 45) (e := 49) (size := 38) (bytes := 80) rfl H147 (by kernel_rfl) 12 13 rfl rfl rfl rfl (flat_one encSt encSt_one [S130, S139]) (by omega) (by omega) ?_
        intro v150 w151 (H152 : Sat w [restC w (fun _ => False), cellC b2 38 ([(.int .i64 (withinV nc 3)), (.int .i64 (1 + (withinV ns 9)))] : List Value), cellC b10 36 ([(.int .i64 (F)), (.int .i64 (3))] : List Value), cellC b20 107 ([(.map (some m21))] : List Value), mapC m21 signedV (Value.int .i64) (marks L140), cellC r22 88 ([(.slice a137 L140.length c138)] : List Value), rowC 120 2 (.slice a137 L140.length c138) L140.length (L140.flatMap encS), cellC b30 54 ([(.pointer (some ⟨b20, 0, none⟩)), (.pointer (some ⟨r22, 0, none⟩))] : List Value), rowC 5 1 (.slice (some ⟨b56, 0, none⟩) 1 1) 1 (([1] : List UInt8).flatMap encB), cellC b69 44 (([(.int .i64 (Y65.cl)), (.int .i64 (Y65.seq))] : List Value) ++ hc Y65.h ++ ([(.int .i64 (Y65.len)), (.int .i64 (Y65.sb)), (.int .i64 (Y65.sm))] : List Value)), rowC 5 1 (.slice (some ⟨b77, 0, none⟩) 1 1) 1 (([1] : List UInt8).flatMap encB), cellC b90 44 (([(.int .i64 (Y86.cl)), (.int .i64 (Y86.seq))] : List Value) ++ hc Y86.h ++ ([(.int .i64 (Y86.len)), (.int .i64 (Y86.sb)), (.int .i64 (Y86.sm))] : List Value)), rowC 49 38 v150 (D.length + 2) ((D.flatMap encSt) ++ ([S130, S139].flatMap encSt)), rowC 49 38 (.slice (some ⟨b144, 0, none⟩) 2 2) 2 ([S130, S139].flatMap encSt)] w151)
        have H155 : Sat w [restC w (fun _ => False), cellC b2 38 ([(.int .i64 (withinV nc 3)), (.int .i64 (1 + (withinV ns 9)))] : List Value), cellC b10 36 ([(.int .i64 (F)), (.int .i64 (3))] : List Value), cellC b20 107 ([(.map (some m21))] : List Value), mapC m21 signedV (Value.int .i64) (marks L140), cellC r22 88 ([(.slice a137 L140.length c138)] : List Value), rowC 120 2 (.slice a137 L140.length c138) L140.length (L140.flatMap encS), cellC b30 54 ([(.pointer (some ⟨b20, 0, none⟩)), (.pointer (some ⟨r22, 0, none⟩))] : List Value), rowC 5 1 (.slice (some ⟨b56, 0, none⟩) 1 1) 1 (([1] : List UInt8).flatMap encB), cellC b69 44 (([(.int .i64 (Y65.cl)), (.int .i64 (Y65.seq))] : List Value) ++ hc Y65.h ++ ([(.int .i64 (Y65.len)), (.int .i64 (Y65.sb)), (.int .i64 (Y65.sm))] : List Value)), rowC 5 1 (.slice (some ⟨b77, 0, none⟩) 1 1) 1 (([1] : List UInt8).flatMap encB), cellC b90 44 (([(.int .i64 (Y86.cl)), (.int .i64 (Y86.seq))] : List Value) ++ hc Y86.h ++ ([(.int .i64 (Y86.len)), (.int .i64 (Y86.sb)), (.int .i64 (Y86.sm))] : List Value)), rowC 49 38 v150 ((D ++ [S130, S139]).length) ((D ++ [S130, S139]).flatMap encSt), rowC 49 38 (.slice (some ⟨b144, 0, none⟩) 2 2) 2 ([S130, S139].flatMap encSt)] w151 := H152.cast (by simp only [List.length_append, List.flatMap_append] <;> rfl)
        obtain ⟨a153, c154, rfl⟩ := ownsRow_shape (H155.at 12 rfl)
        have S156 := H155.pick [0, 1, 2, 7, 8, 9, 10, 11] (by decide)
        refine hK149 _ _ S156 ?_
        clear hK149 K149
        refine h_val 17 rfl (by kernel_rfl) (by kernel_rfl) (by kernel_rfl) (fun _ _ _ h => h) S156 (wants0 rfl) (d := 15) (v := (.slice a153 ((D ++ [S130, S139]).length) c154)) rfl (fun _ H' => (by kernel_rfl)) ?_
        refine h_fin (by kernel_rfl) ?_
        refine then_normal ?_
        refine w_exit ?_
        refine then_exit ?_
        refine blk_hit ?_
        refine then_normal ?_
        refine w_lit ?_
        refine wl_pure (wants0 rfl) (d := 64) (v := (.int .i64 ((i : Int)))) rfl (by kernel_rfl) ?_
        refine wl_pure (wants0 rfl) (d := 65) (v := (.int .i64 ((i : Int) + 1))) rfl (e_int (z := (i : Int) + 1) (by kernel_rfl) (IntWalk.i64_in _ (by omega))) ?_
        refine wl_pure (wants0 rfl) (d := 16) (v := (.int .i64 ((i : Int) + 1))) rfl (by kernel_rfl) ?_
        refine w_nil ?_
        have hI2 : WInv Y65 N K L140 (D ++ [S130, S139]) (i + 1) := by
          rw [hS130, hS139, hL140, hL131]
          exact hI.two2 hik hKN ⟨hj0, hj1⟩ hjk (by omega) (by omega) (by omega) (by omega) (by omega)
        have hgc2 : GoodC L140 Y65 := by rw [hL140, hL131]; exact goodC_keep (goodC_keep hgc _) _
        have H157 : Sat w [restC w (fun _ => False), cellC b2 38 ([(.int .i64 (withinV nc 3)), (.int .i64 (1 + (withinV ns 9)))] : List Value), cellC b10 36 ([(.int .i64 (F)), (.int .i64 (3))] : List Value), cellC b20 107 ([(.map (some m21))] : List Value), mapC m21 signedV (Value.int .i64) (marks L140), cellC r22 88 ([(.slice a137 L140.length c138)] : List Value), rowC 120 2 (.slice a137 L140.length c138) L140.length (L140.flatMap encS), cellC b30 54 ([(.pointer (some ⟨b20, 0, none⟩)), (.pointer (some ⟨r22, 0, none⟩))] : List Value), rowC 5 1 (.slice (some ⟨b56, 0, none⟩) 1 1) 1 (([1] : List UInt8).flatMap encB), cellC b69 44 (([(.int .i64 (Y65.cl)), (.int .i64 (Y65.seq))] : List Value) ++ hc Y65.h ++ ([(.int .i64 (Y65.len)), (.int .i64 (Y65.sb)), (.int .i64 (Y65.sm))] : List Value)), rowC 5 1 (.slice (some ⟨b77, 0, none⟩) 1 1) 1 (([1] : List UInt8).flatMap encB), cellC b90 44 (([(.int .i64 (Y86.cl)), (.int .i64 (Y86.seq))] : List Value) ++ hc Y86.h ++ ([(.int .i64 (Y86.len)), (.int .i64 (Y86.sb)), (.int .i64 (Y86.sm))] : List Value)), rowC 49 38 (.slice a153 ((D ++ [S130, S139]).length) c154) ((D ++ [S130, S139]).length) ((D ++ [S130, S139]).flatMap encSt)] w151 := H155.pick [0, 1, 2, 3, 4, 5, 6, 7, 8, 9, 10, 11, 12] (by decide)
        refine round_back ?_ _ ⟨(i + 1), a153, c154, (D ++ [S130, S139]), a137, c138, L140, (show ((.int .i64 ((i : Int) + 1)) : Value) = _ by first | rfl | go_num), (show ((.slice a153 ((D ++ [S130, S139]).length) c154) : Value) = _ by first | rfl | go_num), (by omega), hI2, hgc2, ndL140, (by omega), (by simp only [List.length_append, List.length_cons, List.length_nil]; omega), H157, rfl⟩ (by omega)
        exact (same_upd rfl (same_upd rfl (same_upd rfl (same_upd rfl (same_upd rfl (same_upd rfl (same_upd rfl (same_upd rfl (same_upd rfl (same_upd rfl (same_upd rfl (same_upd rfl (same_upd rfl (same_upd rfl (same_upd rfl (same_upd rfl (same_upd rfl (same_upd rfl (same_upd rfl (same_upd rfl (same_upd rfl (same_upd rfl (same_upd rfl (same_upd rfl (same_upd rfl (same_upd rfl (same_upd rfl (same_upd rfl (same_upd rfl (same_upd rfl (same_upd rfl (same_upd rfl (same_upd rfl (same_upd rfl (same_upd rfl (same_upd rfl (same_upd rfl (same_upd rfl (same_upd rfl (same_upd rfl (same_upd rfl (same_upd rfl (same_upd rfl (same_upd rfl (same_upd rfl (same_upd rfl (same_ovr)))))))))))))))))))))))))))))))))))))))))))))))
      · have g158 := of_decide_eq_false b119
        refine wp_know 80 (.bool false) (congrArg Value.bool b119) ?_
        have g159 := of_decide_eq_false b119
        refine wp_iff rfl ?_
        refine w_skip ?_
        refine then_normal ?_
        have hik : i ≠ K := by omega
        refine w_lit ?_
        refine wl_pure (wants0 rfl) (d := 98) (v := (.slice a D.length c)) rfl (by kernel_rfl) ?_
        refine wl_pure (wants0 rfl) (d := 99) (v := (.agg ⟨([(.pointer (some ⟨b20, 0, none⟩)), (.pointer (some ⟨r22, 0, none⟩))] : List Value)⟩)) rfl (e_loadN (vs := ([(.pointer (some ⟨b20, 0, none⟩)), (.pointer (some ⟨r22, 0, none⟩))] : List Value)) rfl (by kernel_rfl) (by kernel_rfl) (by exact Nat.le_of_ble_eq_true (by kernel_rfl)) (H104.at 7 rfl) (by kernel_rfl)) ?_
        refine wl_pure (wants0 rfl) (d := 100) (v := (.int .i64 ((i : Int)))) rfl (by kernel_rfl) ?_
        refine wl_pure (wants0 rfl) (d := 101) (v := (.agg ⟨(([(.int .i64 (Y65.cl)), (.int .i64 (Y65.seq))] : List Value) ++ hc Y65.h ++ ([(.int .i64 (Y65.len)), (.int .i64 (Y65.sb)), (.int .i64 (Y65.sm))] : List Value))⟩)) rfl (e_loadN (vs := (([(.int .i64 (Y65.cl)), (.int .i64 (Y65.seq))] : List Value) ++ hc Y65.h ++ ([(.int .i64 (Y65.len)), (.int .i64 (Y65.sb)), (.int .i64 (Y65.sm))] : List Value))) rfl (by kernel_rfl) (by kernel_rfl) (by exact Nat.le_of_ble_eq_true (by kernel_rfl)) (H104.at 9 rfl) (by kernel_rfl)) ?_
        refine wl_pure (wants0 rfl) (d := 102) (v := (.int .u64 (1 + ((xs.getD i 0) % 900)))) rfl (by kernel_rfl) ?_
        refine wl_do (wants0 rfl) (fun K160 hK160 => ?_)
        refine d_call (d := 103) rfl (by kernel_rfl) (bkStamp_any w103 b20 m21 r22 ra rc L (H104.fin [3, 4, 5, 6] (by decide) rfl) (i : Int) Y65 (1 + ((xs.getD i 0) % 900)) (by omega) hokY (by omega) (by omega) hnd) ?_
        rintro _ w161 ⟨a163, c164, rfl, T162⟩
        obtain ⟨L166, hL166⟩ : ∃ L166 : List Signed, L166 = signL L (yS (i : Int) Y65 (1 + ((xs.getD i 0) % 900))) := ⟨_, rfl⟩
        rw [← hL166] at T162
        have H167 : Sat w [restC w (fun _ => False), cellC b2 38 ([(.int .i64 (withinV nc 3)), (.int .i64 (1 + (withinV ns 9)))] : List Value), cellC b10 36 ([(.int .i64 (F)), (.int .i64 (3))] : List Value), cellC b20 107 ([(.map (some m21))] : List Value), mapC m21 signedV (Value.int .i64) (marks L166), cellC r22 88 ([(.slice a163 L166.length c164)] : List Value), rowC 120 2 (.slice a163 L166.length c164) L166.length (L166.flatMap encS), cellC b30 54 ([(.pointer (some ⟨b20, 0, none⟩)), (.pointer (some ⟨r22, 0, none⟩))] : List Value), rowC 5 1 (.slice (some ⟨b56, 0, none⟩) 1 1) 1 (([1] : List UInt8).flatMap encB), cellC b69 44 (([(.int .i64 (Y65.cl)), (.int .i64 (Y65.seq))] : List Value) ++ hc Y65.h ++ ([(.int .i64 (Y65.len)), (.int .i64 (Y65.sb)), (.int .i64 (Y65.sm))] : List Value)), rowC 5 1 (.slice (some ⟨b77, 0, none⟩) 1 1) 1 (([1] : List UInt8).flatMap encB), cellC b90 44 (([(.int .i64 (Y86.cl)), (.int .i64 (Y86.seq))] : List Value) ++ hc Y86.h ++ ([(.int .i64 (Y86.len)), (.int .i64 (Y86.sb)), (.int .i64 (Y86.sm))] : List Value)), rowC 49 38 (.slice a D.length c) D.length (D.flatMap encSt)] w161 := (Sat.turnL (L' := [cellC b20 107 ([(.map (some m21))] : List Value), mapC m21 signedV (Value.int .i64) (marks L166), cellC r22 88 ([(.slice a163 L166.length c164)] : List Value), rowC 120 2 (.slice a163 L166.length c164) L166.length (L166.flatMap encS)]) (R := [restC w (fun _ => False), cellC b2 38 ([(.int .i64 (withinV nc 3)), (.int .i64 (1 + (withinV ns 9)))] : List Value), cellC b10 36 ([(.int .i64 (F)), (.int .i64 (3))] : List Value), cellC b30 54 ([(.pointer (some ⟨b20, 0, none⟩)), (.pointer (some ⟨r22, 0, none⟩))] : List Value), rowC 5 1 (.slice (some ⟨b56, 0, none⟩) 1 1) 1 (([1] : List UInt8).flatMap encB), cellC b69 44 (([(.int .i64 (Y65.cl)), (.int .i64 (Y65.seq))] : List Value) ++ hc Y65.h ++ ([(.int .i64 (Y65.len)), (.int .i64 (Y65.sb)), (.int .i64 (Y65.sm))] : List Value)), rowC 5 1 (.slice (some ⟨b77, 0, none⟩) 1 1) 1 (([1] : List UInt8).flatMap encB), cellC b90 44 (([(.int .i64 (Y86.cl)), (.int .i64 (Y86.seq))] : List Value) ++ hc Y86.h ++ ([(.int .i64 (Y86.len)), (.int .i64 (Y86.sb)), (.int .i64 (Y86.sm))] : List Value)), rowC 49 38 (.slice a D.length c) D.length (D.flatMap encSt)]) H104 [3, 4, 5, 6] [0, 1, 2, 7, 8, 9, 10, 11, 12] (by decide) (by kernel_rfl) rfl T162).pick [4, 5, 6, 0, 1, 2, 3, 7, 8, 9, 10, 11, 12] (by decide)
        refine ⟨_, rfl, ?_⟩
        obtain ⟨S165, hS165⟩ : ∃ S165 : StampD, S165 = mkS L (i : Int) Y65 (1 + ((xs.getD i 0) % 900)) := ⟨_, rfl⟩
        rw [← hS165]
        have ndL166 : L166.Nodup := by rw [hL166]; exact signL_nodup hnd _
        have llL166 : L166.length ≤ L.length + 1 := by rw [hL166]; exact signL_len _ _
        refine hK160 _ _ ?_
        clear hK160 K160
        refine wl_do (wants0 rfl) (fun K168 hK168 => ?_)
        refine d_buildSlice (e := 49) (size := 38) (bytes := 80) (z := (.agg ⟨(([(.int .i64 (0)), (.int .i64 (0)), (.int .i64 (0))] : List Value) ++ hc hash0 ++ ([(.int .u64 (0)), (.int .i64 (0)), (.int .i64 (0))] : List Value))⟩)) (pvs := [(0, (.agg ⟨(([(.int .i64 (S165.r)), (.int .i64 (S165.cl)), (.int .i64 (S165.seq))] : List Value) ++ hc S165.h ++ ([(.int .u64 (S165.t)), (.int .i64 (S165.sb)), (.int .i64 (S165.sm))] : List Value))⟩))]) (vs := (([(.int .i64 (S165.r)), (.int .i64 (S165.cl)), (.int .i64 (S165.seq))] : List Value) ++ hc S165.h ++ ([(.int .u64 (S165.t)), (.int .i64 (S165.sb)), (.int .i64 (S165.sm))] : List Value))) rfl H167 (by kernel_rfl) (by kernel_rfl) (by kernel_rfl) (by kernel_rfl) (by kernel_rfl) rfl rfl ?_
        intro b169 w170 (H171 : Sat w [restC w (fun _ => False), cellC b2 38 ([(.int .i64 (withinV nc 3)), (.int .i64 (1 + (withinV ns 9)))] : List Value), cellC b10 36 ([(.int .i64 (F)), (.int .i64 (3))] : List Value), cellC b20 107 ([(.map (some m21))] : List Value), mapC m21 signedV (Value.int .i64) (marks L166), cellC r22 88 ([(.slice a163 L166.length c164)] : List Value), rowC 120 2 (.slice a163 L166.length c164) L166.length (L166.flatMap encS), cellC b30 54 ([(.pointer (some ⟨b20, 0, none⟩)), (.pointer (some ⟨r22, 0, none⟩))] : List Value), rowC 5 1 (.slice (some ⟨b56, 0, none⟩) 1 1) 1 (([1] : List UInt8).flatMap encB), cellC b69 44 (([(.int .i64 (Y65.cl)), (.int .i64 (Y65.seq))] : List Value) ++ hc Y65.h ++ ([(.int .i64 (Y65.len)), (.int .i64 (Y65.sb)), (.int .i64 (Y65.sm))] : List Value)), rowC 5 1 (.slice (some ⟨b77, 0, none⟩) 1 1) 1 (([1] : List UInt8).flatMap encB), cellC b90 44 (([(.int .i64 (Y86.cl)), (.int .i64 (Y86.seq))] : List Value) ++ hc Y86.h ++ ([(.int .i64 (Y86.len)), (.int .i64 (Y86.sb)), (.int .i64 (Y86.sm))] : List Value)), rowC 49 38 (.slice a D.length c) D.length (D.flatMap encSt), rowC 49 38 (.slice (some ⟨b169, 0, none⟩) 1 1) 1 (([(.int .i64 (S165.r)), (.int .i64 (S165.cl)), (.int .i64 (S165.seq))] : List Value) ++ hc S165.h ++ ([(.int .u64 (S165.t)), (.int .i64 (S165.sb)), (.int .i64 (S165.sm))] : List Value))] w170)
        have H172 : Sat w [restC w (fun _ => False), cellC b2 38 ([(.int .i64 (withinV nc 3)), (.int .i64 (1 + (withinV ns 9)))] : List Value), cellC b10 36 ([(.int .i64 (F)), (.int .i64 (3))] : List Value), cellC b20 107 ([(.map (some m21))] : List Value), mapC m21 signedV (Value.int .i64) (marks L166), cellC r22 88 ([(.slice a163 L166.length c164)] : List Value), rowC 120 2 (.slice a163 L166.length c164) L166.length (L166.flatMap encS), cellC b30 54 ([(.pointer (some ⟨b20, 0, none⟩)), (.pointer (some ⟨r22, 0, none⟩))] : List Value), rowC 5 1 (.slice (some ⟨b56, 0, none⟩) 1 1) 1 (([1] : List UInt8).flatMap encB), cellC b69 44 (([(.int .i64 (Y65.cl)), (.int .i64 (Y65.seq))] : List Value) ++ hc Y65.h ++ ([(.int .i64 (Y65.len)), (.int .i64 (Y65.sb)), (.int .i64 (Y65.sm))] : List Value)), rowC 5 1 (.slice (some ⟨b77, 0, none⟩) 1 1) 1 (([1] : List UInt8).flatMap encB), cellC b90 44 (([(.int .i64 (Y86.cl)), (.int .i64 (Y86.seq))] : List Value) ++ hc Y86.h ++ ([(.int .i64 (Y86.len)), (.int .i64 (Y86.sb)), (.int .i64 (Y86.sm))] : List Value)), rowC 49 38 (.slice a D.length c) D.length (D.flatMap encSt), rowC 49 38 (.slice (some ⟨b169, 0, none⟩) 1 1) 1 ([S165].flatMap encSt)] w170 := H171.cast (by rw [(show ((([(.int .i64 (S165.r)), (.int .i64 (S165.cl)), (.int .i64 (S165.seq))] : List Value) ++ hc S165.h ++ ([(.int .u64 (S165.t)), (.int .i64 (S165.sb)), (.int .i64 (S165.sm))] : List Value)) : List Value) = [S165].flatMap encSt by kernel_rfl)])
        refine hK168 _ _ ?_
        clear hK168 K168
        refine wl_do (wants0 rfl) (fun K173 hK173 => ?_)
        refine d_append (T := 45) (e := 49) (size := 38) (bytes := 80) rfl H172 (by kernel_rfl) 12 13 rfl rfl rfl rfl (flat_one encSt encSt_one [S165]) (by omega) (by omega) ?_
        intro v174 w175 (H176 : Sat w [restC w (fun _ => False), cellC b2 38 ([(.int .i64 (withinV nc 3)), (.int .i64 (1 + (withinV ns 9)))] : List Value), cellC b10 36 ([(.int .i64 (F)), (.int .i64 (3))] : List Value), cellC b20 107 ([(.map (some m21))] : List Value), mapC m21 signedV (Value.int .i64) (marks L166), cellC r22 88 ([(.slice a163 L166.length c164)] : List Value), rowC 120 2 (.slice a163 L166.length c164) L166.length (L166.flatMap encS), cellC b30 54 ([(.pointer (some ⟨b20, 0, none⟩)), (.pointer (some ⟨r22, 0, none⟩))] : List Value), rowC 5 1 (.slice (some ⟨b56, 0, none⟩) 1 1) 1 (([1] : List UInt8).flatMap encB), cellC b69 44 (([(.int .i64 (Y65.cl)), (.int .i64 (Y65.seq))] : List Value) ++ hc Y65.h ++ ([(.int .i64 (Y65.len)), (.int .i64 (Y65.sb)), (.int .i64 (Y65.sm))] : List Value)), rowC 5 1 (.slice (some ⟨b77, 0, none⟩) 1 1) 1 (([1] : List UInt8).flatMap encB), cellC b90 44 (([(.int .i64 (Y86.cl)), (.int .i64 (Y86.seq))] : List Value) ++ hc Y86.h ++ ([(.int .i64 (Y86.len)), (.int .i64 (Y86.sb)), (.int .i64 (Y86.sm))] : List Value)), rowC 49 38 v174 (D.length + 1) ((D.flatMap encSt) ++ ([S165].flatMap encSt)), rowC 49 38 (.slice (some ⟨b169, 0, none⟩) 1 1) 1 ([S165].flatMap encSt)] w175)
        have H179 : Sat w [restC w (fun _ => False), cellC b2 38 ([(.int .i64 (withinV nc 3)), (.int .i64 (1 + (withinV ns 9)))] : List Value), cellC b10 36 ([(.int .i64 (F)), (.int .i64 (3))] : List Value), cellC b20 107 ([(.map (some m21))] : List Value), mapC m21 signedV (Value.int .i64) (marks L166), cellC r22 88 ([(.slice a163 L166.length c164)] : List Value), rowC 120 2 (.slice a163 L166.length c164) L166.length (L166.flatMap encS), cellC b30 54 ([(.pointer (some ⟨b20, 0, none⟩)), (.pointer (some ⟨r22, 0, none⟩))] : List Value), rowC 5 1 (.slice (some ⟨b56, 0, none⟩) 1 1) 1 (([1] : List UInt8).flatMap encB), cellC b69 44 (([(.int .i64 (Y65.cl)), (.int .i64 (Y65.seq))] : List Value) ++ hc Y65.h ++ ([(.int .i64 (Y65.len)), (.int .i64 (Y65.sb)), (.int .i64 (Y65.sm))] : List Value)), rowC 5 1 (.slice (some ⟨b77, 0, none⟩) 1 1) 1 (([1] : List UInt8).flatMap encB), cellC b90 44 (([(.int .i64 (Y86.cl)), (.int .i64 (Y86.seq))] : List Value) ++ hc Y86.h ++ ([(.int .i64 (Y86.len)), (.int .i64 (Y86.sb)), (.int .i64 (Y86.sm))] : List Value)), rowC 49 38 v174 ((D ++ [S165]).length) ((D ++ [S165]).flatMap encSt), rowC 49 38 (.slice (some ⟨b169, 0, none⟩) 1 1) 1 ([S165].flatMap encSt)] w175 := H176.cast (by simp only [List.length_append, List.flatMap_append] <;> rfl)
        obtain ⟨a177, c178, rfl⟩ := ownsRow_shape (H179.at 12 rfl)
        refine hK173 _ _ ?_
        clear hK173 K173
        refine wl_pure (wants0 rfl) (d := 15) (v := (.slice a177 ((D ++ [S165]).length) c178)) rfl (by kernel_rfl) ?_
        refine w_nil ?_
        refine blk_normal ?_
        refine then_normal ?_
        refine w_lit ?_
        refine wl_pure (wants0 rfl) (d := 64) (v := (.int .i64 ((i : Int)))) rfl (by kernel_rfl) ?_
        refine wl_pure (wants0 rfl) (d := 65) (v := (.int .i64 ((i : Int) + 1))) rfl (e_int (z := (i : Int) + 1) (by kernel_rfl) (IntWalk.i64_in _ (by omega))) ?_
        refine wl_pure (wants0 rfl) (d := 16) (v := (.int .i64 ((i : Int) + 1))) rfl (by kernel_rfl) ?_
        refine w_nil ?_
        have hI2 : WInv Y65 N K L166 (D ++ [S165]) (i + 1) := by
          rw [hS165, hL166]
          exact hI.one (by omega) (by omega) (by omega) (by omega)
        have hgc2 : GoodC L166 Y65 := by rw [hL166]; exact goodC_keep hgc _
        have H180 : Sat w [restC w (fun _ => False), cellC b2 38 ([(.int .i64 (withinV nc 3)), (.int .i64 (1 + (withinV ns 9)))] : List Value), cellC b10 36 ([(.int .i64 (F)), (.int .i64 (3))] : List Value), cellC b20 107 ([(.map (some m21))] : List Value), mapC m21 signedV (Value.int .i64) (marks L166), cellC r22 88 ([(.slice a163 L166.length c164)] : List Value), rowC 120 2 (.slice a163 L166.length c164) L166.length (L166.flatMap encS), cellC b30 54 ([(.pointer (some ⟨b20, 0, none⟩)), (.pointer (some ⟨r22, 0, none⟩))] : List Value), rowC 5 1 (.slice (some ⟨b56, 0, none⟩) 1 1) 1 (([1] : List UInt8).flatMap encB), cellC b69 44 (([(.int .i64 (Y65.cl)), (.int .i64 (Y65.seq))] : List Value) ++ hc Y65.h ++ ([(.int .i64 (Y65.len)), (.int .i64 (Y65.sb)), (.int .i64 (Y65.sm))] : List Value)), rowC 5 1 (.slice (some ⟨b77, 0, none⟩) 1 1) 1 (([1] : List UInt8).flatMap encB), cellC b90 44 (([(.int .i64 (Y86.cl)), (.int .i64 (Y86.seq))] : List Value) ++ hc Y86.h ++ ([(.int .i64 (Y86.len)), (.int .i64 (Y86.sb)), (.int .i64 (Y86.sm))] : List Value)), rowC 49 38 (.slice a177 ((D ++ [S165]).length) c178) ((D ++ [S165]).length) ((D ++ [S165]).flatMap encSt)] w175 := H179.pick [0, 1, 2, 3, 4, 5, 6, 7, 8, 9, 10, 11, 12] (by decide)
        refine round_back ?_ _ ⟨(i + 1), a177, c178, (D ++ [S165]), a163, c164, L166, (show ((.int .i64 ((i : Int) + 1)) : Value) = _ by first | rfl | go_num), (show ((.slice a177 ((D ++ [S165]).length) c178) : Value) = _ by first | rfl | go_num), (by omega), hI2, hgc2, ndL166, (by omega), (by simp only [List.length_append, List.length_cons, List.length_nil]; omega), H180, rfl⟩ (by omega)
        exact (same_upd rfl (same_upd rfl (same_upd rfl (same_upd rfl (same_upd rfl (same_upd rfl (same_upd rfl (same_upd rfl (same_upd rfl (same_upd rfl (same_upd rfl (same_upd rfl (same_upd rfl (same_upd rfl (same_upd rfl (same_upd rfl (same_upd rfl (same_upd rfl (same_upd rfl (same_upd rfl (same_upd rfl (same_upd rfl (same_upd rfl (same_upd rfl (same_upd rfl (same_upd rfl (same_upd rfl (same_upd rfl (same_upd rfl (same_upd rfl (same_upd rfl (same_upd rfl (same_upd rfl (same_upd rfl (same_upd rfl (same_upd rfl (same_upd rfl (same_ovr))))))))))))))))))))))))))))))))))))))
    · have g181 := of_decide_eq_false b111
      refine wp_know 69 (.bool false) (congrArg Value.bool b111) ?_
      have g182 := of_decide_eq_false b111
      refine wp_iff rfl ?_
      refine w_skip ?_
      refine then_normal ?_
      refine w_seq ?_
      refine w_seq ?_
      have him : (i : Int) % (N : Int) = (i : Int) := Int.emod_eq_of_lt (by omega) (by omega)
      refine w_lit ?_
      refine wl_pure (wants0 rfl) (d := 76) (v := (.int .i64 ((i : Int)))) rfl (by kernel_rfl) ?_
      refine wl_pure (wants0 rfl) (d := 77) (v := (.int .i64 ((N : Int)))) rfl (by kernel_rfl) ?_
      refine wl_pure (wants0 rfl) (d := 78) (v := (.int .i64 ((i : Int) % (N : Int)))) rfl (e_rem (by kernel_rfl) (by omega) (by omega)) ?_
      refine wl_pure (wants0 rfl) (d := 79) (v := (.int .i64 ((K : Int)))) rfl (by kernel_rfl) ?_
      refine wl_pure (wants0 rfl) (d := 80) (v := (.bool (decide (((i : Int) % (N : Int)) = (K : Int))))) rfl (by kernel_rfl) ?_
      refine w_nil ?_
      refine then_normal ?_
      refine (bsplit (decide (((i : Int) % (N : Int)) = (K : Int)))).elim (fun b183 => ?_) (fun b183 => ?_)
      · have g184 := of_decide_eq_true b183
        refine wp_know 80 (.bool true) (congrArg Value.bool b183) ?_
        have g185 := of_decide_eq_true b183
        refine wp_ift rfl ?_
        refine w_seq ?_
        have hik : i = K := by omega
        have hj0 := Int.emod_nonneg ((i : Int) + 1) (show (N : Int) ≠ 0 by omega)
        have hj1 := Int.emod_lt_of_pos ((i : Int) + 1) (show (0 : Int) < (N : Int) by omega)
        have hjk : ((i : Int) + 1) % (N : Int) ≠ (i : Int) := by
          rcases Int.lt_or_le ((i : Int) + 1) (N : Int) with h | h
          · rw [Int.emod_eq_of_lt (by omega) h]; omega
          · rw [show ((i : Int) + 1) = (N : Int) by omega, Int.emod_self]; omega
        refine h_start H104 [restC w (fun _ => False), cellC b2 38 ([(.int .i64 (withinV nc 3)), (.int .i64 (1 + (withinV ns 9)))] : List Value), cellC b10 36 ([(.int .i64 (F)), (.int .i64 (3))] : List Value), cellC b30 54 ([(.pointer (some ⟨b20, 0, none⟩)), (.pointer (some ⟨r22, 0, none⟩))] : List Value), rowC 5 1 (.slice (some ⟨b56, 0, none⟩) 1 1) 1 (([1] : List UInt8).flatMap encB), cellC b69 44 (([(.int .i64 (Y65.cl)), (.int .i64 (Y65.seq))] : List Value) ++ hc Y65.h ++ ([(.int .i64 (Y65.len)), (.int .i64 (Y65.sb)), (.int .i64 (Y65.sm))] : List Value)), rowC 5 1 (.slice (some ⟨b77, 0, none⟩) 1 1) 1 (([1] : List UInt8).flatMap encB), cellC b90 44 (([(.int .i64 (Y86.cl)), (.int .i64 (Y86.seq))] : List Value) ++ hc Y86.h ++ ([(.int .i64 (Y86.len)), (.int .i64 (Y86.sb)), (.int .i64 (Y86.sm))] : List Value))] 18 rfl (by kernel_rfl) (fun Hx => (Hx.pick [0, 1, 2, 7, 8, 9, 10, 11] (by decide))) ?_
        intro w186 H187 S188
        refine h_val 0 rfl (by kernel_rfl) (by kernel_rfl) (by kernel_rfl) (fun _ _ _ h => h) S188 (wants0 rfl) (d := 81) (v := (.slice a D.length c)) rfl (fun _ H' => (by kernel_rfl)) ?_
        refine h_val 1 rfl (by kernel_rfl) (by kernel_rfl) (by kernel_rfl) (fun _ _ _ h => h) S188 (wants0 rfl) (d := 82) (v := (.agg ⟨([(.pointer (some ⟨b20, 0, none⟩)), (.pointer (some ⟨r22, 0, none⟩))] : List Value)⟩)) rfl (fun _ H' => (e_loadN (vs := ([(.pointer (some ⟨b20, 0, none⟩)), (.pointer (some ⟨r22, 0, none⟩))] : List Value)) rfl (by kernel_rfl) (by kernel_rfl) (by exact Nat.le_of_ble_eq_true (by kernel_rfl)) (H'.at 3 rfl) (by kernel_rfl))) ?_
        refine h_val 2 rfl (by kernel_rfl) (by kernel_rfl) (by kernel_rfl) (fun _ _ _ h => h) S188 (wants0 rfl) (d := 83) (v := (.int .i64 ((i : Int)))) rfl (fun _ H' => (by kernel_rfl)) ?_
        refine h_val 3 rfl (by kernel_rfl) (by kernel_rfl) (by kernel_rfl) (fun _ _ _ h => h) S188 (wants0 rfl) (d := 84) (v := (.agg ⟨(([(.int .i64 (Y86.cl)), (.int .i64 (Y86.seq))] : List Value) ++ hc Y86.h ++ ([(.int .i64 (Y86.len)), (.int .i64 (Y86.sb)), (.int .i64 (Y86.sm))] : List Value))⟩)) rfl (fun _ H' => (e_loadN (vs := (([(.int .i64 (Y86.cl)), (.int .i64 (Y86.seq))] : List Value) ++ hc Y86.h ++ ([(.int .i64 (Y86.len)), (.int .i64 (Y86.sb)), (.int .i64 (Y86.sm))] : List Value))) rfl (by kernel_rfl) (by kernel_rfl) (by exact Nat.le_of_ble_eq_true (by kernel_rfl)) (H'.at 7 rfl) (by kernel_rfl))) ?_
        refine h_val 4 rfl (by kernel_rfl) (by kernel_rfl) (by kernel_rfl) (fun _ _ _ h => h) S188 (wants0 rfl) (d := 85) (v := (.int .u64 (7))) rfl (fun _ H' => (by kernel_rfl)) ?_
        refine h_val 6 rfl (by kernel_rfl) (by kernel_rfl) (by kernel_rfl) (fun _ _ _ h => h) S188 (wants0 rfl) (d := 87) (v := (.agg ⟨([(.pointer (some ⟨b20, 0, none⟩)), (.pointer (some ⟨r22, 0, none⟩))] : List Value)⟩)) rfl (fun _ H' => (e_loadN (vs := ([(.pointer (some ⟨b20, 0, none⟩)), (.pointer (some ⟨r22, 0, none⟩))] : List Value)) rfl (by kernel_rfl) (by kernel_rfl) (by exact Nat.le_of_ble_eq_true (by kernel_rfl)) (H'.at 3 rfl) (by kernel_rfl))) ?_
        refine h_val 7 rfl (by kernel_rfl) (by kernel_rfl) (by kernel_rfl) (fun _ _ _ h => h) S188 (wants0 rfl) (d := 88) (v := (.int .i64 ((i : Int)))) rfl (fun _ H' => (by kernel_rfl)) ?_
        refine h_val 8 rfl (by kernel_rfl) (by kernel_rfl) (by kernel_rfl) (fun _ _ _ h => h) S188 (wants0 rfl) (d := 89) (v := (.int .i64 ((i : Int) + 1))) rfl (fun _ H' => (e_int (z := (i : Int) + 1) (by kernel_rfl) (IntWalk.i64_in _ (by omega)))) ?_
        refine h_val 9 rfl (by kernel_rfl) (by kernel_rfl) (by kernel_rfl) (fun _ _ _ h => h) S188 (wants0 rfl) (d := 90) (v := (.int .i64 ((N : Int)))) rfl (fun _ H' => (by kernel_rfl)) ?_
        refine h_val 10 rfl (by kernel_rfl) (by kernel_rfl) (by kernel_rfl) (fun _ _ _ h => h) S188 (wants0 rfl) (d := 91) (v := (.int .i64 (((i : Int) + 1) % (N : Int)))) rfl (fun _ H' => (e_rem (by kernel_rfl) (by omega) (by omega))) ?_
        refine h_val 11 rfl (by kernel_rfl) (by kernel_rfl) (by kernel_rfl) (fun _ _ _ h => h) S188 (wants0 rfl) (d := 92) (v := (.agg ⟨(([(.int .i64 (Y65.cl)), (.int .i64 (Y65.seq))] : List Value) ++ hc Y65.h ++ ([(.int .i64 (Y65.len)), (.int .i64 (Y65.sb)), (.int .i64 (Y65.sm))] : List Value))⟩)) rfl (fun _ H' => (e_loadN (vs := (([(.int .i64 (Y65.cl)), (.int .i64 (Y65.seq))] : List Value) ++ hc Y65.h ++ ([(.int .i64 (Y65.len)), (.int .i64 (Y65.sb)), (.int .i64 (Y65.sm))] : List Value))) rfl (by kernel_rfl) (by kernel_rfl) (by exact Nat.le_of_ble_eq_true (by kernel_rfl)) (H'.at 5 rfl) (by kernel_rfl))) ?_
        refine h_val 12 rfl (by kernel_rfl) (by kernel_rfl) (by kernel_rfl) (fun _ _ _ h => h) S188 (wants0 rfl) (d := 93) (v := (.int .u64 (7))) rfl (fun _ H' => (by kernel_rfl)) ?_
        refine h_val 13 rfl (by kernel_rfl) (by kernel_rfl) (by kernel_rfl) (fun _ _ _ h => h) S188 (wants0 rfl) (d := 94) (v := (.int .u64 (8))) rfl (fun _ H' => (by kernel_rfl)) ?_
        refine h_do 5 rfl (by kernel_rfl) (wants0 rfl) (fun K189 hK189 => ?_)
        refine d_call (d := 86) rfl (by kernel_rfl) (bkStamp_any w186 b20 m21 r22 ra rc L (H187.fin [3, 4, 5, 6] (by decide) rfl) (i : Int) Y86 (7 : Int) (by omega) hokZ (by omega) (by omega) hnd) ?_
        rintro _ w190 ⟨a192, c193, rfl, T191⟩
        obtain ⟨L195, hL195⟩ : ∃ L195 : List Signed, L195 = signL L (yS (i : Int) Y86 (7 : Int)) := ⟨_, rfl⟩
        rw [← hL195] at T191
        have H196 : Sat w [restC w (fun _ => False), cellC b2 38 ([(.int .i64 (withinV nc 3)), (.int .i64 (1 + (withinV ns 9)))] : List Value), cellC b10 36 ([(.int .i64 (F)), (.int .i64 (3))] : List Value), cellC b20 107 ([(.map (some m21))] : List Value), mapC m21 signedV (Value.int .i64) (marks L195), cellC r22 88 ([(.slice a192 L195.length c193)] : List Value), rowC 120 2 (.slice a192 L195.length c193) L195.length (L195.flatMap encS), cellC b30 54 ([(.pointer (some ⟨b20, 0, none⟩)), (.pointer (some ⟨r22, 0, none⟩))] : List Value), rowC 5 1 (.slice (some ⟨b56, 0, none⟩) 1 1) 1 (([1] : List UInt8).flatMap encB), cellC b69 44 (([(.int .i64 (Y65.cl)), (.int .i64 (Y65.seq))] : List Value) ++ hc Y65.h ++ ([(.int .i64 (Y65.len)), (.int .i64 (Y65.sb)), (.int .i64 (Y65.sm))] : List Value)), rowC 5 1 (.slice (some ⟨b77, 0, none⟩) 1 1) 1 (([1] : List UInt8).flatMap encB), cellC b90 44 (([(.int .i64 (Y86.cl)), (.int .i64 (Y86.seq))] : List Value) ++ hc Y86.h ++ ([(.int .i64 (Y86.len)), (.int .i64 (Y86.sb)), (.int .i64 (Y86.sm))] : List Value)), rowC 49 38 (.slice a D.length c) D.length (D.flatMap encSt)] w190 := (Sat.turnL (L' := [cellC b20 107 ([(.map (some m21))] : List Value), mapC m21 signedV (Value.int .i64) (marks L195), cellC r22 88 ([(.slice a192 L195.length c193)] : List Value), rowC 120 2 (.slice a192 L195.length c193) L195.length (L195.flatMap encS)]) (R := [restC w (fun _ => False), cellC b2 38 ([(.int .i64 (withinV nc 3)), (.int .i64 (1 + (withinV ns 9)))] : List Value), cellC b10 36 ([(.int .i64 (F)), (.int .i64 (3))] : List Value), cellC b30 54 ([(.pointer (some ⟨b20, 0, none⟩)), (.pointer (some ⟨r22, 0, none⟩))] : List Value), rowC 5 1 (.slice (some ⟨b56, 0, none⟩) 1 1) 1 (([1] : List UInt8).flatMap encB), cellC b69 44 (([(.int .i64 (Y65.cl)), (.int .i64 (Y65.seq))] : List Value) ++ hc Y65.h ++ ([(.int .i64 (Y65.len)), (.int .i64 (Y65.sb)), (.int .i64 (Y65.sm))] : List Value)), rowC 5 1 (.slice (some ⟨b77, 0, none⟩) 1 1) 1 (([1] : List UInt8).flatMap encB), cellC b90 44 (([(.int .i64 (Y86.cl)), (.int .i64 (Y86.seq))] : List Value) ++ hc Y86.h ++ ([(.int .i64 (Y86.len)), (.int .i64 (Y86.sb)), (.int .i64 (Y86.sm))] : List Value)), rowC 49 38 (.slice a D.length c) D.length (D.flatMap encSt)]) H187 [3, 4, 5, 6] [0, 1, 2, 7, 8, 9, 10, 11, 12] (by decide) (by kernel_rfl) rfl T191).pick [4, 5, 6, 0, 1, 2, 3, 7, 8, 9, 10, 11, 12] (by decide)
        refine ⟨_, rfl, ?_⟩
        obtain ⟨S194, hS194⟩ : ∃ S194 : StampD, S194 = mkS L (i : Int) Y86 (7 : Int) := ⟨_, rfl⟩
        rw [← hS194]
        have ndL195 : L195.Nodup := by rw [hL195]; exact signL_nodup hnd _
        have llL195 : L195.length ≤ L.length + 1 := by rw [hL195]; exact signL_len _ _
        have S197 := H196.pick [0, 1, 2, 7, 8, 9, 10, 11] (by decide)
        refine hK189 _ _ S197 ?_
        clear hK189 K189
        refine h_do 14 rfl (by kernel_rfl) (wants0 rfl) (fun K198 hK198 => ?_)
        refine d_call (d := 95) rfl (by kernel_rfl) (bkStamp_any w190 b20 m21 r22 a192 c193 L195 (H196.fin [3, 4, 5, 6] (by decide) rfl) (((i : Int) + 1) % (N : Int)) Y65 (8 : Int) (by omega) hokY (by omega) (by omega) ndL195) ?_
        rintro _ w199 ⟨a201, c202, rfl, T200⟩
        obtain ⟨L204, hL204⟩ : ∃ L204 : List Signed, L204 = signL L195 (yS (((i : Int) + 1) % (N : Int)) Y65 (8 : Int)) := ⟨_, rfl⟩
        rw [← hL204] at T200
        have H205 : Sat w [restC w (fun _ => False), cellC b2 38 ([(.int .i64 (withinV nc 3)), (.int .i64 (1 + (withinV ns 9)))] : List Value), cellC b10 36 ([(.int .i64 (F)), (.int .i64 (3))] : List Value), cellC b20 107 ([(.map (some m21))] : List Value), mapC m21 signedV (Value.int .i64) (marks L204), cellC r22 88 ([(.slice a201 L204.length c202)] : List Value), rowC 120 2 (.slice a201 L204.length c202) L204.length (L204.flatMap encS), cellC b30 54 ([(.pointer (some ⟨b20, 0, none⟩)), (.pointer (some ⟨r22, 0, none⟩))] : List Value), rowC 5 1 (.slice (some ⟨b56, 0, none⟩) 1 1) 1 (([1] : List UInt8).flatMap encB), cellC b69 44 (([(.int .i64 (Y65.cl)), (.int .i64 (Y65.seq))] : List Value) ++ hc Y65.h ++ ([(.int .i64 (Y65.len)), (.int .i64 (Y65.sb)), (.int .i64 (Y65.sm))] : List Value)), rowC 5 1 (.slice (some ⟨b77, 0, none⟩) 1 1) 1 (([1] : List UInt8).flatMap encB), cellC b90 44 (([(.int .i64 (Y86.cl)), (.int .i64 (Y86.seq))] : List Value) ++ hc Y86.h ++ ([(.int .i64 (Y86.len)), (.int .i64 (Y86.sb)), (.int .i64 (Y86.sm))] : List Value)), rowC 49 38 (.slice a D.length c) D.length (D.flatMap encSt)] w199 := (Sat.turnL (L' := [cellC b20 107 ([(.map (some m21))] : List Value), mapC m21 signedV (Value.int .i64) (marks L204), cellC r22 88 ([(.slice a201 L204.length c202)] : List Value), rowC 120 2 (.slice a201 L204.length c202) L204.length (L204.flatMap encS)]) (R := [restC w (fun _ => False), cellC b2 38 ([(.int .i64 (withinV nc 3)), (.int .i64 (1 + (withinV ns 9)))] : List Value), cellC b10 36 ([(.int .i64 (F)), (.int .i64 (3))] : List Value), cellC b30 54 ([(.pointer (some ⟨b20, 0, none⟩)), (.pointer (some ⟨r22, 0, none⟩))] : List Value), rowC 5 1 (.slice (some ⟨b56, 0, none⟩) 1 1) 1 (([1] : List UInt8).flatMap encB), cellC b69 44 (([(.int .i64 (Y65.cl)), (.int .i64 (Y65.seq))] : List Value) ++ hc Y65.h ++ ([(.int .i64 (Y65.len)), (.int .i64 (Y65.sb)), (.int .i64 (Y65.sm))] : List Value)), rowC 5 1 (.slice (some ⟨b77, 0, none⟩) 1 1) 1 (([1] : List UInt8).flatMap encB), cellC b90 44 (([(.int .i64 (Y86.cl)), (.int .i64 (Y86.seq))] : List Value) ++ hc Y86.h ++ ([(.int .i64 (Y86.len)), (.int .i64 (Y86.sb)), (.int .i64 (Y86.sm))] : List Value)), rowC 49 38 (.slice a D.length c) D.length (D.flatMap encSt)]) H196 [3, 4, 5, 6] [0, 1, 2, 7, 8, 9, 10, 11, 12] (by decide) (by kernel_rfl) rfl T200).pick [4, 5, 6, 0, 1, 2, 3, 7, 8, 9, 10, 11, 12] (by decide)
        refine ⟨_, rfl, ?_⟩
        obtain ⟨S203, hS203⟩ : ∃ S203 : StampD, S203 = mkS L195 (((i : Int) + 1) % (N : Int)) Y65 (8 : Int) := ⟨_, rfl⟩
        rw [← hS203]
        have ndL204 : L204.Nodup := by rw [hL204]; exact signL_nodup ndL195 _
        have llL204 : L204.length ≤ L195.length + 1 := by rw [hL204]; exact signL_len _ _
        have S206 := H205.pick [0, 1, 2, 7, 8, 9, 10, 11] (by decide)
        refine hK198 _ _ S206 ?_
        clear hK198 K198
        refine h_do 15 rfl (by kernel_rfl) (wants0 rfl) (fun K207 hK207 => ?_)
        refine d_buildSlice (e := 49) (size := 38) (bytes := 80) (z := (.agg ⟨(([(.int .i64 (0)), (.int .i64 (0)), (.int .i64 (0))] : List Value) ++ hc hash0 ++ ([(.int .u64 (0)), (.int .i64 (0)), (.int .i64 (0))] : List Value))⟩)) (pvs := [(0, (.agg ⟨(([(.int .i64 (S194.r)), (.int .i64 (S194.cl)), (.int .i64 (S194.seq))] : List Value) ++ hc S194.h ++ ([(.int .u64 (S194.t)), (.int .i64 (S194.sb)), (.int .i64 (S194.sm))] : List Value))⟩)), (1, (.agg ⟨(([(.int .i64 (S203.r)), (.int .i64 (S203.cl)), (.int .i64 (S203.seq))] : List Value) ++ hc S203.h ++ ([(.int .u64 (S203.t)), (.int .i64 (S203.sb)), (.int .i64 (S203.sm))] : List Value))⟩))]) (vs := (([(.int .i64 (S194.r)), (.int .i64 (S194.cl)), (.int .i64 (S194.seq))] : List Value) ++ hc S194.h ++ ([(.int .u64 (S194.t)), (.int .i64 (S194.sb)), (.int .i64 (S194.sm)), (.int .i64 (S203.r)), (.int .i64 (S203.cl)), (.int .i64 (S203.seq))] : List Value) ++ hc S203.h ++ ([(.int .u64 (S203.t)), (.int .i64 (S203.sb)), (.int .i64 (S203.sm))] : List Value))) rfl H205 (by kernel_rfl) (by kernel_rfl) (by kernel_rfl) (by kernel_rfl) (by kernel_rfl) rfl rfl ?_
        intro b208 w209 (H210 : Sat w [restC w (fun _ => False), cellC b2 38 ([(.int .i64 (withinV nc 3)), (.int .i64 (1 + (withinV ns 9)))] : List Value), cellC b10 36 ([(.int .i64 (F)), (.int .i64 (3))] : List Value), cellC b20 107 ([(.map (some m21))] : List Value), mapC m21 signedV (Value.int .i64) (marks L204), cellC r22 88 ([(.slice a201 L204.length c202)] : List Value), rowC 120 2 (.slice a201 L204.length c202) L204.length (L204.flatMap encS), cellC b30 54 ([(.pointer (some ⟨b20, 0, none⟩)), (.pointer (some ⟨r22, 0, none⟩))] : List Value), rowC 5 1 (.slice (some ⟨b56, 0, none⟩) 1 1) 1 (([1] : List UInt8).flatMap encB), cellC b69 44 (([(.int .i64 (Y65.cl)), (.int .i64 (Y65.seq))] : List Value) ++ hc Y65.h ++ ([(.int .i64 (Y65.len)), (.int .i64 (Y65.sb)), (.int .i64 (Y65.sm))] : List Value)), rowC 5 1 (.slice (some ⟨b77, 0, none⟩) 1 1) 1 (([1] : List UInt8).flatMap encB), cellC b90 44 (([(.int .i64 (Y86.cl)), (.int .i64 (Y86.seq))] : List Value) ++ hc Y86.h ++ ([(.int .i64 (Y86.len)), (.int .i64 (Y86.sb)), (.int .i64 (Y86.sm))] : List Value)), rowC 49 38 (.slice a D.length c) D.length (D.flatMap encSt), rowC 49 38 (.slice (some ⟨b208, 0, none⟩) 2 2) 2 (([(.int .i64 (S194.r)), (.int .i64 (S194.cl)), (.int .i64 (S194.seq))] : List Value) ++ hc S194.h ++ ([(.int .u64 (S194.t)), (.int .i64 (S194.sb)), (.int .i64 (S194.sm)), (.int .i64 (S203.r)), (.int .i64 (S203.cl)), (.int .i64 (S203.seq))] : List Value) ++ hc S203.h ++ ([(.int .u64 (S203.t)), (.int .i64 (S203.sb)), (.int .i64 (S203.sm))] : List Value))] w209)
        have H211 : Sat w [restC w (fun _ => False), cellC b2 38 ([(.int .i64 (withinV nc 3)), (.int .i64 (1 + (withinV ns 9)))] : List Value), cellC b10 36 ([(.int .i64 (F)), (.int .i64 (3))] : List Value), cellC b20 107 ([(.map (some m21))] : List Value), mapC m21 signedV (Value.int .i64) (marks L204), cellC r22 88 ([(.slice a201 L204.length c202)] : List Value), rowC 120 2 (.slice a201 L204.length c202) L204.length (L204.flatMap encS), cellC b30 54 ([(.pointer (some ⟨b20, 0, none⟩)), (.pointer (some ⟨r22, 0, none⟩))] : List Value), rowC 5 1 (.slice (some ⟨b56, 0, none⟩) 1 1) 1 (([1] : List UInt8).flatMap encB), cellC b69 44 (([(.int .i64 (Y65.cl)), (.int .i64 (Y65.seq))] : List Value) ++ hc Y65.h ++ ([(.int .i64 (Y65.len)), (.int .i64 (Y65.sb)), (.int .i64 (Y65.sm))] : List Value)), rowC 5 1 (.slice (some ⟨b77, 0, none⟩) 1 1) 1 (([1] : List UInt8).flatMap encB), cellC b90 44 (([(.int .i64 (Y86.cl)), (.int .i64 (Y86.seq))] : List Value) ++ hc Y86.h ++ ([(.int .i64 (Y86.len)), (.int .i64 (Y86.sb)), (.int .i64 (Y86.sm))] : List Value)), rowC 49 38 (.slice a D.length c) D.length (D.flatMap encSt), rowC 49 38 (.slice (some ⟨b208, 0, none⟩) 2 2) 2 ([S194, S203].flatMap encSt)] w209 := H210.cast (by rw [(show ((([(.int .i64 (S194.r)), (.int .i64 (S194.cl)), (.int .i64 (S194.seq))] : List Value) ++ hc S194.h ++ ([(.int .u64 (S194.t)), (.int .i64 (S194.sb)), (.int .i64 (S194.sm)), (.int .i64 (S203.r)), (.int .i64 (S203.cl)), (.int .i64 (S203.seq))] : List Value) ++ hc S203.h ++ ([(.int .u64 (S203.t)), (.int .i64 (S203.sb)), (.int .i64 (S203.sm))] : List Value)) : List Value) = [S194, S203].flatMap encSt by kernel_rfl)])
        have S212 := H211.pick [0, 1, 2, 7, 8, 9, 10, 11] (by decide)
        refine hK207 _ _ S212 ?_
        clear hK207 K207
        refine h_do 16 rfl (by kernel_rfl) (wants0 rfl) (fun K213 hK213 => ?_)
        refine d_append (T := 45) (e := 49) (size := 38) (bytes := 80) rfl H211 (by kernel_rfl) 12 13 rfl rfl rfl rfl (flat_one encSt encSt_one [S194, S203]) (by omega) (by omega) ?_
        intro v214 w215 (H216 : Sat w [restC w (fun _ => False), cellC b2 38 ([(.int .i64 (withinV nc 3)), (.int .i64 (1 + (withinV ns 9)))] : List Value), cellC b10 36 ([(.int .i64 (F)), (.int .i64 (3))] : List Value), cellC b20 107 ([(.map (some m21))] : List Value), mapC m21 signedV (Value.int .i64) (marks L204), cellC r22 88 ([(.slice a201 L204.length c202)] : List Value), rowC 120 2 (.slice a201 L204.length c202) L204.length (L204.flatMap encS), cellC b30 54 ([(.pointer (some ⟨b20, 0, none⟩)), (.pointer (some ⟨r22, 0, none⟩))] : List Value), rowC 5 1 (.slice (some ⟨b56, 0, none⟩) 1 1) 1 (([1] : List UInt8).flatMap encB), cellC b69 44 (([(.int .i64 (Y65.cl)), (.int .i64 (Y65.seq))] : List Value) ++ hc Y65.h ++ ([(.int .i64 (Y65.len)), (.int .i64 (Y65.sb)), (.int .i64 (Y65.sm))] : List Value)), rowC 5 1 (.slice (some ⟨b77, 0, none⟩) 1 1) 1 (([1] : List UInt8).flatMap encB), cellC b90 44 (([(.int .i64 (Y86.cl)), (.int .i64 (Y86.seq))] : List Value) ++ hc Y86.h ++ ([(.int .i64 (Y86.len)), (.int .i64 (Y86.sb)), (.int .i64 (Y86.sm))] : List Value)), rowC 49 38 v214 (D.length + 2) ((D.flatMap encSt) ++ ([S194, S203].flatMap encSt)), rowC 49 38 (.slice (some ⟨b208, 0, none⟩) 2 2) 2 ([S194, S203].flatMap encSt)] w215)
        have H219 : Sat w [restC w (fun _ => False), cellC b2 38 ([(.int .i64 (withinV nc 3)), (.int .i64 (1 + (withinV ns 9)))] : List Value), cellC b10 36 ([(.int .i64 (F)), (.int .i64 (3))] : List Value), cellC b20 107 ([(.map (some m21))] : List Value), mapC m21 signedV (Value.int .i64) (marks L204), cellC r22 88 ([(.slice a201 L204.length c202)] : List Value), rowC 120 2 (.slice a201 L204.length c202) L204.length (L204.flatMap encS), cellC b30 54 ([(.pointer (some ⟨b20, 0, none⟩)), (.pointer (some ⟨r22, 0, none⟩))] : List Value), rowC 5 1 (.slice (some ⟨b56, 0, none⟩) 1 1) 1 (([1] : List UInt8).flatMap encB), cellC b69 44 (([(.int .i64 (Y65.cl)), (.int .i64 (Y65.seq))] : List Value) ++ hc Y65.h ++ ([(.int .i64 (Y65.len)), (.int .i64 (Y65.sb)), (.int .i64 (Y65.sm))] : List Value)), rowC 5 1 (.slice (some ⟨b77, 0, none⟩) 1 1) 1 (([1] : List UInt8).flatMap encB), cellC b90 44 (([(.int .i64 (Y86.cl)), (.int .i64 (Y86.seq))] : List Value) ++ hc Y86.h ++ ([(.int .i64 (Y86.len)), (.int .i64 (Y86.sb)), (.int .i64 (Y86.sm))] : List Value)), rowC 49 38 v214 ((D ++ [S194, S203]).length) ((D ++ [S194, S203]).flatMap encSt), rowC 49 38 (.slice (some ⟨b208, 0, none⟩) 2 2) 2 ([S194, S203].flatMap encSt)] w215 := H216.cast (by simp only [List.length_append, List.flatMap_append] <;> rfl)
        obtain ⟨a217, c218, rfl⟩ := ownsRow_shape (H219.at 12 rfl)
        have S220 := H219.pick [0, 1, 2, 7, 8, 9, 10, 11] (by decide)
        refine hK213 _ _ S220 ?_
        clear hK213 K213
        refine h_val 17 rfl (by kernel_rfl) (by kernel_rfl) (by kernel_rfl) (fun _ _ _ h => h) S220 (wants0 rfl) (d := 15) (v := (.slice a217 ((D ++ [S194, S203]).length) c218)) rfl (fun _ H' => (by kernel_rfl)) ?_
        refine h_fin (by kernel_rfl) ?_
        refine then_normal ?_
        refine w_exit ?_
        refine then_exit ?_
        refine blk_hit ?_
        refine then_normal ?_
        refine w_lit ?_
        refine wl_pure (wants0 rfl) (d := 64) (v := (.int .i64 ((i : Int)))) rfl (by kernel_rfl) ?_
        refine wl_pure (wants0 rfl) (d := 65) (v := (.int .i64 ((i : Int) + 1))) rfl (e_int (z := (i : Int) + 1) (by kernel_rfl) (IntWalk.i64_in _ (by omega))) ?_
        refine wl_pure (wants0 rfl) (d := 16) (v := (.int .i64 ((i : Int) + 1))) rfl (by kernel_rfl) ?_
        refine w_nil ?_
        have hI2 : WInv Y65 N K L204 (D ++ [S194, S203]) (i + 1) := by
          rw [hS194, hS203, hL204, hL195]
          exact hI.two2 hik hKN ⟨hj0, hj1⟩ hjk (by omega) (by omega) (by omega) (by omega) (by omega)
        have hgc2 : GoodC L204 Y65 := by rw [hL204, hL195]; exact goodC_keep (goodC_keep hgc _) _
        have H221 : Sat w [restC w (fun _ => False), cellC b2 38 ([(.int .i64 (withinV nc 3)), (.int .i64 (1 + (withinV ns 9)))] : List Value), cellC b10 36 ([(.int .i64 (F)), (.int .i64 (3))] : List Value), cellC b20 107 ([(.map (some m21))] : List Value), mapC m21 signedV (Value.int .i64) (marks L204), cellC r22 88 ([(.slice a201 L204.length c202)] : List Value), rowC 120 2 (.slice a201 L204.length c202) L204.length (L204.flatMap encS), cellC b30 54 ([(.pointer (some ⟨b20, 0, none⟩)), (.pointer (some ⟨r22, 0, none⟩))] : List Value), rowC 5 1 (.slice (some ⟨b56, 0, none⟩) 1 1) 1 (([1] : List UInt8).flatMap encB), cellC b69 44 (([(.int .i64 (Y65.cl)), (.int .i64 (Y65.seq))] : List Value) ++ hc Y65.h ++ ([(.int .i64 (Y65.len)), (.int .i64 (Y65.sb)), (.int .i64 (Y65.sm))] : List Value)), rowC 5 1 (.slice (some ⟨b77, 0, none⟩) 1 1) 1 (([1] : List UInt8).flatMap encB), cellC b90 44 (([(.int .i64 (Y86.cl)), (.int .i64 (Y86.seq))] : List Value) ++ hc Y86.h ++ ([(.int .i64 (Y86.len)), (.int .i64 (Y86.sb)), (.int .i64 (Y86.sm))] : List Value)), rowC 49 38 (.slice a217 ((D ++ [S194, S203]).length) c218) ((D ++ [S194, S203]).length) ((D ++ [S194, S203]).flatMap encSt)] w215 := H219.pick [0, 1, 2, 3, 4, 5, 6, 7, 8, 9, 10, 11, 12] (by decide)
        refine round_back ?_ _ ⟨(i + 1), a217, c218, (D ++ [S194, S203]), a201, c202, L204, (show ((.int .i64 ((i : Int) + 1)) : Value) = _ by first | rfl | go_num), (show ((.slice a217 ((D ++ [S194, S203]).length) c218) : Value) = _ by first | rfl | go_num), (by omega), hI2, hgc2, ndL204, (by omega), (by simp only [List.length_append, List.length_cons, List.length_nil]; omega), H221, rfl⟩ (by omega)
        exact (same_upd rfl (same_upd rfl (same_upd rfl (same_upd rfl (same_upd rfl (same_upd rfl (same_upd rfl (same_upd rfl (same_upd rfl (same_upd rfl (same_upd rfl (same_upd rfl (same_upd rfl (same_upd rfl (same_upd rfl (same_upd rfl (same_upd rfl (same_upd rfl (same_upd rfl (same_upd rfl (same_upd rfl (same_upd rfl (same_upd rfl (same_upd rfl (same_upd rfl (same_upd rfl (same_upd rfl (same_upd rfl (same_upd rfl (same_upd rfl (same_upd rfl (same_upd rfl (same_upd rfl (same_upd rfl (same_upd rfl (same_upd rfl (same_upd rfl (same_upd rfl (same_upd rfl (same_ovr))))))))))))))))))))))))))))))))))))))))
      · have g222 := of_decide_eq_false b183
        refine wp_know 80 (.bool false) (congrArg Value.bool b183) ?_
        have g223 := of_decide_eq_false b183
        refine wp_iff rfl ?_
        refine w_skip ?_
        refine then_normal ?_
        have hik : i ≠ K := by omega
        refine w_lit ?_
        refine wl_pure (wants0 rfl) (d := 98) (v := (.slice a D.length c)) rfl (by kernel_rfl) ?_
        refine wl_pure (wants0 rfl) (d := 99) (v := (.agg ⟨([(.pointer (some ⟨b20, 0, none⟩)), (.pointer (some ⟨r22, 0, none⟩))] : List Value)⟩)) rfl (e_loadN (vs := ([(.pointer (some ⟨b20, 0, none⟩)), (.pointer (some ⟨r22, 0, none⟩))] : List Value)) rfl (by kernel_rfl) (by kernel_rfl) (by exact Nat.le_of_ble_eq_true (by kernel_rfl)) (H104.at 7 rfl) (by kernel_rfl)) ?_
        refine wl_pure (wants0 rfl) (d := 100) (v := (.int .i64 ((i : Int)))) rfl (by kernel_rfl) ?_
        refine wl_pure (wants0 rfl) (d := 101) (v := (.agg ⟨(([(.int .i64 (Y65.cl)), (.int .i64 (Y65.seq))] : List Value) ++ hc Y65.h ++ ([(.int .i64 (Y65.len)), (.int .i64 (Y65.sb)), (.int .i64 (Y65.sm))] : List Value))⟩)) rfl (e_loadN (vs := (([(.int .i64 (Y65.cl)), (.int .i64 (Y65.seq))] : List Value) ++ hc Y65.h ++ ([(.int .i64 (Y65.len)), (.int .i64 (Y65.sb)), (.int .i64 (Y65.sm))] : List Value))) rfl (by kernel_rfl) (by kernel_rfl) (by exact Nat.le_of_ble_eq_true (by kernel_rfl)) (H104.at 9 rfl) (by kernel_rfl)) ?_
        refine wl_pure (wants0 rfl) (d := 102) (v := (.int .u64 (7))) rfl (by kernel_rfl) ?_
        refine wl_do (wants0 rfl) (fun K224 hK224 => ?_)
        refine d_call (d := 103) rfl (by kernel_rfl) (bkStamp_any w103 b20 m21 r22 ra rc L (H104.fin [3, 4, 5, 6] (by decide) rfl) (i : Int) Y65 (7 : Int) (by omega) hokY (by omega) (by omega) hnd) ?_
        rintro _ w225 ⟨a227, c228, rfl, T226⟩
        obtain ⟨L230, hL230⟩ : ∃ L230 : List Signed, L230 = signL L (yS (i : Int) Y65 (7 : Int)) := ⟨_, rfl⟩
        rw [← hL230] at T226
        have H231 : Sat w [restC w (fun _ => False), cellC b2 38 ([(.int .i64 (withinV nc 3)), (.int .i64 (1 + (withinV ns 9)))] : List Value), cellC b10 36 ([(.int .i64 (F)), (.int .i64 (3))] : List Value), cellC b20 107 ([(.map (some m21))] : List Value), mapC m21 signedV (Value.int .i64) (marks L230), cellC r22 88 ([(.slice a227 L230.length c228)] : List Value), rowC 120 2 (.slice a227 L230.length c228) L230.length (L230.flatMap encS), cellC b30 54 ([(.pointer (some ⟨b20, 0, none⟩)), (.pointer (some ⟨r22, 0, none⟩))] : List Value), rowC 5 1 (.slice (some ⟨b56, 0, none⟩) 1 1) 1 (([1] : List UInt8).flatMap encB), cellC b69 44 (([(.int .i64 (Y65.cl)), (.int .i64 (Y65.seq))] : List Value) ++ hc Y65.h ++ ([(.int .i64 (Y65.len)), (.int .i64 (Y65.sb)), (.int .i64 (Y65.sm))] : List Value)), rowC 5 1 (.slice (some ⟨b77, 0, none⟩) 1 1) 1 (([1] : List UInt8).flatMap encB), cellC b90 44 (([(.int .i64 (Y86.cl)), (.int .i64 (Y86.seq))] : List Value) ++ hc Y86.h ++ ([(.int .i64 (Y86.len)), (.int .i64 (Y86.sb)), (.int .i64 (Y86.sm))] : List Value)), rowC 49 38 (.slice a D.length c) D.length (D.flatMap encSt)] w225 := (Sat.turnL (L' := [cellC b20 107 ([(.map (some m21))] : List Value), mapC m21 signedV (Value.int .i64) (marks L230), cellC r22 88 ([(.slice a227 L230.length c228)] : List Value), rowC 120 2 (.slice a227 L230.length c228) L230.length (L230.flatMap encS)]) (R := [restC w (fun _ => False), cellC b2 38 ([(.int .i64 (withinV nc 3)), (.int .i64 (1 + (withinV ns 9)))] : List Value), cellC b10 36 ([(.int .i64 (F)), (.int .i64 (3))] : List Value), cellC b30 54 ([(.pointer (some ⟨b20, 0, none⟩)), (.pointer (some ⟨r22, 0, none⟩))] : List Value), rowC 5 1 (.slice (some ⟨b56, 0, none⟩) 1 1) 1 (([1] : List UInt8).flatMap encB), cellC b69 44 (([(.int .i64 (Y65.cl)), (.int .i64 (Y65.seq))] : List Value) ++ hc Y65.h ++ ([(.int .i64 (Y65.len)), (.int .i64 (Y65.sb)), (.int .i64 (Y65.sm))] : List Value)), rowC 5 1 (.slice (some ⟨b77, 0, none⟩) 1 1) 1 (([1] : List UInt8).flatMap encB), cellC b90 44 (([(.int .i64 (Y86.cl)), (.int .i64 (Y86.seq))] : List Value) ++ hc Y86.h ++ ([(.int .i64 (Y86.len)), (.int .i64 (Y86.sb)), (.int .i64 (Y86.sm))] : List Value)), rowC 49 38 (.slice a D.length c) D.length (D.flatMap encSt)]) H104 [3, 4, 5, 6] [0, 1, 2, 7, 8, 9, 10, 11, 12] (by decide) (by kernel_rfl) rfl T226).pick [4, 5, 6, 0, 1, 2, 3, 7, 8, 9, 10, 11, 12] (by decide)
        refine ⟨_, rfl, ?_⟩
        obtain ⟨S229, hS229⟩ : ∃ S229 : StampD, S229 = mkS L (i : Int) Y65 (7 : Int) := ⟨_, rfl⟩
        rw [← hS229]
        have ndL230 : L230.Nodup := by rw [hL230]; exact signL_nodup hnd _
        have llL230 : L230.length ≤ L.length + 1 := by rw [hL230]; exact signL_len _ _
        refine hK224 _ _ ?_
        clear hK224 K224
        refine wl_do (wants0 rfl) (fun K232 hK232 => ?_)
        refine d_buildSlice (e := 49) (size := 38) (bytes := 80) (z := (.agg ⟨(([(.int .i64 (0)), (.int .i64 (0)), (.int .i64 (0))] : List Value) ++ hc hash0 ++ ([(.int .u64 (0)), (.int .i64 (0)), (.int .i64 (0))] : List Value))⟩)) (pvs := [(0, (.agg ⟨(([(.int .i64 (S229.r)), (.int .i64 (S229.cl)), (.int .i64 (S229.seq))] : List Value) ++ hc S229.h ++ ([(.int .u64 (S229.t)), (.int .i64 (S229.sb)), (.int .i64 (S229.sm))] : List Value))⟩))]) (vs := (([(.int .i64 (S229.r)), (.int .i64 (S229.cl)), (.int .i64 (S229.seq))] : List Value) ++ hc S229.h ++ ([(.int .u64 (S229.t)), (.int .i64 (S229.sb)), (.int .i64 (S229.sm))] : List Value))) rfl H231 (by kernel_rfl) (by kernel_rfl) (by kernel_rfl) (by kernel_rfl) (by kernel_rfl) rfl rfl ?_
        intro b233 w234 (H235 : Sat w [restC w (fun _ => False), cellC b2 38 ([(.int .i64 (withinV nc 3)), (.int .i64 (1 + (withinV ns 9)))] : List Value), cellC b10 36 ([(.int .i64 (F)), (.int .i64 (3))] : List Value), cellC b20 107 ([(.map (some m21))] : List Value), mapC m21 signedV (Value.int .i64) (marks L230), cellC r22 88 ([(.slice a227 L230.length c228)] : List Value), rowC 120 2 (.slice a227 L230.length c228) L230.length (L230.flatMap encS), cellC b30 54 ([(.pointer (some ⟨b20, 0, none⟩)), (.pointer (some ⟨r22, 0, none⟩))] : List Value), rowC 5 1 (.slice (some ⟨b56, 0, none⟩) 1 1) 1 (([1] : List UInt8).flatMap encB), cellC b69 44 (([(.int .i64 (Y65.cl)), (.int .i64 (Y65.seq))] : List Value) ++ hc Y65.h ++ ([(.int .i64 (Y65.len)), (.int .i64 (Y65.sb)), (.int .i64 (Y65.sm))] : List Value)), rowC 5 1 (.slice (some ⟨b77, 0, none⟩) 1 1) 1 (([1] : List UInt8).flatMap encB), cellC b90 44 (([(.int .i64 (Y86.cl)), (.int .i64 (Y86.seq))] : List Value) ++ hc Y86.h ++ ([(.int .i64 (Y86.len)), (.int .i64 (Y86.sb)), (.int .i64 (Y86.sm))] : List Value)), rowC 49 38 (.slice a D.length c) D.length (D.flatMap encSt), rowC 49 38 (.slice (some ⟨b233, 0, none⟩) 1 1) 1 (([(.int .i64 (S229.r)), (.int .i64 (S229.cl)), (.int .i64 (S229.seq))] : List Value) ++ hc S229.h ++ ([(.int .u64 (S229.t)), (.int .i64 (S229.sb)), (.int .i64 (S229.sm))] : List Value))] w234)
        have H236 : Sat w [restC w (fun _ => False), cellC b2 38 ([(.int .i64 (withinV nc 3)), (.int .i64 (1 + (withinV ns 9)))] : List Value), cellC b10 36 ([(.int .i64 (F)), (.int .i64 (3))] : List Value), cellC b20 107 ([(.map (some m21))] : List Value), mapC m21 signedV (Value.int .i64) (marks L230), cellC r22 88 ([(.slice a227 L230.length c228)] : List Value), rowC 120 2 (.slice a227 L230.length c228) L230.length (L230.flatMap encS), cellC b30 54 ([(.pointer (some ⟨b20, 0, none⟩)), (.pointer (some ⟨r22, 0, none⟩))] : List Value), rowC 5 1 (.slice (some ⟨b56, 0, none⟩) 1 1) 1 (([1] : List UInt8).flatMap encB), cellC b69 44 (([(.int .i64 (Y65.cl)), (.int .i64 (Y65.seq))] : List Value) ++ hc Y65.h ++ ([(.int .i64 (Y65.len)), (.int .i64 (Y65.sb)), (.int .i64 (Y65.sm))] : List Value)), rowC 5 1 (.slice (some ⟨b77, 0, none⟩) 1 1) 1 (([1] : List UInt8).flatMap encB), cellC b90 44 (([(.int .i64 (Y86.cl)), (.int .i64 (Y86.seq))] : List Value) ++ hc Y86.h ++ ([(.int .i64 (Y86.len)), (.int .i64 (Y86.sb)), (.int .i64 (Y86.sm))] : List Value)), rowC 49 38 (.slice a D.length c) D.length (D.flatMap encSt), rowC 49 38 (.slice (some ⟨b233, 0, none⟩) 1 1) 1 ([S229].flatMap encSt)] w234 := H235.cast (by rw [(show ((([(.int .i64 (S229.r)), (.int .i64 (S229.cl)), (.int .i64 (S229.seq))] : List Value) ++ hc S229.h ++ ([(.int .u64 (S229.t)), (.int .i64 (S229.sb)), (.int .i64 (S229.sm))] : List Value)) : List Value) = [S229].flatMap encSt by kernel_rfl)])
        refine hK232 _ _ ?_
        clear hK232 K232
        refine wl_do (wants0 rfl) (fun K237 hK237 => ?_)
        refine d_append (T := 45) (e := 49) (size := 38) (bytes := 80) rfl H236 (by kernel_rfl) 12 13 rfl rfl rfl rfl (flat_one encSt encSt_one [S229]) (by omega) (by omega) ?_
        intro v238 w239 (H240 : Sat w [restC w (fun _ => False), cellC b2 38 ([(.int .i64 (withinV nc 3)), (.int .i64 (1 + (withinV ns 9)))] : List Value), cellC b10 36 ([(.int .i64 (F)), (.int .i64 (3))] : List Value), cellC b20 107 ([(.map (some m21))] : List Value), mapC m21 signedV (Value.int .i64) (marks L230), cellC r22 88 ([(.slice a227 L230.length c228)] : List Value), rowC 120 2 (.slice a227 L230.length c228) L230.length (L230.flatMap encS), cellC b30 54 ([(.pointer (some ⟨b20, 0, none⟩)), (.pointer (some ⟨r22, 0, none⟩))] : List Value), rowC 5 1 (.slice (some ⟨b56, 0, none⟩) 1 1) 1 (([1] : List UInt8).flatMap encB), cellC b69 44 (([(.int .i64 (Y65.cl)), (.int .i64 (Y65.seq))] : List Value) ++ hc Y65.h ++ ([(.int .i64 (Y65.len)), (.int .i64 (Y65.sb)), (.int .i64 (Y65.sm))] : List Value)), rowC 5 1 (.slice (some ⟨b77, 0, none⟩) 1 1) 1 (([1] : List UInt8).flatMap encB), cellC b90 44 (([(.int .i64 (Y86.cl)), (.int .i64 (Y86.seq))] : List Value) ++ hc Y86.h ++ ([(.int .i64 (Y86.len)), (.int .i64 (Y86.sb)), (.int .i64 (Y86.sm))] : List Value)), rowC 49 38 v238 (D.length + 1) ((D.flatMap encSt) ++ ([S229].flatMap encSt)), rowC 49 38 (.slice (some ⟨b233, 0, none⟩) 1 1) 1 ([S229].flatMap encSt)] w239)
        have H243 : Sat w [restC w (fun _ => False), cellC b2 38 ([(.int .i64 (withinV nc 3)), (.int .i64 (1 + (withinV ns 9)))] : List Value), cellC b10 36 ([(.int .i64 (F)), (.int .i64 (3))] : List Value), cellC b20 107 ([(.map (some m21))] : List Value), mapC m21 signedV (Value.int .i64) (marks L230), cellC r22 88 ([(.slice a227 L230.length c228)] : List Value), rowC 120 2 (.slice a227 L230.length c228) L230.length (L230.flatMap encS), cellC b30 54 ([(.pointer (some ⟨b20, 0, none⟩)), (.pointer (some ⟨r22, 0, none⟩))] : List Value), rowC 5 1 (.slice (some ⟨b56, 0, none⟩) 1 1) 1 (([1] : List UInt8).flatMap encB), cellC b69 44 (([(.int .i64 (Y65.cl)), (.int .i64 (Y65.seq))] : List Value) ++ hc Y65.h ++ ([(.int .i64 (Y65.len)), (.int .i64 (Y65.sb)), (.int .i64 (Y65.sm))] : List Value)), rowC 5 1 (.slice (some ⟨b77, 0, none⟩) 1 1) 1 (([1] : List UInt8).flatMap encB), cellC b90 44 (([(.int .i64 (Y86.cl)), (.int .i64 (Y86.seq))] : List Value) ++ hc Y86.h ++ ([(.int .i64 (Y86.len)), (.int .i64 (Y86.sb)), (.int .i64 (Y86.sm))] : List Value)), rowC 49 38 v238 ((D ++ [S229]).length) ((D ++ [S229]).flatMap encSt), rowC 49 38 (.slice (some ⟨b233, 0, none⟩) 1 1) 1 ([S229].flatMap encSt)] w239 := H240.cast (by simp only [List.length_append, List.flatMap_append] <;> rfl)
        obtain ⟨a241, c242, rfl⟩ := ownsRow_shape (H243.at 12 rfl)
        refine hK237 _ _ ?_
        clear hK237 K237
        refine wl_pure (wants0 rfl) (d := 15) (v := (.slice a241 ((D ++ [S229]).length) c242)) rfl (by kernel_rfl) ?_
        refine w_nil ?_
        refine blk_normal ?_
        refine then_normal ?_
        refine w_lit ?_
        refine wl_pure (wants0 rfl) (d := 64) (v := (.int .i64 ((i : Int)))) rfl (by kernel_rfl) ?_
        refine wl_pure (wants0 rfl) (d := 65) (v := (.int .i64 ((i : Int) + 1))) rfl (e_int (z := (i : Int) + 1) (by kernel_rfl) (IntWalk.i64_in _ (by omega))) ?_
        refine wl_pure (wants0 rfl) (d := 16) (v := (.int .i64 ((i : Int) + 1))) rfl (by kernel_rfl) ?_
        refine w_nil ?_
        have hI2 : WInv Y65 N K L230 (D ++ [S229]) (i + 1) := by
          rw [hS229, hL230]
          exact hI.one (by omega) (by omega) (by omega) (by omega)
        have hgc2 : GoodC L230 Y65 := by rw [hL230]; exact goodC_keep hgc _
        have H244 : Sat w [restC w (fun _ => False), cellC b2 38 ([(.int .i64 (withinV nc 3)), (.int .i64 (1 + (withinV ns 9)))] : List Value), cellC b10 36 ([(.int .i64 (F)), (.int .i64 (3))] : List Value), cellC b20 107 ([(.map (some m21))] : List Value), mapC m21 signedV (Value.int .i64) (marks L230), cellC r22 88 ([(.slice a227 L230.length c228)] : List Value), rowC 120 2 (.slice a227 L230.length c228) L230.length (L230.flatMap encS), cellC b30 54 ([(.pointer (some ⟨b20, 0, none⟩)), (.pointer (some ⟨r22, 0, none⟩))] : List Value), rowC 5 1 (.slice (some ⟨b56, 0, none⟩) 1 1) 1 (([1] : List UInt8).flatMap encB), cellC b69 44 (([(.int .i64 (Y65.cl)), (.int .i64 (Y65.seq))] : List Value) ++ hc Y65.h ++ ([(.int .i64 (Y65.len)), (.int .i64 (Y65.sb)), (.int .i64 (Y65.sm))] : List Value)), rowC 5 1 (.slice (some ⟨b77, 0, none⟩) 1 1) 1 (([1] : List UInt8).flatMap encB), cellC b90 44 (([(.int .i64 (Y86.cl)), (.int .i64 (Y86.seq))] : List Value) ++ hc Y86.h ++ ([(.int .i64 (Y86.len)), (.int .i64 (Y86.sb)), (.int .i64 (Y86.sm))] : List Value)), rowC 49 38 (.slice a241 ((D ++ [S229]).length) c242) ((D ++ [S229]).length) ((D ++ [S229]).flatMap encSt)] w239 := H243.pick [0, 1, 2, 3, 4, 5, 6, 7, 8, 9, 10, 11, 12] (by decide)
        refine round_back ?_ _ ⟨(i + 1), a241, c242, (D ++ [S229]), a227, c228, L230, (show ((.int .i64 ((i : Int) + 1)) : Value) = _ by first | rfl | go_num), (show ((.slice a241 ((D ++ [S229]).length) c242) : Value) = _ by first | rfl | go_num), (by omega), hI2, hgc2, ndL230, (by omega), (by simp only [List.length_append, List.length_cons, List.length_nil]; omega), H244, rfl⟩ (by omega)
        exact (same_upd rfl (same_upd rfl (same_upd rfl (same_upd rfl (same_upd rfl (same_upd rfl (same_upd rfl (same_upd rfl (same_upd rfl (same_upd rfl (same_upd rfl (same_upd rfl (same_upd rfl (same_upd rfl (same_upd rfl (same_upd rfl (same_upd rfl (same_upd rfl (same_upd rfl (same_upd rfl (same_upd rfl (same_upd rfl (same_upd rfl (same_upd rfl (same_upd rfl (same_upd rfl (same_upd rfl (same_upd rfl (same_upd rfl (same_upd rfl (same_ovr)))))))))))))))))))))))))))))))
  · have g245 := of_decide_eq_false b108
    refine wp_know 63 (.bool false) (congrArg Value.bool b108) ?_
    have g246 := of_decide_eq_false b108
    refine wp_iff rfl ?_
    refine w_exit ?_
    refine then_exit ?_
    refine back_exit ?_
    refine blk_hit ?_
    refine then_normal ?_
    refine w_seq ?_
    have hiN : i = N := by omega
    rw [hiN] at hI
    have hRl := hI.len N (Nat.le_refl _)
    rw [if_pos hKN] at hRl
    have hlo : (outS F Y65 D).length ≤ 12 := by rw [ref_len (F := F) hN, hRl]; omega
    have hQR : Q ≤ (refS Y65 D N).length := by omega
    have hRX : rightX F 3 L Y65 ((refS Y65 D N).take Q) = true := hI.right hN hQ hQR (rightC_good hgc (by omega) (by omega) (by omega) (by simp only [List.length_cons, List.length_nil] at lnY65; omega))
    have hTl : ((refS Y65 D N).take Q).length = Q := by rw [List.length_take]; omega
    refine w_lit ?_
    refine wl_pure (wants0 rfl) (d := 107) (v := (.agg ⟨([(.int .i64 (F)), (.int .i64 (3))] : List Value)⟩)) rfl (e_loadN (vs := ([(.int .i64 (F)), (.int .i64 (3))] : List Value)) rfl (by kernel_rfl) (by kernel_rfl) (by exact Nat.le_of_ble_eq_true (by kernel_rfl)) (H104.at 2 rfl) (by kernel_rfl)) ?_
    refine wl_pure (wants0 rfl) (d := 108) (v := (.agg ⟨(([(.int .i64 (Y65.cl)), (.int .i64 (Y65.seq))] : List Value) ++ hc Y65.h ++ ([(.int .i64 (Y65.len)), (.int .i64 (Y65.sb)), (.int .i64 (Y65.sm))] : List Value))⟩)) rfl (e_loadN (vs := (([(.int .i64 (Y65.cl)), (.int .i64 (Y65.seq))] : List Value) ++ hc Y65.h ++ ([(.int .i64 (Y65.len)), (.int .i64 (Y65.sb)), (.int .i64 (Y65.sm))] : List Value))) rfl (by kernel_rfl) (by kernel_rfl) (by exact Nat.le_of_ble_eq_true (by kernel_rfl)) (H104.at 9 rfl) (by kernel_rfl)) ?_
    refine wl_pure (wants0 rfl) (d := 109) (v := (.slice a D.length c)) rfl (by kernel_rfl) ?_
    refine wl_do (wants0 rfl) (fun K247 hK247 => ?_)
    refine d_call (d := 110) rfl (by kernel_rfl) (wMakeG_at w103 F 3 Y65 N Q hN hQ (by omega) (.slice a D.length c) D (ListAt.row (enc := encSt) (sz := 38) encSt_len (by decide) (H104.at 12 rfl)) (by omega) hlo) ?_
    rintro _ w248 (⟨rfl, l250, u254⟩ | ⟨g251, c252, rfl, l250, k253, u254, q255⟩)
    · exact (by omega : False).elim
    · have H256 : Sat w [restC w (fun _ => False), cellC b2 38 ([(.int .i64 (withinV nc 3)), (.int .i64 (1 + (withinV ns 9)))] : List Value), cellC b10 36 ([(.int .i64 (F)), (.int .i64 (3))] : List Value), cellC b20 107 ([(.map (some m21))] : List Value), mapC m21 signedV (Value.int .i64) (marks L), cellC r22 88 ([(.slice ra L.length rc)] : List Value), rowC 120 2 (.slice ra L.length rc) L.length (L.flatMap encS), cellC b30 54 ([(.pointer (some ⟨b20, 0, none⟩)), (.pointer (some ⟨r22, 0, none⟩))] : List Value), rowC 5 1 (.slice (some ⟨b56, 0, none⟩) 1 1) 1 (([1] : List UInt8).flatMap encB), cellC b69 44 (([(.int .i64 (Y65.cl)), (.int .i64 (Y65.seq))] : List Value) ++ hc Y65.h ++ ([(.int .i64 (Y65.len)), (.int .i64 (Y65.sb)), (.int .i64 (Y65.sm))] : List Value)), rowC 5 1 (.slice (some ⟨b77, 0, none⟩) 1 1) 1 (([1] : List UInt8).flatMap encB), cellC b90 44 (([(.int .i64 (Y86.cl)), (.int .i64 (Y86.seq))] : List Value) ++ hc Y86.h ++ ([(.int .i64 (Y86.len)), (.int .i64 (Y86.sb)), (.int .i64 (Y86.sm))] : List Value)), rowC 49 38 (.slice a D.length c) D.length (D.flatMap encSt), rowC 49 38 (.slice (some ⟨g251, 0, none⟩) ((refS Y65 D N).length) c252) ((refS Y65 D N).length) ((refS Y65 D N).flatMap encSt)] w248 := H104.addU u254 k253 (fun b hb => by cases hb; exact q255)
      refine ⟨_, rfl, ?_⟩
      refine hK247 _ _ ?_
      clear hK247 K247
      refine wl_pure (wants0 rfl) (d := 106) (v := (.tuple #[(.agg ⟨(([(.int .i64 (Y65.cl)), (.int .i64 (Y65.seq))] : List Value) ++ hc Y65.h ++ ([(.int .i64 (Y65.len)), (.int .i64 (Y65.sb)), (.int .i64 (Y65.sm)), (.slice (some ⟨g251, 0, none⟩) Q c252)] : List Value))⟩), (.int .i64 (0))])) rfl (by kernel_rfl) ?_
      refine wl_pure (wants0 rfl) (d := 111) (v := (.agg ⟨(([(.int .i64 (Y65.cl)), (.int .i64 (Y65.seq))] : List Value) ++ hc Y65.h ++ ([(.int .i64 (Y65.len)), (.int .i64 (Y65.sb)), (.int .i64 (Y65.sm)), (.slice (some ⟨g251, 0, none⟩) Q c252)] : List Value))⟩)) rfl (by kernel_rfl) ?_
      refine wl_pure (wants0 rfl) (d := 112) (v := (.int .i64 (0))) rfl (by kernel_rfl) ?_
      refine wl_do (wants0 rfl) (fun K257 hK257 => ?_)
      refine d_alloc (zs := (([(.int .i64 (0)), (.int .i64 (0))] : List Value) ++ hc hash0 ++ ([(.int .i64 (0)), (.int .i64 (0)), (.int .i64 (0)), (.slice none 0 0)] : List Value))) (z := (.agg ⟨(([(.int .i64 (0)), (.int .i64 (0))] : List Value) ++ hc hash0 ++ ([(.int .i64 (0)), (.int .i64 (0)), (.int .i64 (0)), (.slice none 0 0)] : List Value))⟩)) rfl H256 (by kernel_rfl) (by kernel_rfl) ?_
      intro b258 w259 (H260 : Sat w [restC w (fun _ => False), cellC b2 38 ([(.int .i64 (withinV nc 3)), (.int .i64 (1 + (withinV ns 9)))] : List Value), cellC b10 36 ([(.int .i64 (F)), (.int .i64 (3))] : List Value), cellC b20 107 ([(.map (some m21))] : List Value), mapC m21 signedV (Value.int .i64) (marks L), cellC r22 88 ([(.slice ra L.length rc)] : List Value), rowC 120 2 (.slice ra L.length rc) L.length (L.flatMap encS), cellC b30 54 ([(.pointer (some ⟨b20, 0, none⟩)), (.pointer (some ⟨r22, 0, none⟩))] : List Value), rowC 5 1 (.slice (some ⟨b56, 0, none⟩) 1 1) 1 (([1] : List UInt8).flatMap encB), cellC b69 44 (([(.int .i64 (Y65.cl)), (.int .i64 (Y65.seq))] : List Value) ++ hc Y65.h ++ ([(.int .i64 (Y65.len)), (.int .i64 (Y65.sb)), (.int .i64 (Y65.sm))] : List Value)), rowC 5 1 (.slice (some ⟨b77, 0, none⟩) 1 1) 1 (([1] : List UInt8).flatMap encB), cellC b90 44 (([(.int .i64 (Y86.cl)), (.int .i64 (Y86.seq))] : List Value) ++ hc Y86.h ++ ([(.int .i64 (Y86.len)), (.int .i64 (Y86.sb)), (.int .i64 (Y86.sm))] : List Value)), rowC 49 38 (.slice a D.length c) D.length (D.flatMap encSt), rowC 49 38 (.slice (some ⟨g251, 0, none⟩) ((refS Y65 D N).length) c252) ((refS Y65 D N).length) ((refS Y65 D N).flatMap encSt), cellC b258 47 (([(.int .i64 (0)), (.int .i64 (0))] : List Value) ++ hc hash0 ++ ([(.int .i64 (0)), (.int .i64 (0)), (.int .i64 (0)), (.slice none 0 0)] : List Value))] w259)
      refine hK257 _ _ ?_
      clear hK257 K257
      refine wl_do (wants0 rfl) (fun K261 hK261 => ?_)
      refine d_storeX (vs := (([(.int .i64 (Y65.cl)), (.int .i64 (Y65.seq))] : List Value) ++ hc Y65.h ++ ([(.int .i64 (Y65.len)), (.int .i64 (Y65.sb)), (.int .i64 (Y65.sm)), (.slice (some ⟨g251, 0, none⟩) Q c252)] : List Value))) (cs' := (([(.int .i64 (Y65.cl)), (.int .i64 (Y65.seq))] : List Value) ++ hc Y65.h ++ ([(.int .i64 (Y65.len)), (.int .i64 (Y65.sb)), (.int .i64 (Y65.sm)), (.slice (some ⟨g251, 0, none⟩) Q c252)] : List Value))) rfl H260 14 rfl rfl rfl rfl (by kernel_rfl) (Nat.le_of_ble_eq_true (by kernel_rfl)) (Nat.le_of_ble_eq_true (by kernel_rfl)) (by kernel_rfl) (by kernel_rfl) ?_
      intro w262 (H263 : Sat w [restC w (fun _ => False), cellC b2 38 ([(.int .i64 (withinV nc 3)), (.int .i64 (1 + (withinV ns 9)))] : List Value), cellC b10 36 ([(.int .i64 (F)), (.int .i64 (3))] : List Value), cellC b20 107 ([(.map (some m21))] : List Value), mapC m21 signedV (Value.int .i64) (marks L), cellC r22 88 ([(.slice ra L.length rc)] : List Value), rowC 120 2 (.slice ra L.length rc) L.length (L.flatMap encS), cellC b30 54 ([(.pointer (some ⟨b20, 0, none⟩)), (.pointer (some ⟨r22, 0, none⟩))] : List Value), rowC 5 1 (.slice (some ⟨b56, 0, none⟩) 1 1) 1 (([1] : List UInt8).flatMap encB), cellC b69 44 (([(.int .i64 (Y65.cl)), (.int .i64 (Y65.seq))] : List Value) ++ hc Y65.h ++ ([(.int .i64 (Y65.len)), (.int .i64 (Y65.sb)), (.int .i64 (Y65.sm))] : List Value)), rowC 5 1 (.slice (some ⟨b77, 0, none⟩) 1 1) 1 (([1] : List UInt8).flatMap encB), cellC b90 44 (([(.int .i64 (Y86.cl)), (.int .i64 (Y86.seq))] : List Value) ++ hc Y86.h ++ ([(.int .i64 (Y86.len)), (.int .i64 (Y86.sb)), (.int .i64 (Y86.sm))] : List Value)), rowC 49 38 (.slice a D.length c) D.length (D.flatMap encSt), rowC 49 38 (.slice (some ⟨g251, 0, none⟩) ((refS Y65 D N).length) c252) ((refS Y65 D N).length) ((refS Y65 D N).flatMap encSt), cellC b258 47 (([(.int .i64 (Y65.cl)), (.int .i64 (Y65.seq))] : List Value) ++ hc Y65.h ++ ([(.int .i64 (Y65.len)), (.int .i64 (Y65.sb)), (.int .i64 (Y65.sm)), (.slice (some ⟨g251, 0, none⟩) Q c252)] : List Value))] w262)
      refine hK261 _ _ ?_
      clear hK261 K261
      refine wl_pure (wants0 rfl) (d := 19) (v := (.int .i64 (0))) rfl (by kernel_rfl) ?_
      refine w_nil ?_
      refine then_normal ?_
      refine w_seq ?_
      refine w_seq ?_
      refine w_lit ?_
      refine wl_pure (wants0 rfl) (d := 113) (v := (.int .i64 (0))) rfl (by kernel_rfl) ?_
      refine wl_pure (wants0 rfl) (d := 114) (v := (.bool false)) rfl (by kernel_rfl) ?_
      refine wl_pure (wants0 rfl) (d := 115) (v := (.bool false)) rfl (by kernel_rfl) ?_
      refine wl_pure (wantsY 2 115 false rfl (by kernel_rfl) rfl (by kernel_rfl)) (d := 116) (v := (.agg ⟨([(.int .i64 (F)), (.int .i64 (3))] : List Value)⟩)) rfl (e_loadN (vs := ([(.int .i64 (F)), (.int .i64 (3))] : List Value)) rfl (by kernel_rfl) (by kernel_rfl) (by exact Nat.le_of_ble_eq_true (by kernel_rfl)) (H263.at 2 rfl) (by kernel_rfl)) ?_
      refine wl_pure (wantsY 2 115 false rfl (by kernel_rfl) rfl (by kernel_rfl)) (d := 117) (v := (.pointer (some ⟨b30, 0, none⟩))) rfl (by kernel_rfl) ?_
      refine wl_pure (wantsY 2 115 false rfl (by kernel_rfl) rfl (by kernel_rfl)) (d := 118) (v := (.pointer (some ⟨b20, 0, none⟩))) rfl (e_load1 rfl (by kernel_rfl) (H263.cell 7 rfl rfl)) ?_
      refine wl_pure (wantsY 2 115 false rfl (by kernel_rfl) rfl (by kernel_rfl)) (d := 119) (v := (.agg ⟨(([(.int .i64 (Y65.cl)), (.int .i64 (Y65.seq))] : List Value) ++ hc Y65.h ++ ([(.int .i64 (Y65.len)), (.int .i64 (Y65.sb)), (.int .i64 (Y65.sm)), (.slice (some ⟨g251, 0, none⟩) Q c252)] : List Value))⟩)) rfl (e_loadN (vs := (([(.int .i64 (Y65.cl)), (.int .i64 (Y65.seq))] : List Value) ++ hc Y65.h ++ ([(.int .i64 (Y65.len)), (.int .i64 (Y65.sb)), (.int .i64 (Y65.sm)), (.slice (some ⟨g251, 0, none⟩) Q c252)] : List Value))) rfl (by kernel_rfl) (by kernel_rfl) (by exact Nat.le_of_ble_eq_true (by kernel_rfl)) (H263.at 14 rfl) (by kernel_rfl)) ?_
      refine wl_do (wantsY 2 115 false rfl (by kernel_rfl) rfl (by kernel_rfl)) (fun K265 hK265 => ?_)
      refine d_call (d := 120) rfl (by kernel_rfl) (wRightX_at w262 F 3 (by omega) b20 m21 L (H263.at 3 rfl) (H263.at 4 rfl) Y65 hokY (.slice (some ⟨g251, 0, none⟩) Q c252) ((refS Y65 D N).take Q) (ListAt.takeN (ListAt.row (enc := encSt) (sz := 38) encSt_len (by decide) (H263.at 13 rfl)) (by omega)) (hI.ok (by omega)) (by omega)) ?_
      rintro _ w266 ⟨rfl, u268⟩
      have H267 := H263.keepU u268
      refine ⟨_, rfl, ?_⟩
      refine hK265 _ _ ?_
      clear hK265 K265
      refine wl_pure (wantsY 2 115 false rfl (by kernel_rfl) rfl (by kernel_rfl)) (d := 121) (v := (.bool (!(rightX F 3 L Y65 ((refS Y65 D N).take Q))))) rfl (by kernel_rfl) ?_
      refine wl_pure (wants0 rfl) (d := 122) (v := (.bool (!(rightX F 3 L Y65 ((refS Y65 D N).take Q))))) rfl (by kernel_rfl) ?_
      refine wl_pure (wants0 rfl) (d := 123) (v := (.bool (!(rightX F 3 L Y65 ((refS Y65 D N).take Q))))) rfl (by kernel_rfl) ?_
      have b269 : (!(rightX F 3 L Y65 ((refS Y65 D N).take Q))) = false := by rw [hRX]; rfl
      refine wl_know 123 (.bool false) (congrArg Value.bool b269) ?_
      have g270 := bnot_false b269
      refine wl_pure (wantsY 10 123 false rfl (by kernel_rfl) rfl (by kernel_rfl)) (d := 124) (v := (.pointer (some ⟨b258, 37, none⟩))) rfl (by kernel_rfl) ?_
      refine wl_pure (wantsY 10 123 false rfl (by kernel_rfl) rfl (by kernel_rfl)) (d := 125) (v := (.slice (some ⟨g251, 0, none⟩) Q c252)) rfl (e_load1 rfl (by kernel_rfl) (H267.cell 14 rfl (by kernel_rfl))) ?_
      refine wl_pure (wantsY 10 123 false rfl (by kernel_rfl) rfl (by kernel_rfl)) (d := 126) (v := (.int .i64 ((Q : Int)))) rfl (by kernel_rfl) ?_
      refine wl_pure (wantsY 10 123 false rfl (by kernel_rfl) rfl (by kernel_rfl)) (d := 127) (v := (.pointer (some ⟨b10, 0, none⟩))) rfl (by kernel_rfl) ?_
      refine wl_pure (wantsY 10 123 false rfl (by kernel_rfl) rfl (by kernel_rfl)) (d := 128) (v := (.int .i64 (F))) rfl (e_load1 rfl (by kernel_rfl) (H267.cell 2 rfl rfl)) ?_
      refine wl_pure (wantsY 10 123 false rfl (by kernel_rfl) rfl (by kernel_rfl)) (d := 129) (v := (.int .i64 (2 * F))) rfl (e_int (z := 2 * F) (by kernel_rfl) (IntWalk.i64_in _ (by omega))) ?_
      refine wl_pure (wantsY 10 123 false rfl (by kernel_rfl) rfl (by kernel_rfl)) (d := 130) (v := (.int .i64 ((2 * F) + 1))) rfl (e_int (z := (2 * F) + 1) (by kernel_rfl) (IntWalk.i64_in _ (by omega))) ?_
      refine wl_pure (wantsY 10 123 false rfl (by kernel_rfl) rfl (by kernel_rfl)) (d := 131) (v := (.bool (!(decide ((Q : Int) = ((2 * F) + 1)))))) rfl (by kernel_rfl) ?_
      refine wl_pure (wants0 rfl) (d := 132) (v := (.bool (!(decide ((Q : Int) = ((2 * F) + 1)))))) rfl (by kernel_rfl) ?_
      refine w_nil ?_
      refine then_normal ?_
      have b271 : (!(decide ((Q : Int) = ((2 * F) + 1)))) = false := by rw [decide_eq_true (by omega)]; rfl
      refine wp_know 132 (.bool false) (congrArg Value.bool b271) ?_
      have g272 := bnot_false b271
      have g273 := of_decide_eq_true g272
      refine wp_iff rfl ?_
      refine w_skip ?_
      refine then_normal ?_
      refine w_seq ?_
      refine w_seq ?_
      refine w_lit ?_
      refine wl_pure (wants0 rfl) (d := 133) (v := (.pointer (some ⟨b258, 37, none⟩))) rfl (by kernel_rfl) ?_
      refine wl_pure (wants0 rfl) (d := 134) (v := (.slice (some ⟨g251, 0, none⟩) Q c252)) rfl (e_load1 rfl (by kernel_rfl) (H267.cell 14 rfl (by kernel_rfl))) ?_
      refine wl_pure (wants0 rfl) (d := 135) (v := (.int .i64 ((Q : Int)))) rfl (by kernel_rfl) ?_
      refine wl_pure (wants0 rfl) (d := 136) (v := (.int .i64 (0))) rfl (by kernel_rfl) ?_
      refine w_nil ?_
      refine then_normal ?_
      refine w_block ?_
      refine wp_round [8, 20, 136, 137, 138, 139, 140, 141, 142, 143, 144, 145, 146, 147, 148, 149, 150, 151, 152, 153, 154, 155, 156, 157, 158, 159, 160, 161, 162, 163, 164, 165, 166, 167] (fun F_ W_ m_ => ∃ (j : Nat), F_ 136 = (.int .i64 ((j : Int))) ∧ (j ≤ Q) ∧ Sat w [restC w (fun _ => False), cellC b2 38 ([(.int .i64 (withinV nc 3)), (.int .i64 (1 + (withinV ns 9)))] : List Value), cellC b10 36 ([(.int .i64 (F)), (.int .i64 (3))] : List Value), cellC b20 107 ([(.map (some m21))] : List Value), mapC m21 signedV (Value.int .i64) (marks L), cellC r22 88 ([(.slice ra L.length rc)] : List Value), rowC 120 2 (.slice ra L.length rc) L.length (L.flatMap encS), cellC b30 54 ([(.pointer (some ⟨b20, 0, none⟩)), (.pointer (some ⟨r22, 0, none⟩))] : List Value), rowC 5 1 (.slice (some ⟨b56, 0, none⟩) 1 1) 1 (([1] : List UInt8).flatMap encB), cellC b69 44 (([(.int .i64 (Y65.cl)), (.int .i64 (Y65.seq))] : List Value) ++ hc Y65.h ++ ([(.int .i64 (Y65.len)), (.int .i64 (Y65.sb)), (.int .i64 (Y65.sm))] : List Value)), rowC 5 1 (.slice (some ⟨b77, 0, none⟩) 1 1) 1 (([1] : List UInt8).flatMap encB), cellC b90 44 (([(.int .i64 (Y86.cl)), (.int .i64 (Y86.seq))] : List Value) ++ hc Y86.h ++ ([(.int .i64 (Y86.len)), (.int .i64 (Y86.sb)), (.int .i64 (Y86.sm))] : List Value)), rowC 49 38 (.slice a D.length c) D.length (D.flatMap encSt), rowC 49 38 (.slice (some ⟨g251, 0, none⟩) ((refS Y65 D N).length) c252) ((refS Y65 D N).length) ((refS Y65 D N).flatMap encSt), cellC b258 47 (([(.int .i64 (Y65.cl)), (.int .i64 (Y65.seq))] : List Value) ++ hc Y65.h ++ ([(.int .i64 (Y65.len)), (.int .i64 (Y65.sb)), (.int .i64 (Y65.sm)), (.slice (some ⟨g251, 0, none⟩) Q c252)] : List Value))] W_ ∧ m_ = Q - j) _ ⟨0, (show ((.int .i64 (0)) : Value) = _ by first | rfl | go_num), (Nat.zero_le _), H267, rfl⟩ ?_
      rintro g274 w275 _ ⟨j, v277, hj, H276, rfl⟩
      refine wp_know 136 _ v277 ?_
      refine w_seq ?_
      refine w_lit ?_
      refine wl_pure (wants0 rfl) (d := 137) (v := (.bool (decide ((j : Int) < (Q : Int))))) rfl (by kernel_rfl) ?_
      refine w_nil ?_
      refine then_normal ?_
      refine w_seq ?_
      refine (bsplit (decide ((j : Int) < (Q : Int)))).elim (fun b279 => ?_) (fun b279 => ?_)
      · have g280 := of_decide_eq_true b279
        refine wp_know 137 (.bool true) (congrArg Value.bool b279) ?_
        have g281 := of_decide_eq_true b279
        refine wp_ift rfl ?_
        refine w_skip ?_
        refine then_normal ?_
        refine w_seq ?_
        refine w_block ?_
        refine w_seq ?_
        refine w_lit ?_
        refine wl_pure (wants0 rfl) (d := 138) (v := (.int .i64 ((j : Int)))) rfl (by kernel_rfl) ?_
        refine wl_pure (wants0 rfl) (d := 20) (v := (.int .i64 ((j : Int)))) rfl (by kernel_rfl) ?_
        refine w_nil ?_
        refine then_normal ?_
        refine w_seq ?_
        refine q_start H276 (by kernel_rfl) (by kernel_rfl) ?_
        refine q_val (wants0 rfl) (d := 139) (v := (.pointer (some ⟨b258, 37, none⟩))) rfl (fun _ H' => (by kernel_rfl)) ?_
        refine q_val (wants0 rfl) (d := 140) (v := (.slice (some ⟨g251, 0, none⟩) Q c252)) rfl (fun _ H' => (e_load1 rfl (by kernel_rfl) (H'.cell 14 rfl (by kernel_rfl)))) ?_
        refine q_val (wants0 rfl) (d := 141) (v := (.int .i64 ((j : Int)))) rfl (fun _ H' => (by kernel_rfl)) ?_
        obtain ⟨x282, h283⟩ := get_at (show j < (refS Y65 D N).length by omega)
        refine q_val (wants0 rfl) (d := 142) (v := (.pointer (some ⟨g251, 0 + ((j : Int)).toNat * 38, none⟩))) rfl (fun _ H' => (e_indexAddr (E := 49) (by kernel_rfl) (by kernel_rfl) (Nat.le_of_ble_eq_true rfl) rfl rfl (by omega) (by omega))) ?_
        refine q_val (wants0 rfl) (d := 143) (v := (.pointer (some ⟨g251, 0 + ((j : Int)).toNat * 38, none⟩))) rfl (fun _ H' => (by kernel_rfl)) ?_
        refine q_val (wants0 rfl) (d := 144) (v := (.int .i64 (x282.r))) rfl (fun _ H' => (e_load1 rfl (by kernel_rfl) (rows_cell (H'.at 13 rfl) rfl encSt_len h283 0 rfl (show 0 + ((j : Int)).toNat * 38 = j * 38 + 0 by omega) (by kernel_rfl)))) ?_
        refine q_val (wants0 rfl) (d := 145) (v := (.int .i64 ((K : Int)))) rfl (fun _ H' => (by kernel_rfl)) ?_
        refine q_val (wants0 rfl) (d := 146) (v := (.bool (decide (x282.r = (K : Int))))) rfl (fun _ H' => (by kernel_rfl)) ?_
        refine q_val (wants0 rfl) (d := 147) (v := (.bool (decide (x282.r = (K : Int))))) rfl (fun _ H' => (by kernel_rfl)) ?_
        have b284 : (decide (x282.r = (K : Int))) = false := by exact decide_eq_false (hI.stamp hN (List.mem_of_getElem? (by assumption))).2.2.1
        refine q_know 147 (.bool false) (congrArg Value.bool b284) ?_
        have g285 := of_decide_eq_false b284
        refine q_val (wantsY 8 147 false rfl (by kernel_rfl) rfl (by kernel_rfl)) (d := 148) (v := (.int .i64 ((j : Int)))) rfl (fun _ H' => (by kernel_rfl)) ?_
        refine q_val (wantsY 8 147 false rfl (by kernel_rfl) rfl (by kernel_rfl)) (d := 149) (v := (.bool (decide ((j : Int) > 0)))) rfl (fun _ H' => (by kernel_rfl)) ?_
        refine q_val (wantsY 8 147 false rfl (by kernel_rfl) rfl (by kernel_rfl)) (d := 150) (v := (.bool (decide ((j : Int) > 0)))) rfl (fun _ H' => (by kernel_rfl)) ?_
        refine (bsplit (decide ((j : Int) > 0))).elim (fun b286 => ?_) (fun b286 => ?_)
        · have g287 := of_decide_eq_true b286
          refine q_know 150 (.bool true) (congrArg Value.bool b286) ?_
          have g288 := of_decide_eq_true b286
          refine q_val (wantsY 11 150 true rfl (by kernel_rfl) rfl (by kernel_rfl)) (d := 151) (v := (.pointer (some ⟨b258, 37, none⟩))) rfl (fun _ H' => (by kernel_rfl)) ?_
          refine q_val (wantsY 11 150 true rfl (by kernel_rfl) rfl (by kernel_rfl)) (d := 152) (v := (.slice (some ⟨g251, 0, none⟩) Q c252)) rfl (fun _ H' => (e_load1 rfl (by kernel_rfl) (H'.cell 14 rfl (by kernel_rfl)))) ?_
          refine q_val (wantsY 11 150 true rfl (by kernel_rfl) rfl (by kernel_rfl)) (d := 153) (v := (.int .i64 ((j : Int)))) rfl (fun _ H' => (by kernel_rfl)) ?_
          refine q_val (wantsY 11 150 true rfl (by kernel_rfl) rfl (by kernel_rfl)) (d := 154) (v := (.pointer (some ⟨g251, 0 + ((j : Int)).toNat * 38, none⟩))) rfl (fun _ H' => (e_indexAddr (E := 49) (by kernel_rfl) (by kernel_rfl) (Nat.le_of_ble_eq_true rfl) rfl rfl (by omega) (by omega))) ?_
          refine q_val (wantsY 11 150 true rfl (by kernel_rfl) rfl (by kernel_rfl)) (d := 155) (v := (.pointer (some ⟨g251, 0 + ((j : Int)).toNat * 38, none⟩))) rfl (fun _ H' => (by kernel_rfl)) ?_
          refine q_val (wantsY 11 150 true rfl (by kernel_rfl) rfl (by kernel_rfl)) (d := 156) (v := (.int .i64 (x282.r))) rfl (fun _ H' => (e_load1 rfl (by kernel_rfl) (rows_cell (H'.at 13 rfl) rfl encSt_len h283 0 rfl (show 0 + ((j : Int)).toNat * 38 = j * 38 + 0 by omega) (by kernel_rfl)))) ?_
          refine q_val (wantsY 11 150 true rfl (by kernel_rfl) rfl (by kernel_rfl)) (d := 157) (v := (.pointer (some ⟨b258, 37, none⟩))) rfl (fun _ H' => (by kernel_rfl)) ?_
          refine q_val (wantsY 11 150 true rfl (by kernel_rfl) rfl (by kernel_rfl)) (d := 158) (v := (.slice (some ⟨g251, 0, none⟩) Q c252)) rfl (fun _ H' => (e_load1 rfl (by kernel_rfl) (H'.cell 14 rfl (by kernel_rfl)))) ?_
          refine q_val (wantsY 11 150 true rfl (by kernel_rfl) rfl (by kernel_rfl)) (d := 159) (v := (.int .i64 ((j : Int)))) rfl (fun _ H' => (by kernel_rfl)) ?_
          refine q_val (wantsY 11 150 true rfl (by kernel_rfl) rfl (by kernel_rfl)) (d := 160) (v := (.int .i64 ((j : Int) - 1))) rfl (fun _ H' => (e_int (z := (j : Int) - 1) (by kernel_rfl) (IntWalk.i64_in _ (by omega)))) ?_
          obtain ⟨x289, h290⟩ := get_at (show (j - 1) < (refS Y65 D N).length by omega)
          refine q_val (wantsY 11 150 true rfl (by kernel_rfl) rfl (by kernel_rfl)) (d := 161) (v := (.pointer (some ⟨g251, 0 + (((j : Int) - 1)).toNat * 38, none⟩))) rfl (fun _ H' => (e_indexAddr (E := 49) (by kernel_rfl) (by kernel_rfl) (Nat.le_of_ble_eq_true rfl) rfl rfl (by omega) (by omega))) ?_
          refine q_val (wantsY 11 150 true rfl (by kernel_rfl) rfl (by kernel_rfl)) (d := 162) (v := (.pointer (some ⟨g251, 0 + (((j : Int) - 1)).toNat * 38, none⟩))) rfl (fun _ H' => (by kernel_rfl)) ?_
          refine q_val (wantsY 11 150 true rfl (by kernel_rfl) rfl (by kernel_rfl)) (d := 163) (v := (.int .i64 (x289.r))) rfl (fun _ H' => (e_load1 rfl (by kernel_rfl) (rows_cell (H'.at 13 rfl) rfl encSt_len h290 0 rfl (show 0 + (((j : Int) - 1)).toNat * 38 = (j - 1) * 38 + 0 by omega) (by kernel_rfl)))) ?_
          refine q_val (wantsY 11 150 true rfl (by kernel_rfl) rfl (by kernel_rfl)) (d := 164) (v := (.bool (decide (x282.r ≤ x289.r)))) rfl (fun _ H' => (by kernel_rfl)) ?_
          refine q_val (wantsY 8 147 false rfl (by kernel_rfl) rfl (by kernel_rfl)) (d := 165) (v := (.bool (decide (x282.r ≤ x289.r)))) rfl (fun _ H' => (by kernel_rfl)) ?_
          refine q_val (wants0 rfl) (d := 166) (v := (.bool (decide (x282.r ≤ x289.r)))) rfl (fun _ H' => (by kernel_rfl)) ?_
          refine q_end ?_
          intro w291 H292
          refine then_normal ?_
          have b293 : (decide (x282.r ≤ x289.r)) = false := by exact decide_eq_false (by have q := rise_at h290 h283 (by omega); omega)
          refine wp_know 166 (.bool false) (congrArg Value.bool b293) ?_
          have g294 := of_decide_eq_false b293
          refine wp_iff rfl ?_
          refine w_skip ?_
          refine blk_normal ?_
          refine then_normal ?_
          refine w_lit ?_
          refine wl_pure (wants0 rfl) (d := 167) (v := (.int .i64 ((j : Int) + 1))) rfl (e_int (z := (j : Int) + 1) (by kernel_rfl) (IntWalk.i64_in _ (by omega))) ?_
          refine wl_pure (wants0 rfl) (d := 136) (v := (.int .i64 ((j : Int) + 1))) rfl (by kernel_rfl) ?_
          refine w_nil ?_
          refine round_back ?_ _ ⟨(j + 1), (show ((.int .i64 ((j : Int) + 1)) : Value) = _ by first | rfl | go_num), (by omega), H292, rfl⟩ (by omega)
          exact (same_upd rfl (same_upd rfl (same_upd rfl (same_upd rfl (same_upd rfl (same_upd rfl (same_upd rfl (same_upd rfl (same_upd rfl (same_upd rfl (same_upd rfl (same_upd rfl (same_upd rfl (same_upd rfl (same_upd rfl (same_upd rfl (same_upd rfl (same_upd rfl (same_upd rfl (same_upd rfl (same_upd rfl (same_upd rfl (same_upd rfl (same_upd rfl (same_upd rfl (same_upd rfl (same_upd rfl (same_upd rfl (same_upd rfl (same_upd rfl (same_upd rfl (same_upd rfl (same_upd rfl (same_upd rfl (same_upd rfl (same_upd rfl (same_upd rfl (same_upd rfl (same_ovr)))))))))))))))))))))))))))))))))))))))
        · have g295 := of_decide_eq_false b286
          refine q_know 150 (.bool false) (congrArg Value.bool b286) ?_
          have g296 := of_decide_eq_false b286
          refine q_pass (wantsN 11 150 true rfl (by kernel_rfl) rfl (by kernel_rfl)) rfl ?_
          refine q_pass (wantsN 11 150 true rfl (by kernel_rfl) rfl (by kernel_rfl)) rfl ?_
          refine q_pass (wantsN 11 150 true rfl (by kernel_rfl) rfl (by kernel_rfl)) rfl ?_
          refine q_pass (wantsN 11 150 true rfl (by kernel_rfl) rfl (by kernel_rfl)) rfl ?_
          refine q_pass (wantsN 11 150 true rfl (by kernel_rfl) rfl (by kernel_rfl)) rfl ?_
          refine q_pass (wantsN 11 150 true rfl (by kernel_rfl) rfl (by kernel_rfl)) rfl ?_
          refine q_pass (wantsN 11 150 true rfl (by kernel_rfl) rfl (by kernel_rfl)) rfl ?_
          refine q_pass (wantsN 11 150 true rfl (by kernel_rfl) rfl (by kernel_rfl)) rfl ?_
          refine q_pass (wantsN 11 150 true rfl (by kernel_rfl) rfl (by kernel_rfl)) rfl ?_
          refine q_pass (wantsN 11 150 true rfl (by kernel_rfl) rfl (by kernel_rfl)) rfl ?_
          refine q_pass (wantsN 11 150 true rfl (by kernel_rfl) rfl (by kernel_rfl)) rfl ?_
          refine q_pass (wantsN 11 150 true rfl (by kernel_rfl) rfl (by kernel_rfl)) rfl ?_
          refine q_pass (wantsN 11 150 true rfl (by kernel_rfl) rfl (by kernel_rfl)) rfl ?_
          refine q_pass (wantsN 11 150 true rfl (by kernel_rfl) rfl (by kernel_rfl)) rfl ?_
          refine q_val (wantsY 8 147 false rfl (by kernel_rfl) rfl (by kernel_rfl)) (d := 165) (v := (.bool false)) rfl (fun _ H' => (by kernel_rfl)) ?_
          refine q_val (wants0 rfl) (d := 166) (v := (.bool false)) rfl (fun _ H' => (by kernel_rfl)) ?_
          refine q_end ?_
          intro w297 H298
          refine then_normal ?_
          refine wp_iff rfl ?_
          refine w_skip ?_
          refine blk_normal ?_
          refine then_normal ?_
          refine w_lit ?_
          refine wl_pure (wants0 rfl) (d := 167) (v := (.int .i64 ((j : Int) + 1))) rfl (e_int (z := (j : Int) + 1) (by kernel_rfl) (IntWalk.i64_in _ (by omega))) ?_
          refine wl_pure (wants0 rfl) (d := 136) (v := (.int .i64 ((j : Int) + 1))) rfl (by kernel_rfl) ?_
          refine w_nil ?_
          refine round_back ?_ _ ⟨(j + 1), (show ((.int .i64 ((j : Int) + 1)) : Value) = _ by first | rfl | go_num), (by omega), H298, rfl⟩ (by omega)
          exact (same_upd rfl (same_upd rfl (same_upd rfl (same_upd rfl (same_upd rfl (same_upd rfl (same_upd rfl (same_upd rfl (same_upd rfl (same_upd rfl (same_upd rfl (same_upd rfl (same_upd rfl (same_upd rfl (same_upd rfl (same_upd rfl (same_upd rfl (same_upd rfl (same_upd rfl (same_upd rfl (same_upd rfl (same_upd rfl (same_upd rfl (same_upd rfl (same_upd rfl (same_upd rfl (same_upd rfl (same_upd rfl (same_upd rfl (same_upd rfl (same_upd rfl (same_upd rfl (same_upd rfl (same_upd rfl (same_upd rfl (same_upd rfl (same_upd rfl (same_ovr))))))))))))))))))))))))))))))))))))))
      · have g299 := of_decide_eq_false b279
        refine wp_know 137 (.bool false) (congrArg Value.bool b279) ?_
        have g300 := of_decide_eq_false b279
        refine wp_iff rfl ?_
        refine w_exit ?_
        refine then_exit ?_
        refine back_exit ?_
        refine blk_hit ?_
        refine then_normal ?_
        refine w_seq ?_
        have hS2 : (refS Y65 (((refS Y65 D N).take Q).drop 1) N).length < Q := by have q := short_ref (F := F) (x := Y65) (S := ((refS Y65 D N).take Q).drop 1) hN; rw [List.length_drop] at q; omega
        refine h_start H276 [restC w (fun _ => False), cellC b2 38 ([(.int .i64 (withinV nc 3)), (.int .i64 (1 + (withinV ns 9)))] : List Value), cellC b10 36 ([(.int .i64 (F)), (.int .i64 (3))] : List Value), cellC b20 107 ([(.map (some m21))] : List Value), mapC m21 signedV (Value.int .i64) (marks L), cellC r22 88 ([(.slice ra L.length rc)] : List Value), rowC 120 2 (.slice ra L.length rc) L.length (L.flatMap encS), cellC b30 54 ([(.pointer (some ⟨b20, 0, none⟩)), (.pointer (some ⟨r22, 0, none⟩))] : List Value), rowC 5 1 (.slice (some ⟨b56, 0, none⟩) 1 1) 1 (([1] : List UInt8).flatMap encB), cellC b69 44 (([(.int .i64 (Y65.cl)), (.int .i64 (Y65.seq))] : List Value) ++ hc Y65.h ++ ([(.int .i64 (Y65.len)), (.int .i64 (Y65.sb)), (.int .i64 (Y65.sm))] : List Value)), rowC 5 1 (.slice (some ⟨b77, 0, none⟩) 1 1) 1 (([1] : List UInt8).flatMap encB), cellC b90 44 (([(.int .i64 (Y86.cl)), (.int .i64 (Y86.seq))] : List Value) ++ hc Y86.h ++ ([(.int .i64 (Y86.len)), (.int .i64 (Y86.sb)), (.int .i64 (Y86.sm))] : List Value)), rowC 49 38 (.slice a D.length c) D.length (D.flatMap encSt), rowC 49 38 (.slice (some ⟨g251, 0, none⟩) ((refS Y65 D N).length) c252) ((refS Y65 D N).length) ((refS Y65 D N).flatMap encSt), cellC b258 47 (([(.int .i64 (Y65.cl)), (.int .i64 (Y65.seq))] : List Value) ++ hc Y65.h ++ ([(.int .i64 (Y65.len)), (.int .i64 (Y65.sb)), (.int .i64 (Y65.sm)), (.slice (some ⟨g251, 0, none⟩) Q c252)] : List Value))] 12 rfl (by kernel_rfl) (fun Hx => (Hx.pick [0, 1, 2, 3, 4, 5, 6, 7, 8, 9, 10, 11, 12, 13, 14] (by decide))) ?_
        intro w301 H302 S303
        refine h_val 0 rfl (by kernel_rfl) (by kernel_rfl) (by kernel_rfl) (fun _ _ _ h => h) S303 (wants0 rfl) (d := 169) (v := (.agg ⟨([(.int .i64 (F)), (.int .i64 (3))] : List Value)⟩)) rfl (fun _ H' => (e_loadN (vs := ([(.int .i64 (F)), (.int .i64 (3))] : List Value)) rfl (by kernel_rfl) (by kernel_rfl) (by exact Nat.le_of_ble_eq_true (by kernel_rfl)) (H'.at 2 rfl) (by kernel_rfl))) ?_
        refine h_val 1 rfl (by kernel_rfl) (by kernel_rfl) (by kernel_rfl) (fun _ _ _ h => h) S303 (wants0 rfl) (d := 170) (v := (.agg ⟨(([(.int .i64 (Y65.cl)), (.int .i64 (Y65.seq))] : List Value) ++ hc Y65.h ++ ([(.int .i64 (Y65.len)), (.int .i64 (Y65.sb)), (.int .i64 (Y65.sm))] : List Value))⟩)) rfl (fun _ H' => (e_loadN (vs := (([(.int .i64 (Y65.cl)), (.int .i64 (Y65.seq))] : List Value) ++ hc Y65.h ++ ([(.int .i64 (Y65.len)), (.int .i64 (Y65.sb)), (.int .i64 (Y65.sm))] : List Value))) rfl (by kernel_rfl) (by kernel_rfl) (by exact Nat.le_of_ble_eq_true (by kernel_rfl)) (H'.at 9 rfl) (by kernel_rfl))) ?_
        refine h_val 2 rfl (by kernel_rfl) (by kernel_rfl) (by kernel_rfl) (fun _ _ _ h => h) S303 (wants0 rfl) (d := 171) (v := (.pointer (some ⟨b258, 37, none⟩))) rfl (fun _ H' => (by kernel_rfl)) ?_
        refine h_val 3 rfl (by kernel_rfl) (by kernel_rfl) (by kernel_rfl) (fun _ _ _ h => h) S303 (wants0 rfl) (d := 172) (v := (.slice (some ⟨g251, 0, none⟩) Q c252)) rfl (fun _ H' => (e_load1 rfl (by kernel_rfl) (H'.cell 14 rfl (by kernel_rfl)))) ?_
        refine h_val 4 rfl (by kernel_rfl) (by kernel_rfl) (by kernel_rfl) (fun _ _ _ h => h) S303 (wants0 rfl) (d := 173) (v := (.slice (some (if c252 = 1 then ⟨g251, 0, none⟩ else ⟨g251, 0 + 1 * 38, none⟩)) (Q - 1) (c252 - 1))) rfl (fun _ H' => (e_sliceLo (E := 49) (q := 1) (by kernel_rfl) (by kernel_rfl) rfl rfl (by omega) (by omega))) ?_
        refine h_do2 5 9 rfl rfl (by kernel_rfl) (wants0 rfl) (wants0 rfl) (fun K304 hK304 => ?_) (fun K304 hK304 => ?_)
        · refine d_call (d := 174) rfl (by kernel_rfl) (wMakeG_at w301 F 3 Y65 N Q hN hQ (by omega) (.slice (some (if c252 = 1 then ⟨g251, 0, none⟩ else ⟨g251, 0 + 1 * 38, none⟩)) (Q - 1) (c252 - 1)) (((refS Y65 D N).take Q).drop 1) (ListAt.drop (ListAt.takeN (ListAt.row (enc := encSt) (sz := 38) encSt_len (by decide) (H302.at 13 rfl)) (by omega)) (by omega)) (by rw [List.length_drop]; omega) (by have q := outS_len F Y65 (((refS Y65 D N).take Q).drop 1); rw [List.length_drop] at q; omega)) ?_
          rintro _ w305 (⟨rfl, l307, u311⟩ | ⟨g308, c309, rfl, l307, k310, u311, q312⟩)
          · have H313 := H302.keepU u311
            refine ⟨_, rfl, ?_⟩
            have S314 := H313.pick [0, 1, 2, 3, 4, 5, 6, 7, 8, 9, 10, 11, 12, 13, 14] (by decide)
            refine hK304 _ _ S314 ?_
            clear hK304 K304
            refine h_val 6 rfl (by kernel_rfl) (by kernel_rfl) (by kernel_rfl) (fun _ _ _ h => h) S314 (wants0 rfl) (d := 168) (v := (.tuple #[(.agg ⟨(([(.int .i64 (0)), (.int .i64 (0))] : List Value) ++ hc hash0 ++ ([(.int .i64 (0)), (.int .i64 (0)), (.int .i64 (0)), (.slice none 0 0)] : List Value))⟩), (.int .i64 (8))])) rfl (fun _ H' => (by kernel_rfl)) ?_
            refine h_val 7 rfl (by kernel_rfl) (by kernel_rfl) (by kernel_rfl) (fun _ _ _ h => h) S314 (wants0 rfl) (d := 175) (v := (.agg ⟨(([(.int .i64 (0)), (.int .i64 (0))] : List Value) ++ hc hash0 ++ ([(.int .i64 (0)), (.int .i64 (0)), (.int .i64 (0)), (.slice none 0 0)] : List Value))⟩)) rfl (fun _ H' => (by kernel_rfl)) ?_
            refine h_val 8 rfl (by kernel_rfl) (by kernel_rfl) (by kernel_rfl) (fun _ _ _ h => h) S314 (wants0 rfl) (d := 176) (v := (.int .i64 (8))) rfl (fun _ H' => (by kernel_rfl)) ?_
            refine h_do 9 rfl (by kernel_rfl) (wants0 rfl) (fun K315 hK315 => ?_)
            refine d_alloc (zs := (([(.int .i64 (0)), (.int .i64 (0))] : List Value) ++ hc hash0 ++ ([(.int .i64 (0)), (.int .i64 (0)), (.int .i64 (0)), (.slice none 0 0)] : List Value))) (z := (.agg ⟨(([(.int .i64 (0)), (.int .i64 (0))] : List Value) ++ hc hash0 ++ ([(.int .i64 (0)), (.int .i64 (0)), (.int .i64 (0)), (.slice none 0 0)] : List Value))⟩)) rfl H313 (by kernel_rfl) (by kernel_rfl) ?_
            intro b316 w317 (H318 : Sat w [restC w (fun _ => False), cellC b2 38 ([(.int .i64 (withinV nc 3)), (.int .i64 (1 + (withinV ns 9)))] : List Value), cellC b10 36 ([(.int .i64 (F)), (.int .i64 (3))] : List Value), cellC b20 107 ([(.map (some m21))] : List Value), mapC m21 signedV (Value.int .i64) (marks L), cellC r22 88 ([(.slice ra L.length rc)] : List Value), rowC 120 2 (.slice ra L.length rc) L.length (L.flatMap encS), cellC b30 54 ([(.pointer (some ⟨b20, 0, none⟩)), (.pointer (some ⟨r22, 0, none⟩))] : List Value), rowC 5 1 (.slice (some ⟨b56, 0, none⟩) 1 1) 1 (([1] : List UInt8).flatMap encB), cellC b69 44 (([(.int .i64 (Y65.cl)), (.int .i64 (Y65.seq))] : List Value) ++ hc Y65.h ++ ([(.int .i64 (Y65.len)), (.int .i64 (Y65.sb)), (.int .i64 (Y65.sm))] : List Value)), rowC 5 1 (.slice (some ⟨b77, 0, none⟩) 1 1) 1 (([1] : List UInt8).flatMap encB), cellC b90 44 (([(.int .i64 (Y86.cl)), (.int .i64 (Y86.seq))] : List Value) ++ hc Y86.h ++ ([(.int .i64 (Y86.len)), (.int .i64 (Y86.sb)), (.int .i64 (Y86.sm))] : List Value)), rowC 49 38 (.slice a D.length c) D.length (D.flatMap encSt), rowC 49 38 (.slice (some ⟨g251, 0, none⟩) ((refS Y65 D N).length) c252) ((refS Y65 D N).length) ((refS Y65 D N).flatMap encSt), cellC b258 47 (([(.int .i64 (Y65.cl)), (.int .i64 (Y65.seq))] : List Value) ++ hc Y65.h ++ ([(.int .i64 (Y65.len)), (.int .i64 (Y65.sb)), (.int .i64 (Y65.sm)), (.slice (some ⟨g251, 0, none⟩) Q c252)] : List Value)), cellC b316 47 (([(.int .i64 (0)), (.int .i64 (0))] : List Value) ++ hc hash0 ++ ([(.int .i64 (0)), (.int .i64 (0)), (.int .i64 (0)), (.slice none 0 0)] : List Value))] w317)
            have S319 := H318.pick [0, 1, 2, 3, 4, 5, 6, 7, 8, 9, 10, 11, 12, 13, 14] (by decide)
            refine hK315 _ _ S319 ?_
            clear hK315 K315
            refine h_do 10 rfl (by kernel_rfl) (wants0 rfl) (fun K320 hK320 => ?_)
            refine d_storeX (vs := (([(.int .i64 (0)), (.int .i64 (0))] : List Value) ++ hc hash0 ++ ([(.int .i64 (0)), (.int .i64 (0)), (.int .i64 (0)), (.slice none 0 0)] : List Value))) (cs' := (([(.int .i64 (0)), (.int .i64 (0))] : List Value) ++ hc hash0 ++ ([(.int .i64 (0)), (.int .i64 (0)), (.int .i64 (0)), (.slice none 0 0)] : List Value))) rfl H318 15 rfl rfl rfl rfl (by kernel_rfl) (Nat.le_of_ble_eq_true (by kernel_rfl)) (Nat.le_of_ble_eq_true (by kernel_rfl)) (by kernel_rfl) (by kernel_rfl) ?_
            intro w321 (H322 : Sat w [restC w (fun _ => False), cellC b2 38 ([(.int .i64 (withinV nc 3)), (.int .i64 (1 + (withinV ns 9)))] : List Value), cellC b10 36 ([(.int .i64 (F)), (.int .i64 (3))] : List Value), cellC b20 107 ([(.map (some m21))] : List Value), mapC m21 signedV (Value.int .i64) (marks L), cellC r22 88 ([(.slice ra L.length rc)] : List Value), rowC 120 2 (.slice ra L.length rc) L.length (L.flatMap encS), cellC b30 54 ([(.pointer (some ⟨b20, 0, none⟩)), (.pointer (some ⟨r22, 0, none⟩))] : List Value), rowC 5 1 (.slice (some ⟨b56, 0, none⟩) 1 1) 1 (([1] : List UInt8).flatMap encB), cellC b69 44 (([(.int .i64 (Y65.cl)), (.int .i64 (Y65.seq))] : List Value) ++ hc Y65.h ++ ([(.int .i64 (Y65.len)), (.int .i64 (Y65.sb)), (.int .i64 (Y65.sm))] : List Value)), rowC 5 1 (.slice (some ⟨b77, 0, none⟩) 1 1) 1 (([1] : List UInt8).flatMap encB), cellC b90 44 (([(.int .i64 (Y86.cl)), (.int .i64 (Y86.seq))] : List Value) ++ hc Y86.h ++ ([(.int .i64 (Y86.len)), (.int .i64 (Y86.sb)), (.int .i64 (Y86.sm))] : List Value)), rowC 49 38 (.slice a D.length c) D.length (D.flatMap encSt), rowC 49 38 (.slice (some ⟨g251, 0, none⟩) ((refS Y65 D N).length) c252) ((refS Y65 D N).length) ((refS Y65 D N).flatMap encSt), cellC b258 47 (([(.int .i64 (Y65.cl)), (.int .i64 (Y65.seq))] : List Value) ++ hc Y65.h ++ ([(.int .i64 (Y65.len)), (.int .i64 (Y65.sb)), (.int .i64 (Y65.sm)), (.slice (some ⟨g251, 0, none⟩) Q c252)] : List Value)), cellC b316 47 (([(.int .i64 (0)), (.int .i64 (0))] : List Value) ++ hc hash0 ++ ([(.int .i64 (0)), (.int .i64 (0)), (.int .i64 (0)), (.slice none 0 0)] : List Value))] w321)
            have S324 := H322.pick [0, 1, 2, 3, 4, 5, 6, 7, 8, 9, 10, 11, 12, 13, 14] (by decide)
            refine hK320 _ _ S324 ?_
            clear hK320 K320
            refine h_val 11 rfl (by kernel_rfl) (by kernel_rfl) (by kernel_rfl) (fun _ _ _ h => h) S324 (wants0 rfl) (d := 22) (v := (.int .i64 (8))) rfl (fun _ H' => (by kernel_rfl)) ?_
            refine h_fin (by kernel_rfl) ?_
            refine then_normal ?_
            refine w_seq ?_
            refine w_lit ?_
            refine wl_pure (wants0 rfl) (d := 177) (v := (.int .i64 (8))) rfl (by kernel_rfl) ?_
            refine wl_pure (wants0 rfl) (d := 178) (v := (.bool true)) rfl (by kernel_rfl) ?_
            refine wl_pure (wants0 rfl) (d := 179) (v := (.bool true)) rfl (by kernel_rfl) ?_
            refine wl_do (wantsY 2 179 true rfl (by kernel_rfl) rfl (by kernel_rfl)) (fun K325 hK325 => ?_)
            refine d_call (d := 180) rfl (by kernel_rfl) (wakes_any w321) ?_
            rintro _ w326 ⟨rfl, u328⟩
            have H327 := H322.keepU u328
            refine ⟨_, rfl, ?_⟩
            refine hK325 _ _ ?_
            clear hK325 K325
            refine wl_pure (wants0 rfl) (d := 181) (v := (.bool true)) rfl (by kernel_rfl) ?_
            refine wl_pure (wants0 rfl) (d := 8) (v := (.bool true)) rfl (by kernel_rfl) ?_
            refine w_nil ?_
            refine then_normal ?_
            refine w_ret ?_
            refine end1 rfl (res_tmp (v := (.bool true)) rfl) ?_
            exact ⟨rfl, H327.upd 0 rfl [] (fun _ h => h.elim)⟩
          · exact (by omega : False).elim
        · refine d_alloc (zs := (([(.int .i64 (0)), (.int .i64 (0))] : List Value) ++ hc hash0 ++ ([(.int .i64 (0)), (.int .i64 (0)), (.int .i64 (0)), (.slice none 0 0)] : List Value))) (z := (.agg ⟨(([(.int .i64 (0)), (.int .i64 (0))] : List Value) ++ hc hash0 ++ ([(.int .i64 (0)), (.int .i64 (0)), (.int .i64 (0)), (.slice none 0 0)] : List Value))⟩)) rfl H302 (by kernel_rfl) (by kernel_rfl) ?_
          intro b329 w330 (H331 : Sat w [restC w (fun _ => False), cellC b2 38 ([(.int .i64 (withinV nc 3)), (.int .i64 (1 + (withinV ns 9)))] : List Value), cellC b10 36 ([(.int .i64 (F)), (.int .i64 (3))] : List Value), cellC b20 107 ([(.map (some m21))] : List Value), mapC m21 signedV (Value.int .i64) (marks L), cellC r22 88 ([(.slice ra L.length rc)] : List Value), rowC 120 2 (.slice ra L.length rc) L.length (L.flatMap encS), cellC b30 54 ([(.pointer (some ⟨b20, 0, none⟩)), (.pointer (some ⟨r22, 0, none⟩))] : List Value), rowC 5 1 (.slice (some ⟨b56, 0, none⟩) 1 1) 1 (([1] : List UInt8).flatMap encB), cellC b69 44 (([(.int .i64 (Y65.cl)), (.int .i64 (Y65.seq))] : List Value) ++ hc Y65.h ++ ([(.int .i64 (Y65.len)), (.int .i64 (Y65.sb)), (.int .i64 (Y65.sm))] : List Value)), rowC 5 1 (.slice (some ⟨b77, 0, none⟩) 1 1) 1 (([1] : List UInt8).flatMap encB), cellC b90 44 (([(.int .i64 (Y86.cl)), (.int .i64 (Y86.seq))] : List Value) ++ hc Y86.h ++ ([(.int .i64 (Y86.len)), (.int .i64 (Y86.sb)), (.int .i64 (Y86.sm))] : List Value)), rowC 49 38 (.slice a D.length c) D.length (D.flatMap encSt), rowC 49 38 (.slice (some ⟨g251, 0, none⟩) ((refS Y65 D N).length) c252) ((refS Y65 D N).length) ((refS Y65 D N).flatMap encSt), cellC b258 47 (([(.int .i64 (Y65.cl)), (.int .i64 (Y65.seq))] : List Value) ++ hc Y65.h ++ ([(.int .i64 (Y65.len)), (.int .i64 (Y65.sb)), (.int .i64 (Y65.sm)), (.slice (some ⟨g251, 0, none⟩) Q c252)] : List Value)), cellC b329 47 (([(.int .i64 (0)), (.int .i64 (0))] : List Value) ++ hc hash0 ++ ([(.int .i64 (0)), (.int .i64 (0)), (.int .i64 (0)), (.slice none 0 0)] : List Value))] w330)
          have S332 := H331.pick [0, 1, 2, 3, 4, 5, 6, 7, 8, 9, 10, 11, 12, 13, 14] (by decide)
          refine hK304 _ _ S332 ?_
          clear hK304 K304
          refine h_do 5 rfl (by kernel_rfl) (wants0 rfl) (fun K333 hK333 => ?_)
          refine d_call (d := 174) rfl (by kernel_rfl) (wMakeG_at w330 F 3 Y65 N Q hN hQ (by omega) (.slice (some (if c252 = 1 then ⟨g251, 0, none⟩ else ⟨g251, 0 + 1 * 38, none⟩)) (Q - 1) (c252 - 1)) (((refS Y65 D N).take Q).drop 1) (ListAt.drop (ListAt.takeN (ListAt.row (enc := encSt) (sz := 38) encSt_len (by decide) (H331.at 13 rfl)) (by omega)) (by omega)) (by rw [List.length_drop]; omega) (by have q := outS_len F Y65 (((refS Y65 D N).take Q).drop 1); rw [List.length_drop] at q; omega)) ?_
          rintro _ w334 (⟨rfl, l336, u340⟩ | ⟨g337, c338, rfl, l336, k339, u340, q341⟩)
          · have H342 := H331.keepU u340
            refine ⟨_, rfl, ?_⟩
            have S343 := H342.pick [0, 1, 2, 3, 4, 5, 6, 7, 8, 9, 10, 11, 12, 13, 14] (by decide)
            refine hK333 _ _ S343 ?_
            clear hK333 K333
            refine h_val 6 rfl (by kernel_rfl) (by kernel_rfl) (by kernel_rfl) (fun _ _ _ h => h) S343 (wants0 rfl) (d := 168) (v := (.tuple #[(.agg ⟨(([(.int .i64 (0)), (.int .i64 (0))] : List Value) ++ hc hash0 ++ ([(.int .i64 (0)), (.int .i64 (0)), (.int .i64 (0)), (.slice none 0 0)] : List Value))⟩), (.int .i64 (8))])) rfl (fun _ H' => (by kernel_rfl)) ?_
            refine h_val 7 rfl (by kernel_rfl) (by kernel_rfl) (by kernel_rfl) (fun _ _ _ h => h) S343 (wants0 rfl) (d := 175) (v := (.agg ⟨(([(.int .i64 (0)), (.int .i64 (0))] : List Value) ++ hc hash0 ++ ([(.int .i64 (0)), (.int .i64 (0)), (.int .i64 (0)), (.slice none 0 0)] : List Value))⟩)) rfl (fun _ H' => (by kernel_rfl)) ?_
            refine h_val 8 rfl (by kernel_rfl) (by kernel_rfl) (by kernel_rfl) (fun _ _ _ h => h) S343 (wants0 rfl) (d := 176) (v := (.int .i64 (8))) rfl (fun _ H' => (by kernel_rfl)) ?_
            refine h_do 10 rfl (by kernel_rfl) (wants0 rfl) (fun K344 hK344 => ?_)
            refine d_storeX (vs := (([(.int .i64 (0)), (.int .i64 (0))] : List Value) ++ hc hash0 ++ ([(.int .i64 (0)), (.int .i64 (0)), (.int .i64 (0)), (.slice none 0 0)] : List Value))) (cs' := (([(.int .i64 (0)), (.int .i64 (0))] : List Value) ++ hc hash0 ++ ([(.int .i64 (0)), (.int .i64 (0)), (.int .i64 (0)), (.slice none 0 0)] : List Value))) rfl H342 15 rfl rfl rfl rfl (by kernel_rfl) (Nat.le_of_ble_eq_true (by kernel_rfl)) (Nat.le_of_ble_eq_true (by kernel_rfl)) (by kernel_rfl) (by kernel_rfl) ?_
            intro w345 (H346 : Sat w [restC w (fun _ => False), cellC b2 38 ([(.int .i64 (withinV nc 3)), (.int .i64 (1 + (withinV ns 9)))] : List Value), cellC b10 36 ([(.int .i64 (F)), (.int .i64 (3))] : List Value), cellC b20 107 ([(.map (some m21))] : List Value), mapC m21 signedV (Value.int .i64) (marks L), cellC r22 88 ([(.slice ra L.length rc)] : List Value), rowC 120 2 (.slice ra L.length rc) L.length (L.flatMap encS), cellC b30 54 ([(.pointer (some ⟨b20, 0, none⟩)), (.pointer (some ⟨r22, 0, none⟩))] : List Value), rowC 5 1 (.slice (some ⟨b56, 0, none⟩) 1 1) 1 (([1] : List UInt8).flatMap encB), cellC b69 44 (([(.int .i64 (Y65.cl)), (.int .i64 (Y65.seq))] : List Value) ++ hc Y65.h ++ ([(.int .i64 (Y65.len)), (.int .i64 (Y65.sb)), (.int .i64 (Y65.sm))] : List Value)), rowC 5 1 (.slice (some ⟨b77, 0, none⟩) 1 1) 1 (([1] : List UInt8).flatMap encB), cellC b90 44 (([(.int .i64 (Y86.cl)), (.int .i64 (Y86.seq))] : List Value) ++ hc Y86.h ++ ([(.int .i64 (Y86.len)), (.int .i64 (Y86.sb)), (.int .i64 (Y86.sm))] : List Value)), rowC 49 38 (.slice a D.length c) D.length (D.flatMap encSt), rowC 49 38 (.slice (some ⟨g251, 0, none⟩) ((refS Y65 D N).length) c252) ((refS Y65 D N).length) ((refS Y65 D N).flatMap encSt), cellC b258 47 (([(.int .i64 (Y65.cl)), (.int .i64 (Y65.seq))] : List Value) ++ hc Y65.h ++ ([(.int .i64 (Y65.len)), (.int .i64 (Y65.sb)), (.int .i64 (Y65.sm)), (.slice (some ⟨g251, 0, none⟩) Q c252)] : List Value)), cellC b329 47 (([(.int .i64 (0)), (.int .i64 (0))] : List Value) ++ hc hash0 ++ ([(.int .i64 (0)), (.int .i64 (0)), (.int .i64 (0)), (.slice none 0 0)] : List Value))] w345)
            have S348 := H346.pick [0, 1, 2, 3, 4, 5, 6, 7, 8, 9, 10, 11, 12, 13, 14] (by decide)
            refine hK344 _ _ S348 ?_
            clear hK344 K344
            refine h_val 11 rfl (by kernel_rfl) (by kernel_rfl) (by kernel_rfl) (fun _ _ _ h => h) S348 (wants0 rfl) (d := 22) (v := (.int .i64 (8))) rfl (fun _ H' => (by kernel_rfl)) ?_
            refine h_fin (by kernel_rfl) ?_
            refine then_normal ?_
            refine w_seq ?_
            refine w_lit ?_
            refine wl_pure (wants0 rfl) (d := 177) (v := (.int .i64 (8))) rfl (by kernel_rfl) ?_
            refine wl_pure (wants0 rfl) (d := 178) (v := (.bool true)) rfl (by kernel_rfl) ?_
            refine wl_pure (wants0 rfl) (d := 179) (v := (.bool true)) rfl (by kernel_rfl) ?_
            refine wl_do (wantsY 2 179 true rfl (by kernel_rfl) rfl (by kernel_rfl)) (fun K349 hK349 => ?_)
            refine d_call (d := 180) rfl (by kernel_rfl) (wakes_any w345) ?_
            rintro _ w350 ⟨rfl, u352⟩
            have H351 := H346.keepU u352
            refine ⟨_, rfl, ?_⟩
            refine hK349 _ _ ?_
            clear hK349 K349
            refine wl_pure (wants0 rfl) (d := 181) (v := (.bool true)) rfl (by kernel_rfl) ?_
            refine wl_pure (wants0 rfl) (d := 8) (v := (.bool true)) rfl (by kernel_rfl) ?_
            refine w_nil ?_
            refine then_normal ?_
            refine w_ret ?_
            refine end1 rfl (res_tmp (v := (.bool true)) rfl) ?_
            exact ⟨rfl, H351.upd 0 rfl [] (fun _ h => h.elim)⟩
          · exact (by omega : False).elim

end Go.Proofs.Ytbpeofcoceaahaa
