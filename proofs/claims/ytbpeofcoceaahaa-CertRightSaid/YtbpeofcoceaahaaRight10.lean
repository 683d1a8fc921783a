/- WHAT IS PROVED: the walk of CertRight. Conditions: stated with each. -/
import Derived.Test.YtbpeofcoceaahaaShort
import Derived.Test.YtbpeofcoceaahaaCert10
import Derived.Test.YtbpeofcoceaahaaKp10
import Derived.Test.YtbpeofcoceaahaaRg2w
import Derived.Test.YtbpeofcoceaahaaRg3w
namespace Go.Proofs.Ytbpeofcoceaahaa
open Go.RowKit

theorem wRightX_at (w : World) (f cn : Int) (hf : -1099511627776 ≤ f ∧ f ≤ 1099511627776) (b mb : Nat) (L : List Signed) (hb : (cellC b 107 [.map (some mb)]).ok w) (hm : MapAt w mb signedV (Value.int .i64) (marks L)) (x : CommitD) (hx : CoOk x) (v : Value) (S : List StampD) (hS : ListAt encSt 38 w v S) (hok : StsOk S) (hlS : S.length ≤ 1000000) :
  Calls Try.prog 20 #[.agg ⟨[.int .i64 f, .int .i64 cn]⟩, .pointer (some ⟨b, 0, none⟩), .agg ⟨encCo x ++ [v]⟩] w fun e w' => e = .returned (.bool (rightX f cn L x S)) ∧ Upd [] w w' := by
 obtain ⟨a, c, rfl⟩ := SliceOf.len hS
 exact wRightX_any w f cn hf b mb L hb hm x hx a c S hS hok hlS

theorem rRightX_at (w : World) (f cn : Int) (hf : -1099511627776 ≤ f ∧ f ≤ 1099511627776) (r : Nat) (ra : Option Addr) (rc : Nat) (L : List Signed) (hb : (cellC r 88 [.slice ra L.length rc]).ok w) (hr : (rowC 120 2 (.slice ra L.length rc) L.length (L.flatMap encS)).ok w) (hn : L.Nodup) (hL : L.length ≤ 1000000) (x : CommitD) (hx : CoOk x) (v : Value) (S : List StampD) (hS : ListAt encSt 38 w v S) (hok : StsOk S) (hlS : S.length ≤ 1000000) :
  Calls Try.prog 21 #[.agg ⟨[.int .i64 f, .int .i64 cn]⟩, .pointer (some ⟨r, 0, none⟩), .agg ⟨encCo x ++ [v]⟩] w fun e w' => e = .returned (.bool (rightX f cn L x S)) ∧ Upd [] w w' := by
 obtain ⟨a, c, rfl⟩ := SliceOf.len hS
 exact rRightX_any w f cn hf r ra rc L hb hr hn hL x hx a c S hS hok hlS

theorem wTime_at (w : World) (x : CommitD) (v : Value) (S : List StampD) (hS : ListAt encSt 38 w v S) (hlS : S.length ≤ 12) : Calls Try.prog 22 #[.agg ⟨encCo x ++ [v]⟩] w fun e w' => e = .returned (.int .u64 (timeD S)) ∧ Upd [] w w' := by
 obtain ⟨a, c, rfl⟩ := SliceOf.len hS
 exact wTime_any w x a c S hS hlS

theorem rTime_at (w : World) (x : CommitD) (v : Value) (S : List StampD) (hS : ListAt encSt 38 w v S) (hlS : S.length ≤ 12) : Calls Try.prog 23 #[.agg ⟨encCo x ++ [v]⟩] w fun e w' => e = .returned (.int .u64 (timeD S)) ∧ Upd [] w w' := by
 obtain ⟨a, c, rfl⟩ := SliceOf.len hS
 exact rTime_any w x a c S hS hlS

set_option maxRecDepth 100000 in
set_option maxHeartbeats 4000000 in
theorem right10_walk (w : World) (f from_ nc ns what at_ : Int) (pa : Option Addr) (pc : Nat) (p : List UInt8) (hp : ListAt encB 1 w (.slice pa p.length pc) p) (va : Option Addr) (vc : Nat) (xs : List Int) (hxs : ListAt encU 1 w (.slice va xs.length vc) xs) (hbd : ∀ x ∈ xs, 0 ≤ x ∧ x ≤ 18446744073709551615) :
  Calls Try.prog 7 #[(.int .i64 (f)), (.int .i64 (from_)), (.agg ⟨([(.int .i64 (nc)), (.int .i64 (ns))] : List Value)⟩), (.slice pa p.length pc), (.slice va xs.length vc), (.int .i64 (what)), (.int .i64 (at_))] w fun e w' => e = .returned (.bool true) ∧ Upd [] w w' := by
 have hwf := within_lim f 3 (by omega)
 have hw3 := within_lim nc 4 (by omega)
 have hw9 := within_lim ns 4 (by omega)
 have hww := within_lim what 10 (by omega)
 have hp5 : (p.take 5).length ≤ 5 := by rw [List.length_take]; omega
 have H := Sat.start0 w
 refine calls_fr Try.func7 rfl 215 rfl (Nat.le_of_ble_eq_true rfl) ?_
 refine w_seq ?_
 refine w_lit ?_
 refine wl_do (wants0 rfl) (fun K1 hK1 => ?_)
 refine d_box (vs := ([(.int .i64 (nc)), (.int .i64 (ns))] : List Value)) rfl H rfl rfl ?_
 intro b2 w3 (H4 : Sat w [restC w (fun _ => False), cellC b2 38 ([(.int .i64 (nc)), (.int .i64 (ns))] : List Value)] w3)
 refine hK1 _ _ ?_
 clear hK1 K1
 refine wv 14 (.bool false) ?_
 refine w_nil ?_
 refine then_normal ?_
 refine w_seq ?_
 refine w_lit ?_
 refine wv 20 (.int .i64 (f)) ?_
 refine wl_do (wants0 rfl) (fun K5 hK5 => ?_)
 refine d_call (d := 21) rfl (by kernel_rfl) (within_any w3 f 3 (by omega)) ?_
 rintro _ w6 ⟨rfl, u8⟩
 have H7 := H4.keepU u8
 refine ⟨_, rfl, ?_⟩
 refine hK5 _ _ ?_
 clear hK5 K5
 refine wv 22 (.int .i64 (1 + (withinV f 3))) ?_ (hr := e_int (z := 1 + (withinV f 3)) (by kernel_rfl) (IntWalk.i64_in _ (by omega)))
 refine wv 23 (.agg ⟨([(.int .i64 (1 + (withinV f 3))), (.int .i64 (3))] : List Value)⟩) ?_
 refine wl_do (wants0 rfl) (fun K9 hK9 => ?_)
 refine d_alloc (zs := ([(.int .i64 (0)), (.int .i64 (0))] : List Value)) (z := (.agg ⟨([(.int .i64 (0)), (.int .i64 (0))] : List Value)⟩)) rfl H7 (by kernel_rfl) (by kernel_rfl) ?_
 intro b10 w11 (H12 : Sat w [restC w (fun _ => False), cellC b2 38 ([(.int .i64 (nc)), (.int .i64 (ns))] : List Value), cellC b10 36 ([(.int .i64 (0)), (.int .i64 (0))] : List Value)] w11)
 refine hK9 _ _ ?_
 clear hK9 K9
 refine wl_do (wants0 rfl) (fun K13 hK13 => ?_)
 refine d_storeX (vs := ([(.int .i64 (1 + (withinV f 3))), (.int .i64 (3))] : List Value)) (cs' := ([(.int .i64 (1 + (withinV f 3))), (.int .i64 (3))] : List Value)) rfl H12 2 rfl rfl rfl rfl (by kernel_rfl) (Nat.le_of_ble_eq_true (by kernel_rfl)) (Nat.le_of_ble_eq_true (by kernel_rfl)) (by kernel_rfl) (by kernel_rfl) ?_
 intro w14 (H15 : Sat w [restC w (fun _ => False), cellC b2 38 ([(.int .i64 (nc)), (.int .i64 (ns))] : List Value), cellC b10 36 ([(.int .i64 (1 + (withinV f 3))), (.int .i64 (3))] : List Value)] w14)
 refine hK13 _ _ ?_
 clear hK13 K13
 refine w_nil ?_
 refine then_normal ?_
 refine w_seq ?_
 obtain ⟨F, hF⟩ : ∃ F : Int, F = 1 + withinV f 3 := ⟨_, rfl⟩
 have hf : 1 ≤ F ∧ F ≤ 3 := by omega
 have H17 : Sat w [restC w (fun _ => False), cellC b2 38 ([(.int .i64 (nc)), (.int .i64 (ns))] : List Value), cellC b10 36 ([(.int .i64 (F)), (.int .i64 (3))] : List Value)] w14 := by rw [hF]; exact H15
 refine w_lit ?_
 refine wl_do (wants0 rfl) (fun K18 hK18 => ?_)
 refine d_call (d := 25) rfl (by kernel_rfl) (new10_any w14) ?_
 rintro _ w19 ⟨b20, m21, r22, rfl, k23, p24, q25⟩
 have H26 : Sat w [restC w (fun _ => False), cellC b2 38 ([(.int .i64 (nc)), (.int .i64 (ns))] : List Value), cellC b10 36 ([(.int .i64 (F)), (.int .i64 (3))] : List Value), sepC [cellC b20 107 [.map (some m21)], mapC m21 signedV (Value.int .i64) (marks []), cellC r22 88 [.slice none 0 0]]] w19 := H17.addU p24 k23 q25
 have H27 : Sat w [restC w (fun _ => False), cellC b2 38 ([(.int .i64 (nc)), (.int .i64 (ns))] : List Value), cellC b10 36 ([(.int .i64 (F)), (.int .i64 (3))] : List Value), cellC b20 107 ([(.map (some m21))] : List Value), mapC m21 signedV (Value.int .i64) (marks []), cellC r22 88 ([(.slice none (([] : List Signed).length) 0)] : List Value)] w19 := H26.open 3 rfl
 have H28 : Sat w [restC w (fun _ => False), cellC b2 38 ([(.int .i64 (nc)), (.int .i64 (ns))] : List Value), cellC b10 36 ([(.int .i64 (F)), (.int .i64 (3))] : List Value), cellC b20 107 ([(.map (some m21))] : List Value), mapC m21 signedV (Value.int .i64) (marks []), cellC r22 88 ([(.slice none (([] : List Signed).length) 0)] : List Value), rowC 120 2 (.slice none (([] : List Signed).length) 0) (([] : List Signed).length) (([] : List Signed).flatMap encS)] w19 := H27.addNil 120 2
 refine ⟨_, rfl, ?_⟩
 refine hK18 _ _ ?_
 clear hK18 K18
 refine wv 24 (.tuple #[(.agg ⟨([(pt b20 0), (pt r22 0)] : List Value)⟩), (.bool true)]) ?_
 refine wv 26 (.agg ⟨([(pt b20 0), (pt r22 0)] : List Value)⟩) ?_
 refine wv 27 (.bool true) ?_
 refine wl_do (wants0 rfl) (fun K29 hK29 => ?_)
 refine d_alloc (zs := ([(.pointer none), (.pointer none)] : List Value)) (z := (.agg ⟨([(.pointer none), (.pointer none)] : List Value)⟩)) rfl H28 (by kernel_rfl) (by kernel_rfl) ?_
 intro b30 w31 (H32 : Sat w [restC w (fun _ => False), cellC b2 38 ([(.int .i64 (nc)), (.int .i64 (ns))] : List Value), cellC b10 36 ([(.int .i64 (F)), (.int .i64 (3))] : List Value), cellC b20 107 ([(.map (some m21))] : List Value), mapC m21 signedV (Value.int .i64) (marks []), cellC r22 88 ([(.slice none (([] : List Signed).length) 0)] : List Value), rowC 120 2 (.slice none (([] : List Signed).length) 0) (([] : List Signed).length) (([] : List Signed).flatMap encS), cellC b30 54 ([(.pointer none), (.pointer none)] : List Value)] w31)
 refine hK29 _ _ ?_
 clear hK29 K29
 refine wl_do (wants0 rfl) (fun K33 hK33 => ?_)
 refine d_storeX (vs := ([(pt b20 0), (pt r22 0)] : List Value)) (cs' := ([(pt b20 0), (pt r22 0)] : List Value)) rfl H32 7 rfl rfl rfl rfl (by kernel_rfl) (Nat.le_of_ble_eq_true (by kernel_rfl)) (Nat.le_of_ble_eq_true (by kernel_rfl)) (by kernel_rfl) (by kernel_rfl) ?_
 intro w34 (H35 : Sat w [restC w (fun _ => False), cellC b2 38 ([(.int .i64 (nc)), (.int .i64 (ns))] : List Value), cellC b10 36 ([(.int .i64 (F)), (.int .i64 (3))] : List Value), cellC b20 107 ([(.map (some m21))] : List Value), mapC m21 signedV (Value.int .i64) (marks []), cellC r22 88 ([(.slice none (([] : List Signed).length) 0)] : List Value), rowC 120 2 (.slice none (([] : List Signed).length) 0) (([] : List Signed).length) (([] : List Signed).flatMap encS), cellC b30 54 ([(.pointer (some ⟨b20, 0, none⟩)), (.pointer (some ⟨r22, 0, none⟩))] : List Value)] w34)
 refine hK33 _ _ ?_
 clear hK33 K33
 refine wv 17 (.bool true) ?_
 refine w_nil ?_
 refine then_normal ?_
 iterate 2 refine w_seq ?_
 have hnil : ([] : List Signed).length = 0 := rfl
 refine w_lit ?_
 refine wv 28 (.bool true) ?_
 refine wv 29 (.bool false) ?_
 refine w_nil ?_
 refine then_normal ?_
 refine wp_iff rfl ?_
 refine w_skip ?_
 refine then_normal ?_
 refine w_seq ?_
 refine k_start H35 [restC w (fun _ => False), cellC b2 38 ([(.int .i64 (nc)), (.int .i64 (ns))] : List Value), cellC b10 36 ([(.int .i64 (F)), (.int .i64 (3))] : List Value), cellC b20 107 ([(.map (some m21))] : List Value), mapC m21 signedV (Value.int .i64) (marks []), cellC r22 88 ([(.slice none (([] : List Signed).length) 0)] : List Value), rowC 120 2 (.slice none (([] : List Signed).length) 0) (([] : List Signed).length) (([] : List Signed).flatMap encS), cellC b30 54 ([(pt b20 0), (pt r22 0)] : List Value)] [7] 8 rfl (by kernel_rfl) (fun Hx => (Hx.pick [0, 1, 2, 3, 4, 5, 6, 7] (by decide))) ?_
 intro w37 H38 S39
 refine k_pure 0 rfl (by kernel_rfl) (by kernel_rfl) (by kernel_rfl) (fun _ _ _ h => h) S39 (wants0 rfl) rfl (d := 30) (v := (pt b2 0)) rfl (fun _ => (by kernel_rfl)) ?_
 refine k_val 1 rfl (by kernel_rfl) (by kernel_rfl) (by kernel_rfl) (fun _ _ _ h => h) S39 (wants0 rfl) rfl (by kernel_rfl) (d := 31) (v := (.int .i64 (nc))) rfl (fun _ H' => (e_load1 rfl (by kernel_rfl) (H'.cell 1 rfl rfl))) ?_
 refine k_pure 3 rfl (by kernel_rfl) (by kernel_rfl) (by kernel_rfl) (fun _ _ _ h => h) S39 (wants0 rfl) rfl (d := 33) (v := (pt b2 1)) rfl (fun _ => (by kernel_rfl)) ?_
 refine k_val 4 rfl (by kernel_rfl) (by kernel_rfl) (by kernel_rfl) (fun _ _ _ h => h) S39 (wants0 rfl) rfl (by kernel_rfl) (d := 34) (v := (.int .i64 (ns))) rfl (fun _ H' => (e_load1 rfl (by kernel_rfl) (H'.cell 1 rfl rfl))) ?_
 refine k_do 2 rfl (by kernel_rfl) (wants0 rfl) rfl (fun K40 hK40 => ?_)
 refine d_call (d := 32) rfl (by kernel_rfl) (within_any w37 nc 4 (by omega)) ?_
 rintro _ w41 ⟨rfl, u43⟩
 have H42 := H38.keepU u43
 refine ⟨_, rfl, ?_⟩
 have S44 := H42.pick [0, 1, 2, 3, 4, 5, 6, 7] (by decide)
 refine hK40 _ _ S44 ?_
 clear hK40 K40
 refine k_do 5 rfl (by kernel_rfl) (wants0 rfl) rfl (fun K45 hK45 => ?_)
 refine d_call (d := 35) rfl (by kernel_rfl) (within_any w41 ns 4 (by omega)) ?_
 rintro _ w46 ⟨rfl, u48⟩
 have H47 := H42.keepU u48
 refine ⟨_, rfl, ?_⟩
 have S49 := H47.pick [0, 1, 2, 3, 4, 5, 6, 7] (by decide)
 refine hK45 _ _ S49 ?_
 clear hK45 K45
 refine k_pure 6 rfl (by kernel_rfl) (by kernel_rfl) (by kernel_rfl) (fun _ _ _ h => h) S49 (wants0 rfl) rfl (d := 36) (v := (.agg ⟨([(.int .i64 (withinV nc 4)), (.int .i64 (withinV ns 4))] : List Value)⟩)) rfl (fun _ => (by kernel_rfl)) ?_
 refine k_brk 7 (Sat w [restC w (fun _ => False), cellC b10 36 ([(.int .i64 (F)), (.int .i64 (3))] : List Value), cellC b20 107 ([(.map (some m21))] : List Value), mapC m21 signedV (Value.int .i64) (marks []), cellC r22 88 ([(.slice none (([] : List Signed).length) 0)] : List Value), rowC 120 2 (.slice none (([] : List Signed).length) 0) (([] : List Signed).length) (([] : List Signed).flatMap encS), cellC b30 54 ([(pt b20 0), (pt r22 0)] : List Value)]) rfl (by kernel_rfl) (wants0 rfl) rfl (fun K50 hK50 => ?_)
 refine d_storeX (vs := ([(.int .i64 (withinV nc 4)), (.int .i64 (withinV ns 4))] : List Value)) (cs' := ([(.int .i64 (withinV nc 4)), (.int .i64 (withinV ns 4))] : List Value)) rfl H47 1 rfl rfl rfl rfl (by kernel_rfl) (Nat.le_of_ble_eq_true (by kernel_rfl)) (Nat.le_of_ble_eq_true (by kernel_rfl)) (by kernel_rfl) (by kernel_rfl) ?_
 intro w51 (H52 : Sat w [restC w (fun _ => False), cellC b2 38 ([(.int .i64 (withinV nc 4)), (.int .i64 (withinV ns 4))] : List Value), cellC b10 36 ([(.int .i64 (F)), (.int .i64 (3))] : List Value), cellC b20 107 ([(.map (some m21))] : List Value), mapC m21 signedV (Value.int .i64) (marks []), cellC r22 88 ([(.slice none (([] : List Signed).length) 0)] : List Value), rowC 120 2 (.slice none (([] : List Signed).length) 0) (([] : List Signed).length) (([] : List Signed).flatMap encS), cellC b30 54 ([(.pointer (some ⟨b20, 0, none⟩)), (.pointer (some ⟨r22, 0, none⟩))] : List Value)] w51)
 have S54 := H52.pick [0, 2, 3, 4, 5, 6, 7] (by decide)
 refine hK50 _ _ S54 ?_
 clear hK50 K50
 refine h_fin (by kernel_rfl) ?_
 refine then_normal ?_
 refine wp_meetR [18, 37, 38, 39, 40, 41, 42, 43, 44, 45, 46] (fun G_ W_ => ∃ (yb gD dc : Nat) (Y : CommitD) (D : List StampD) (ra : Option Addr) (rc : Nat) (L : List Signed), G_ 18 = (pt yb 0) ∧ (CoOk Y) ∧ ((D.length : Int) = 2 * F + 1) ∧ (D.length ≤ dc) ∧ (∀ s ∈ D, StOk s) ∧ (L.Nodup) ∧ (L.length ≤ 30) ∧ Sat w [cellC b10 36 ([(.int .i64 (F)), (.int .i64 (3))] : List Value), cellC b30 54 ([(pt b20 0), (pt r22 0)] : List Value), cellC b20 107 ([(.map (some m21))] : List Value), mapC m21 signedV (Value.int .i64) (marks L), cellC r22 88 ([(.slice ra L.length rc)] : List Value), rowC 120 2 (.slice ra L.length rc) L.length (L.flatMap encS), rowC 49 38 (.slice (some ⟨gD, 0, none⟩) D.length dc) D.length (D.flatMap encSt), cellC yb 47 (([(.int .i64 (Y.cl)), (.int .i64 (Y.seq))] : List Value) ++ hc Y.h ++ ([(.int .i64 (Y.len)), (.int .i64 (Y.sb)), (.int .i64 (Y.sm)), (.slice (some ⟨gD, 0, none⟩) D.length dc)] : List Value)), restC w (fun _ => False)] W_) ?_ ?_
 ·refine h_start H52 [restC w (fun _ => False), cellC b2 38 ([(.int .i64 (withinV nc 4)), (.int .i64 (withinV ns 4))] : List Value), cellC b10 36 ([(.int .i64 (F)), (.int .i64 (3))] : List Value), cellC b30 54 ([(pt b20 0), (pt r22 0)] : List Value)] 12 rfl (by kernel_rfl) (fun Hx => (Hx.pick [0, 1, 2, 7] (by decide))) ?_
  intro w56 H57 S58
  refine hv0 0 S58 37 (.agg ⟨([(pt b20 0), (pt r22 0)] : List Value)⟩) ?_ (he := fun _ H' => (e_loadN (vs := ([(pt b20 0), (pt r22 0)] : List Value)) rfl (by kernel_rfl) (by kernel_rfl) (by exact Nat.le_of_ble_eq_true (by kernel_rfl)) (H'.at 3 rfl) (by kernel_rfl)))
  refine hv0 1 S58 38 (.agg ⟨([(.int .i64 (F)), (.int .i64 (3))] : List Value)⟩) ?_ (he := fun _ H' => (e_loadN (vs := ([(.int .i64 (F)), (.int .i64 (3))] : List Value)) rfl (by kernel_rfl) (by kernel_rfl) (by exact Nat.le_of_ble_eq_true (by kernel_rfl)) (H'.at 2 rfl) (by kernel_rfl)))
  refine hv0 2 S58 39 (.agg ⟨([(pt b20 0), (pt r22 0)] : List Value)⟩) ?_ (he := fun _ H' => (e_loadN (vs := ([(pt b20 0), (pt r22 0)] : List Value)) rfl (by kernel_rfl) (by kernel_rfl) (by exact Nat.le_of_ble_eq_true (by kernel_rfl)) (H'.at 3 rfl) (by kernel_rfl)))
  refine hv0 3 S58 40 (.agg ⟨([(.int .i64 (withinV nc 4)), (.int .i64 (withinV ns 4))] : List Value)⟩) ?_ (he := fun _ H' => (e_loadN (vs := ([(.int .i64 (withinV nc 4)), (.int .i64 (withinV ns 4))] : List Value)) rfl (by kernel_rfl) (by kernel_rfl) (by exact Nat.le_of_ble_eq_true (by kernel_rfl)) (H'.at 1 rfl) (by kernel_rfl)))
  refine hv0 4 S58 41 (.slice pa p.length pc) ?_
  refine hv0 7 S58 44 (.int .i64 (from_)) ?_
  refine hv0 8 S58 45 (.slice va xs.length vc) ?_
  refine h_do2 5 10 rfl rfl (by kernel_rfl) (wants0 rfl) (wants0 rfl) (fun K59 hK59 => ?_) (fun K59 hK59 => ?_)
  ·refine d_call (d := 42) rfl (by kernel_rfl) (cutB_at w56 (.slice pa p.length pc) p  5 (ListAt.now H57 0 rfl hp) (by omega)) ?_
   rintro _ w60 ⟨u61, rfl, k62, p63, q64⟩
   have H65 : Sat w [restC w (fun _ => False), cellC b2 38 ([(.int .i64 (withinV nc 4)), (.int .i64 (withinV ns 4))] : List Value), cellC b10 36 ([(.int .i64 (F)), (.int .i64 (3))] : List Value), cellC b20 107 ([(.map (some m21))] : List Value), mapC m21 signedV (Value.int .i64) (marks []), cellC r22 88 ([(.slice none (([] : List Signed).length) 0)] : List Value), rowC 120 2 (.slice none (([] : List Signed).length) 0) (([] : List Signed).length) (([] : List Signed).flatMap encS), cellC b30 54 ([(pt b20 0), (pt r22 0)] : List Value), rowC 5 1 u61 ((p.take 5).length) ((p.take 5).flatMap encB)] w60 := H57.addU p63 k62 q64
   obtain ⟨a66, c67, rfl⟩ := ownsRow_shape (H65.at 8 rfl)
   refine ⟨_, rfl, ?_⟩
   have S68 := H65.pick [0, 1, 2, 7] (by decide)
   refine hK59 _ _ S68 ?_
   clear hK59 K59
   refine h_do2 6 10 rfl rfl (by kernel_rfl) (wants0 rfl) (wants0 rfl) (fun K69 hK69 => ?_) (fun K69 hK69 => ?_)
   ·refine d_call (d := 43) rfl (by kernel_rfl) (bkCommit_any w60 b20 m21 r22 none 0 ([] : List Signed) (H65.fin [3, 4, 5, 6] (by decide) rfl) (withinV nc 4) (withinV ns 4) a66 c67 (p.take 5) (ListAt.row (enc := encB) (sz := 1) encB_len (by decide) (H65.at 8 rfl)) (off_row (e := 5) (k := 1) (xs := ((p.take 5).flatMap encB)) (n := (p.take 5).length) (c := c67) (fun b_ hb_ => H65.offP [3, 4, 5, 6] 8 rfl rfl (by decide) hb_)) (by omega) (by omega) (by omega) (by omega) List.nodup_nil) ?_
    rintro _ w70 ⟨a72, c73, rfl, T71⟩
    obtain ⟨L75, hL75⟩ : ∃ L75 : List Signed, L75 = signL ([] : List Signed) (yC (withinV nc 4) (withinV ns 4) hash0 (p.take 5)) := ⟨_, rfl⟩
    rw [← hL75] at T71
    have H76 : Sat w [restC w (fun _ => False), cellC b2 38 ([(.int .i64 (withinV nc 4)), (.int .i64 (withinV ns 4))] : List Value), cellC b10 36 ([(.int .i64 (F)), (.int .i64 (3))] : List Value), cellC b20 107 ([(.map (some m21))] : List Value), mapC m21 signedV (Value.int .i64) (marks L75), cellC r22 88 ([(.slice a72 L75.length c73)] : List Value), rowC 120 2 (.slice a72 L75.length c73) L75.length (L75.flatMap encS), cellC b30 54 ([(pt b20 0), (pt r22 0)] : List Value), rowC 5 1 (.slice a66 ((p.take 5).length) c67) ((p.take 5).length) ((p.take 5).flatMap encB)] w70 := (Sat.turnL (L' := [cellC b20 107 ([(.map (some m21))] : List Value), mapC m21 signedV (Value.int .i64) (marks L75), cellC r22 88 ([(.slice a72 L75.length c73)] : List Value), rowC 120 2 (.slice a72 L75.length c73) L75.length (L75.flatMap encS)]) (R := [restC w (fun _ => False), cellC b2 38 ([(.int .i64 (withinV nc 4)), (.int .i64 (withinV ns 4))] : List Value), cellC b10 36 ([(.int .i64 (F)), (.int .i64 (3))] : List Value), cellC b30 54 ([(pt b20 0), (pt r22 0)] : List Value), rowC 5 1 (.slice a66 ((p.take 5).length) c67) ((p.take 5).length) ((p.take 5).flatMap encB)]) H65 [3, 4, 5, 6] [0, 1, 2, 7, 8] (by decide) (by kernel_rfl) rfl T71).pick [4, 5, 6, 0, 1, 2, 3, 7, 8] (by decide)
    refine ⟨_, rfl, ?_⟩
    obtain ⟨Y74, hY74⟩ : ∃ Y74 : CommitD, Y74 = mkC ([] : List Signed) (withinV nc 4) (withinV ns 4) hash0 (p.take 5) := ⟨_, rfl⟩
    rw [← hY74]
    have hgY74 : GoodC L75 Y74 := by rw [hL75, hY74]; exact goodC_new _ _ _ _ _
    have ndL75 : L75.Nodup := by rw [hL75]; exact signL_nodup List.nodup_nil _
    have llL75 : L75.length ≤ ([] : List Signed).length + 1 := by rw [hL75]; exact signL_len _ _
    have clY74 : Y74.cl = withinV nc 4 := by rw [hY74]; rfl
    have sqY74 : Y74.seq = withinV ns 4 := by rw [hY74]; rfl
    have lnY74 : Y74.len = (p.take 5).length := by rw [hY74]; rfl
    have hok_Y74 : CoOk Y74 := ⟨by omega, by omega, by omega⟩
    have S77 := H76.pick [0, 1, 2, 7] (by decide)
    refine hK69 _ _ S77 ?_
    clear hK69 K69
    refine h_do2 9 10 rfl rfl (by kernel_rfl) (wants0 rfl) (wants0 rfl) (fun K78 hK78 => ?_) (fun K78 hK78 => ?_)
    ·refine d_call (d := 46) rfl (by kernel_rfl) (bkCert_any w70 b20 m21 r22 a72 c73 L75 (H76.fin [3, 4, 5, 6] (by decide) rfl) F 3 (by omega) Y74 hok_Y74 from_ (by omega) ndL75 va vc xs (ListAt.now H76 0 rfl hxs) hbd (list_offS encU_len (by decide) H76 [3, 4, 5, 6] 0 rfl rfl (by decide) hxs)) ?_
     rintro _ w79 ⟨a80, c81, L82, a83, c84, D85, rfl, l89, k86, n87, l88, T90⟩
     have H91 : Sat w [restC w (fun _ => False), cellC b2 38 ([(.int .i64 (withinV nc 4)), (.int .i64 (withinV ns 4))] : List Value), cellC b10 36 ([(.int .i64 (F)), (.int .i64 (3))] : List Value), cellC b20 107 ([(.map (some m21))] : List Value), mapC m21 signedV (Value.int .i64) (marks L82), cellC r22 88 ([(.slice a80 L82.length c81)] : List Value), rowC 120 2 (.slice a80 L82.length c81) L82.length (L82.flatMap encS), cellC b30 54 ([(pt b20 0), (pt r22 0)] : List Value), rowC 5 1 (.slice a66 ((p.take 5).length) c67) ((p.take 5).length) ((p.take 5).flatMap encB), rowC 49 38 (.slice a83 D85.length c84) D85.length (D85.flatMap encSt)] w79 := (Sat.turnL (L' := [cellC b20 107 ([(.map (some m21))] : List Value), mapC m21 signedV (Value.int .i64) (marks L82), cellC r22 88 ([(.slice a80 L82.length c81)] : List Value), rowC 120 2 (.slice a80 L82.length c81) L82.length (L82.flatMap encS), rowC 49 38 (.slice a83 D85.length c84) D85.length (D85.flatMap encSt)]) (R := [restC w (fun _ => False), cellC b2 38 ([(.int .i64 (withinV nc 4)), (.int .i64 (withinV ns 4))] : List Value), cellC b10 36 ([(.int .i64 (F)), (.int .i64 (3))] : List Value), cellC b30 54 ([(pt b20 0), (pt r22 0)] : List Value), rowC 5 1 (.slice a66 ((p.take 5).length) c67) ((p.take 5).length) ((p.take 5).flatMap encB)]) H76 [3, 4, 5, 6] [0, 1, 2, 7, 8] (by decide) (by kernel_rfl) rfl T90).pick [5, 6, 7, 0, 1, 2, 3, 8, 9, 4] (by decide)
     obtain ⟨g92, c93, e94⟩ := row_shape (H91.at 9 rfl) (by omega)
     obtain rfl : a83 = some ⟨g92, 0, none⟩ := slice_addrS e94
     have hcapg92 := ListAt.cap (ListAt.row (enc := encSt) (sz := 38) encSt_len (by decide) (H91.at 9 rfl))
     have H95 : Sat w [restC w (fun _ => False), cellC b2 38 ([(.int .i64 (withinV nc 4)), (.int .i64 (withinV ns 4))] : List Value), cellC b10 36 ([(.int .i64 (F)), (.int .i64 (3))] : List Value), cellC b20 107 ([(.map (some m21))] : List Value), mapC m21 signedV (Value.int .i64) (marks L82), cellC r22 88 ([(.slice a80 L82.length c81)] : List Value), rowC 120 2 (.slice a80 L82.length c81) L82.length (L82.flatMap encS), cellC b30 54 ([(pt b20 0), (pt r22 0)] : List Value), rowC 5 1 (.slice a66 ((p.take 5).length) c67) ((p.take 5).length) ((p.take 5).flatMap encB), rowC 49 38 (.slice (some ⟨g92, 0, none⟩) D85.length c84) D85.length (D85.flatMap encSt)] w79 := H91
     refine ⟨_, rfl, ?_⟩
     have S96 := H95.pick [0, 1, 2, 7] (by decide)
     refine hK78 _ _ S96 ?_
     clear hK78 K78
     refine h_do 10 rfl (by kernel_rfl) (wants0 rfl) (fun K97 hK97 => ?_)
     refine d_alloc (zs := (([(.int .i64 (0)), (.int .i64 (0))] : List Value) ++ hc hash0 ++ ([(.int .i64 (0)), (.int .i64 (0)), (.int .i64 (0)), (.slice none 0 0)] : List Value))) (z := (.agg ⟨(([(.int .i64 (0)), (.int .i64 (0))] : List Value) ++ hc hash0 ++ ([(.int .i64 (0)), (.int .i64 (0)), (.int .i64 (0)), (.slice none 0 0)] : List Value))⟩)) rfl H95 (by kernel_rfl) (by kernel_rfl) ?_
     intro b98 w99 (H100 : Sat w [restC w (fun _ => False), cellC b2 38 ([(.int .i64 (withinV nc 4)), (.int .i64 (withinV ns 4))] : List Value), cellC b10 36 ([(.int .i64 (F)), (.int .i64 (3))] : List Value), cellC b20 107 ([(.map (some m21))] : List Value), mapC m21 signedV (Value.int .i64) (marks L82), cellC r22 88 ([(.slice a80 L82.length c81)] : List Value), rowC 120 2 (.slice a80 L82.length c81) L82.length (L82.flatMap encS), cellC b30 54 ([(.pointer (some ⟨b20, 0, none⟩)), (.pointer (some ⟨r22, 0, none⟩))] : List Value), rowC 5 1 (.slice a66 ((p.take 5).length) c67) ((p.take 5).length) ((p.take 5).flatMap encB), rowC 49 38 (.slice (some ⟨g92, 0, none⟩) D85.length c84) D85.length (D85.flatMap encSt), cellC b98 47 (([(.int .i64 (0)), (.int .i64 (0))] : List Value) ++ hc hash0 ++ ([(.int .i64 (0)), (.int .i64 (0)), (.int .i64 (0)), (.slice none 0 0)] : List Value))] w99)
     have S101 := H100.pick [0, 1, 2, 7] (by decide)
     refine hK97 _ _ S101 ?_
     clear hK97 K97
     refine h_do 11 rfl (by kernel_rfl) (wants0 rfl) (fun K102 hK102 => ?_)
     refine d_storeX (vs := (([(.int .i64 (Y74.cl)), (.int .i64 (Y74.seq))] : List Value) ++ hc Y74.h ++ ([(.int .i64 (Y74.len)), (.int .i64 (Y74.sb)), (.int .i64 (Y74.sm)), (.slice (some ⟨g92, 0, none⟩) D85.length c84)] : List Value))) (cs' := (([(.int .i64 (Y74.cl)), (.int .i64 (Y74.seq))] : List Value) ++ hc Y74.h ++ ([(.int .i64 (Y74.len)), (.int .i64 (Y74.sb)), (.int .i64 (Y74.sm)), (.slice (some ⟨g92, 0, none⟩) D85.length c84)] : List Value))) rfl H100 10 rfl rfl rfl rfl (by kernel_rfl) (Nat.le_of_ble_eq_true (by kernel_rfl)) (Nat.le_of_ble_eq_true (by kernel_rfl)) (by kernel_rfl) (by kernel_rfl) ?_
     intro w103 (H104 : Sat w [restC w (fun _ => False), cellC b2 38 ([(.int .i64 (withinV nc 4)), (.int .i64 (withinV ns 4))] : List Value), cellC b10 36 ([(.int .i64 (F)), (.int .i64 (3))] : List Value), cellC b20 107 ([(.map (some m21))] : List Value), mapC m21 signedV (Value.int .i64) (marks L82), cellC r22 88 ([(.slice a80 L82.length c81)] : List Value), rowC 120 2 (.slice a80 L82.length c81) L82.length (L82.flatMap encS), cellC b30 54 ([(.pointer (some ⟨b20, 0, none⟩)), (.pointer (some ⟨r22, 0, none⟩))] : List Value), rowC 5 1 (.slice a66 ((p.take 5).length) c67) ((p.take 5).length) ((p.take 5).flatMap encB), rowC 49 38 (.slice (some ⟨g92, 0, none⟩) D85.length c84) D85.length (D85.flatMap encSt), cellC b98 47 (([(.int .i64 (Y74.cl)), (.int .i64 (Y74.seq))] : List Value) ++ hc Y74.h ++ ([(.int .i64 (Y74.len)), (.int .i64 (Y74.sb)), (.int .i64 (Y74.sm)), (.slice (some ⟨g92, 0, none⟩) D85.length c84)] : List Value))] w103)
     have S106 := H104.pick [0, 1, 2, 7] (by decide)
     refine hK102 _ _ S106 ?_
     clear hK102 K102
     refine h_fin (by kernel_rfl) ?_
     have H107 := H104.pick [2, 7, 3, 4, 5, 6, 9, 10, 0] (by decide)
     refine meetR_at ?_ ⟨b98, g92, c84, Y74, D85, a80, c81, L82, rfl, hok_Y74, l89, (by omega), k86, n87, (by simp only [List.length_nil] at *; omega), H107⟩
     exact (same_upd rfl (same_upd rfl (same_upd rfl (same_upd rfl (same_upd rfl (same_upd rfl (same_upd rfl (same_upd rfl (same_upd rfl (same_upd rfl (same_upd rfl (same_refl))))))))))))
    ·refine d_alloc (zs := (([(.int .i64 (0)), (.int .i64 (0))] : List Value) ++ hc hash0 ++ ([(.int .i64 (0)), (.int .i64 (0)), (.int .i64 (0)), (.slice none 0 0)] : List Value))) (z := (.agg ⟨(([(.int .i64 (0)), (.int .i64 (0))] : List Value) ++ hc hash0 ++ ([(.int .i64 (0)), (.int .i64 (0)), (.int .i64 (0)), (.slice none 0 0)] : List Value))⟩)) rfl H76 (by kernel_rfl) (by kernel_rfl) ?_
     intro b108 w109 (H110 : Sat w [restC w (fun _ => False), cellC b2 38 ([(.int .i64 (withinV nc 4)), (.int .i64 (withinV ns 4))] : List Value), cellC b10 36 ([(.int .i64 (F)), (.int .i64 (3))] : List Value), cellC b20 107 ([(.map (some m21))] : List Value), mapC m21 signedV (Value.int .i64) (marks L75), cellC r22 88 ([(.slice a72 L75.length c73)] : List Value), rowC 120 2 (.slice a72 L75.length c73) L75.length (L75.flatMap encS), cellC b30 54 ([(.pointer (some ⟨b20, 0, none⟩)), (.pointer (some ⟨r22, 0, none⟩))] : List Value), rowC 5 1 (.slice a66 ((p.take 5).length) c67) ((p.take 5).length) ((p.take 5).flatMap encB), cellC b108 47 (([(.int .i64 (0)), (.int .i64 (0))] : List Value) ++ hc hash0 ++ ([(.int .i64 (0)), (.int .i64 (0)), (.int .i64 (0)), (.slice none 0 0)] : List Value))] w109)
     have S111 := H110.pick [0, 1, 2, 7] (by decide)
     refine hK78 _ _ S111 ?_
     clear hK78 K78
     refine h_do 9 rfl (by kernel_rfl) (wants0 rfl) (fun K112 hK112 => ?_)
     refine d_call (d := 46) rfl (by kernel_rfl) (bkCert_any w109 b20 m21 r22 a72 c73 L75 (H110.fin [3, 4, 5, 6] (by decide) rfl) F 3 (by omega) Y74 hok_Y74 from_ (by omega) ndL75 va vc xs (ListAt.now H110 0 rfl hxs) hbd (list_offS encU_len (by decide) H110 [3, 4, 5, 6] 0 rfl rfl (by decide) hxs)) ?_
     rintro _ w113 ⟨a114, c115, L116, a117, c118, D119, rfl, l123, k120, n121, l122, T124⟩
     have H125 : Sat w [restC w (fun _ => False), cellC b2 38 ([(.int .i64 (withinV nc 4)), (.int .i64 (withinV ns 4))] : List Value), cellC b10 36 ([(.int .i64 (F)), (.int .i64 (3))] : List Value), cellC b20 107 ([(.map (some m21))] : List Value), mapC m21 signedV (Value.int .i64) (marks L116), cellC r22 88 ([(.slice a114 L116.length c115)] : List Value), rowC 120 2 (.slice a114 L116.length c115) L116.length (L116.flatMap encS), cellC b30 54 ([(pt b20 0), (pt r22 0)] : List Value), rowC 5 1 (.slice a66 ((p.take 5).length) c67) ((p.take 5).length) ((p.take 5).flatMap encB), cellC b108 47 (([(.int .i64 (0)), (.int .i64 (0))] : List Value) ++ hc hash0 ++ ([(.int .i64 (0)), (.int .i64 (0)), (.int .i64 (0)), (.slice none 0 0)] : List Value)), rowC 49 38 (.slice a117 D119.length c118) D119.length (D119.flatMap encSt)] w113 := (Sat.turnL (L' := [cellC b20 107 ([(.map (some m21))] : List Value), mapC m21 signedV (Value.int .i64) (marks L116), cellC r22 88 ([(.slice a114 L116.length c115)] : List Value), rowC 120 2 (.slice a114 L116.length c115) L116.length (L116.flatMap encS), rowC 49 38 (.slice a117 D119.length c118) D119.length (D119.flatMap encSt)]) (R := [restC w (fun _ => False), cellC b2 38 ([(.int .i64 (withinV nc 4)), (.int .i64 (withinV ns 4))] : List Value), cellC b10 36 ([(.int .i64 (F)), (.int .i64 (3))] : List Value), cellC b30 54 ([(pt b20 0), (pt r22 0)] : List Value), rowC 5 1 (.slice a66 ((p.take 5).length) c67) ((p.take 5).length) ((p.take 5).flatMap encB), cellC b108 47 (([(.int .i64 (0)), (.int .i64 (0))] : List Value) ++ hc hash0 ++ ([(.int .i64 (0)), (.int .i64 (0)), (.int .i64 (0)), (.slice none 0 0)] : List Value))]) H110 [3, 4, 5, 6] [0, 1, 2, 7, 8, 9] (by decide) (by kernel_rfl) rfl T124).pick [5, 6, 7, 0, 1, 2, 3, 8, 9, 10, 4] (by decide)
     obtain ⟨g126, c127, e128⟩ := row_shape (H125.at 10 rfl) (by omega)
     obtain rfl : a117 = some ⟨g126, 0, none⟩ := slice_addrS e128
     have hcapg126 := ListAt.cap (ListAt.row (enc := encSt) (sz := 38) encSt_len (by decide) (H125.at 10 rfl))
     have H129 : Sat w [restC w (fun _ => False), cellC b2 38 ([(.int .i64 (withinV nc 4)), (.int .i64 (withinV ns 4))] : List Value), cellC b10 36 ([(.int .i64 (F)), (.int .i64 (3))] : List Value), cellC b20 107 ([(.map (some m21))] : List Value), mapC m21 signedV (Value.int .i64) (marks L116), cellC r22 88 ([(.slice a114 L116.length c115)] : List Value), rowC 120 2 (.slice a114 L116.length c115) L116.length (L116.flatMap encS), cellC b30 54 ([(pt b20 0), (pt r22 0)] : List Value), rowC 5 1 (.slice a66 ((p.take 5).length) c67) ((p.take 5).length) ((p.take 5).flatMap encB), cellC b108 47 (([(.int .i64 (0)), (.int .i64 (0))] : List Value) ++ hc hash0 ++ ([(.int .i64 (0)), (.int .i64 (0)), (.int .i64 (0)), (.slice none 0 0)] : List Value)), rowC 49 38 (.slice (some ⟨g126, 0, none⟩) D119.length c118) D119.length (D119.flatMap encSt)] w113 := H125
     refine ⟨_, rfl, ?_⟩
     have S130 := H129.pick [0, 1, 2, 7] (by decide)
     refine hK112 _ _ S130 ?_
     clear hK112 K112
     refine h_do 11 rfl (by kernel_rfl) (wants0 rfl) (fun K131 hK131 => ?_)
     refine d_storeX (vs := (([(.int .i64 (Y74.cl)), (.int .i64 (Y74.seq))] : List Value) ++ hc Y74.h ++ ([(.int .i64 (Y74.len)), (.int .i64 (Y74.sb)), (.int .i64 (Y74.sm)), (.slice (some ⟨g126, 0, none⟩) D119.length c118)] : List Value))) (cs' := (([(.int .i64 (Y74.cl)), (.int .i64 (Y74.seq))] : List Value) ++ hc Y74.h ++ ([(.int .i64 (Y74.len)), (.int .i64 (Y74.sb)), (.int .i64 (Y74.sm)), (.slice (some ⟨g126, 0, none⟩) D119.length c118)] : List Value))) rfl H129 9 rfl rfl rfl rfl (by kernel_rfl) (Nat.le_of_ble_eq_true (by kernel_rfl)) (Nat.le_of_ble_eq_true (by kernel_rfl)) (by kernel_rfl) (by kernel_rfl) ?_
     intro w132 (H133 : Sat w [restC w (fun _ => False), cellC b2 38 ([(.int .i64 (withinV nc 4)), (.int .i64 (withinV ns 4))] : List Value), cellC b10 36 ([(.int .i64 (F)), (.int .i64 (3))] : List Value), cellC b20 107 ([(.map (some m21))] : List Value), mapC m21 signedV (Value.int .i64) (marks L116), cellC r22 88 ([(.slice a114 L116.length c115)] : List Value), rowC 120 2 (.slice a114 L116.length c115) L116.length (L116.flatMap encS), cellC b30 54 ([(.pointer (some ⟨b20, 0, none⟩)), (.pointer (some ⟨r22, 0, none⟩))] : List Value), rowC 5 1 (.slice a66 ((p.take 5).length) c67) ((p.take 5).length) ((p.take 5).flatMap encB), cellC b108 47 (([(.int .i64 (Y74.cl)), (.int .i64 (Y74.seq))] : List Value) ++ hc Y74.h ++ ([(.int .i64 (Y74.len)), (.int .i64 (Y74.sb)), (.int .i64 (Y74.sm)), (.slice (some ⟨g126, 0, none⟩) D119.length c118)] : List Value)), rowC 49 38 (.slice (some ⟨g126, 0, none⟩) D119.length c118) D119.length (D119.flatMap encSt)] w132)
     have S135 := H133.pick [0, 1, 2, 7] (by decide)
     refine hK131 _ _ S135 ?_
     clear hK131 K131
     refine h_fin (by kernel_rfl) ?_
     have H136 := H133.pick [2, 7, 3, 4, 5, 6, 10, 9, 0] (by decide)
     refine meetR_at ?_ ⟨b108, g126, c118, Y74, D119, a114, c115, L116, rfl, hok_Y74, l123, (by omega), k120, n121, (by simp only [List.length_nil] at *; omega), H136⟩
     exact (same_upd rfl (same_upd rfl (same_upd rfl (same_upd rfl (same_upd rfl (same_upd rfl (same_upd rfl (same_upd rfl (same_upd rfl (same_upd rfl (same_upd rfl (same_refl))))))))))))
   ·refine d_alloc (zs := (([(.int .i64 (0)), (.int .i64 (0))] : List Value) ++ hc hash0 ++ ([(.int .i64 (0)), (.int .i64 (0)), (.int .i64 (0)), (.slice none 0 0)] : List Value))) (z := (.agg ⟨(([(.int .i64 (0)), (.int .i64 (0))] : List Value) ++ hc hash0 ++ ([(.int .i64 (0)), (.int .i64 (0)), (.int .i64 (0)), (.slice none 0 0)] : List Value))⟩)) rfl H65 (by kernel_rfl) (by kernel_rfl) ?_
    intro b137 w138 (H139 : Sat w [restC w (fun _ => False), cellC b2 38 ([(.int .i64 (withinV nc 4)), (.int .i64 (withinV ns 4))] : List Value), cellC b10 36 ([(.int .i64 (F)), (.int .i64 (3))] : List Value), cellC b20 107 ([(.map (some m21))] : List Value), mapC m21 signedV (Value.int .i64) (marks []), cellC r22 88 ([(.slice none (([] : List Signed).length) 0)] : List Value), rowC 120 2 (.slice none (([] : List Signed).length) 0) (([] : List Signed).length) (([] : List Signed).flatMap encS), cellC b30 54 ([(.pointer (some ⟨b20, 0, none⟩)), (.pointer (some ⟨r22, 0, none⟩))] : List Value), rowC 5 1 (.slice a66 ((p.take 5).length) c67) ((p.take 5).length) ((p.take 5).flatMap encB), cellC b137 47 (([(.int .i64 (0)), (.int .i64 (0))] : List Value) ++ hc hash0 ++ ([(.int .i64 (0)), (.int .i64 (0)), (.int .i64 (0)), (.slice none 0 0)] : List Value))] w138)
    have S140 := H139.pick [0, 1, 2, 7] (by decide)
    refine hK69 _ _ S140 ?_
    clear hK69 K69
    refine h_do 6 rfl (by kernel_rfl) (wants0 rfl) (fun K141 hK141 => ?_)
    refine d_call (d := 43) rfl (by kernel_rfl) (bkCommit_any w138 b20 m21 r22 none 0 ([] : List Signed) (H139.fin [3, 4, 5, 6] (by decide) rfl) (withinV nc 4) (withinV ns 4) a66 c67 (p.take 5) (ListAt.row (enc := encB) (sz := 1) encB_len (by decide) (H139.at 8 rfl)) (off_row (e := 5) (k := 1) (xs := ((p.take 5).flatMap encB)) (n := (p.take 5).length) (c := c67) (fun b_ hb_ => H139.offP [3, 4, 5, 6] 8 rfl rfl (by decide) hb_)) (by omega) (by omega) (by omega) (by omega) List.nodup_nil) ?_
    rintro _ w142 ⟨a144, c145, rfl, T143⟩
    obtain ⟨L147, hL147⟩ : ∃ L147 : List Signed, L147 = signL ([] : List Signed) (yC (withinV nc 4) (withinV ns 4) hash0 (p.take 5)) := ⟨_, rfl⟩
    rw [← hL147] at T143
    have H148 : Sat w [restC w (fun _ => False), cellC b2 38 ([(.int .i64 (withinV nc 4)), (.int .i64 (withinV ns 4))] : List Value), cellC b10 36 ([(.int .i64 (F)), (.int .i64 (3))] : List Value), cellC b20 107 ([(.map (some m21))] : List Value), mapC m21 signedV (Value.int .i64) (marks L147), cellC r22 88 ([(.slice a144 L147.length c145)] : List Value), rowC 120 2 (.slice a144 L147.length c145) L147.length (L147.flatMap encS), cellC b30 54 ([(pt b20 0), (pt r22 0)] : List Value), rowC 5 1 (.slice a66 ((p.take 5).length) c67) ((p.take 5).length) ((p.take 5).flatMap encB), cellC b137 47 (([(.int .i64 (0)), (.int .i64 (0))] : List Value) ++ hc hash0 ++ ([(.int .i64 (0)), (.int .i64 (0)), (.int .i64 (0)), (.slice none 0 0)] : List Value))] w142 := (Sat.turnL (L' := [cellC b20 107 ([(.map (some m21))] : List Value), mapC m21 signedV (Value.int .i64) (marks L147), cellC r22 88 ([(.slice a144 L147.length c145)] : List Value), rowC 120 2 (.slice a144 L147.length c145) L147.length (L147.flatMap encS)]) (R := [restC w (fun _ => False), cellC b2 38 ([(.int .i64 (withinV nc 4)), (.int .i64 (withinV ns 4))] : List Value), cellC b10 36 ([(.int .i64 (F)), (.int .i64 (3))] : List Value), cellC b30 54 ([(pt b20 0), (pt r22 0)] : List Value), rowC 5 1 (.slice a66 ((p.take 5).length) c67) ((p.take 5).length) ((p.take 5).flatMap encB), cellC b137 47 (([(.int .i64 (0)), (.int .i64 (0))] : List Value) ++ hc hash0 ++ ([(.int .i64 (0)), (.int .i64 (0)), (.int .i64 (0)), (.slice none 0 0)] : List Value))]) H139 [3, 4, 5, 6] [0, 1, 2, 7, 8, 9] (by decide) (by kernel_rfl) rfl T143).pick [4, 5, 6, 0, 1, 2, 3, 7, 8, 9] (by decide)
    refine ⟨_, rfl, ?_⟩
    obtain ⟨Y146, hY146⟩ : ∃ Y146 : CommitD, Y146 = mkC ([] : List Signed) (withinV nc 4) (withinV ns 4) hash0 (p.take 5) := ⟨_, rfl⟩
    rw [← hY146]
    have hgY146 : GoodC L147 Y146 := by rw [hL147, hY146]; exact goodC_new _ _ _ _ _
    have ndL147 : L147.Nodup := by rw [hL147]; exact signL_nodup List.nodup_nil _
    have llL147 : L147.length ≤ ([] : List Signed).length + 1 := by rw [hL147]; exact signL_len _ _
    have clY146 : Y146.cl = withinV nc 4 := by rw [hY146]; rfl
    have sqY146 : Y146.seq = withinV ns 4 := by rw [hY146]; rfl
    have lnY146 : Y146.len = (p.take 5).length := by rw [hY146]; rfl
    have hok_Y146 : CoOk Y146 := ⟨by omega, by omega, by omega⟩
    have S149 := H148.pick [0, 1, 2, 7] (by decide)
    refine hK141 _ _ S149 ?_
    clear hK141 K141
    refine h_do 9 rfl (by kernel_rfl) (wants0 rfl) (fun K150 hK150 => ?_)
    refine d_call (d := 46) rfl (by kernel_rfl) (bkCert_any w142 b20 m21 r22 a144 c145 L147 (H148.fin [3, 4, 5, 6] (by decide) rfl) F 3 (by omega) Y146 hok_Y146 from_ (by omega) ndL147 va vc xs (ListAt.now H148 0 rfl hxs) hbd (list_offS encU_len (by decide) H148 [3, 4, 5, 6] 0 rfl rfl (by decide) hxs)) ?_
    rintro _ w151 ⟨a152, c153, L154, a155, c156, D157, rfl, l161, k158, n159, l160, T162⟩
    have H163 : Sat w [restC w (fun _ => False), cellC b2 38 ([(.int .i64 (withinV nc 4)), (.int .i64 (withinV ns 4))] : List Value), cellC b10 36 ([(.int .i64 (F)), (.int .i64 (3))] : List Value), cellC b20 107 ([(.map (some m21))] : List Value), mapC m21 signedV (Value.int .i64) (marks L154), cellC r22 88 ([(.slice a152 L154.length c153)] : List Value), rowC 120 2 (.slice a152 L154.length c153) L154.length (L154.flatMap encS), cellC b30 54 ([(pt b20 0), (pt r22 0)] : List Value), rowC 5 1 (.slice a66 ((p.take 5).length) c67) ((p.take 5).length) ((p.take 5).flatMap encB), cellC b137 47 (([(.int .i64 (0)), (.int .i64 (0))] : List Value) ++ hc hash0 ++ ([(.int .i64 (0)), (.int .i64 (0)), (.int .i64 (0)), (.slice none 0 0)] : List Value)), rowC 49 38 (.slice a155 D157.length c156) D157.length (D157.flatMap encSt)] w151 := (Sat.turnL (L' := [cellC b20 107 ([(.map (some m21))] : List Value), mapC m21 signedV (Value.int .i64) (marks L154), cellC r22 88 ([(.slice a152 L154.length c153)] : List Value), rowC 120 2 (.slice a152 L154.length c153) L154.length (L154.flatMap encS), rowC 49 38 (.slice a155 D157.length c156) D157.length (D157.flatMap encSt)]) (R := [restC w (fun _ => False), cellC b2 38 ([(.int .i64 (withinV nc 4)), (.int .i64 (withinV ns 4))] : List Value), cellC b10 36 ([(.int .i64 (F)), (.int .i64 (3))] : List Value), cellC b30 54 ([(pt b20 0), (pt r22 0)] : List Value), rowC 5 1 (.slice a66 ((p.take 5).length) c67) ((p.take 5).length) ((p.take 5).flatMap encB), cellC b137 47 (([(.int .i64 (0)), (.int .i64 (0))] : List Value) ++ hc hash0 ++ ([(.int .i64 (0)), (.int .i64 (0)), (.int .i64 (0)), (.slice none 0 0)] : List Value))]) H148 [3, 4, 5, 6] [0, 1, 2, 7, 8, 9] (by decide) (by kernel_rfl) rfl T162).pick [5, 6, 7, 0, 1, 2, 3, 8, 9, 10, 4] (by decide)
    obtain ⟨g164, c165, e166⟩ := row_shape (H163.at 10 rfl) (by omega)
    obtain rfl : a155 = some ⟨g164, 0, none⟩ := slice_addrS e166
    have hcapg164 := ListAt.cap (ListAt.row (enc := encSt) (sz := 38) encSt_len (by decide) (H163.at 10 rfl))
    have H167 : Sat w [restC w (fun _ => False), cellC b2 38 ([(.int .i64 (withinV nc 4)), (.int .i64 (withinV ns 4))] : List Value), cellC b10 36 ([(.int .i64 (F)), (.int .i64 (3))] : List Value), cellC b20 107 ([(.map (some m21))] : List Value), mapC m21 signedV (Value.int .i64) (marks L154), cellC r22 88 ([(.slice a152 L154.length c153)] : List Value), rowC 120 2 (.slice a152 L154.length c153) L154.length (L154.flatMap encS), cellC b30 54 ([(pt b20 0), (pt r22 0)] : List Value), rowC 5 1 (.slice a66 ((p.take 5).length) c67) ((p.take 5).length) ((p.take 5).flatMap encB), cellC b137 47 (([(.int .i64 (0)), (.int .i64 (0))] : List Value) ++ hc hash0 ++ ([(.int .i64 (0)), (.int .i64 (0)), (.int .i64 (0)), (.slice none 0 0)] : List Value)), rowC 49 38 (.slice (some ⟨g164, 0, none⟩) D157.length c156) D157.length (D157.flatMap encSt)] w151 := H163
    refine ⟨_, rfl, ?_⟩
    have S168 := H167.pick [0, 1, 2, 7] (by decide)
    refine hK150 _ _ S168 ?_
    clear hK150 K150
    refine h_do 11 rfl (by kernel_rfl) (wants0 rfl) (fun K169 hK169 => ?_)
    refine d_storeX (vs := (([(.int .i64 (Y146.cl)), (.int .i64 (Y146.seq))] : List Value) ++ hc Y146.h ++ ([(.int .i64 (Y146.len)), (.int .i64 (Y146.sb)), (.int .i64 (Y146.sm)), (.slice (some ⟨g164, 0, none⟩) D157.length c156)] : List Value))) (cs' := (([(.int .i64 (Y146.cl)), (.int .i64 (Y146.seq))] : List Value) ++ hc Y146.h ++ ([(.int .i64 (Y146.len)), (.int .i64 (Y146.sb)), (.int .i64 (Y146.sm)), (.slice (some ⟨g164, 0, none⟩) D157.length c156)] : List Value))) rfl H167 9 rfl rfl rfl rfl (by kernel_rfl) (Nat.le_of_ble_eq_true (by kernel_rfl)) (Nat.le_of_ble_eq_true (by kernel_rfl)) (by kernel_rfl) (by kernel_rfl) ?_
    intro w170 (H171 : Sat w [restC w (fun _ => False), cellC b2 38 ([(.int .i64 (withinV nc 4)), (.int .i64 (withinV ns 4))] : List Value), cellC b10 36 ([(.int .i64 (F)), (.int .i64 (3))] : List Value), cellC b20 107 ([(.map (some m21))] : List Value), mapC m21 signedV (Value.int .i64) (marks L154), cellC r22 88 ([(.slice a152 L154.length c153)] : List Value), rowC 120 2 (.slice a152 L154.length c153) L154.length (L154.flatMap encS), cellC b30 54 ([(.pointer (some ⟨b20, 0, none⟩)), (.pointer (some ⟨r22, 0, none⟩))] : List Value), rowC 5 1 (.slice a66 ((p.take 5).length) c67) ((p.take 5).length) ((p.take 5).flatMap encB), cellC b137 47 (([(.int .i64 (Y146.cl)), (.int .i64 (Y146.seq))] : List Value) ++ hc Y146.h ++ ([(.int .i64 (Y146.len)), (.int .i64 (Y146.sb)), (.int .i64 (Y146.sm)), (.slice (some ⟨g164, 0, none⟩) D157.length c156)] : List Value)), rowC 49 38 (.slice (some ⟨g164, 0, none⟩) D157.length c156) D157.length (D157.flatMap encSt)] w170)
    have S173 := H171.pick [0, 1, 2, 7] (by decide)
    refine hK169 _ _ S173 ?_
    clear hK169 K169
    refine h_fin (by kernel_rfl) ?_
    have H174 := H171.pick [2, 7, 3, 4, 5, 6, 10, 9, 0] (by decide)
    refine meetR_at ?_ ⟨b137, g164, c156, Y146, D157, a152, c153, L154, rfl, hok_Y146, l161, (by omega), k158, n159, (by simp only [List.length_nil] at *; omega), H174⟩
    exact (same_upd rfl (same_upd rfl (same_upd rfl (same_upd rfl (same_upd rfl (same_upd rfl (same_upd rfl (same_upd rfl (same_upd rfl (same_upd rfl (same_upd rfl (same_refl))))))))))))
  ·refine d_alloc (zs := (([(.int .i64 (0)), (.int .i64 (0))] : List Value) ++ hc hash0 ++ ([(.int .i64 (0)), (.int .i64 (0)), (.int .i64 (0)), (.slice none 0 0)] : List Value))) (z := (.agg ⟨(([(.int .i64 (0)), (.int .i64 (0))] : List Value) ++ hc hash0 ++ ([(.int .i64 (0)), (.int .i64 (0)), (.int .i64 (0)), (.slice none 0 0)] : List Value))⟩)) rfl H57 (by kernel_rfl) (by kernel_rfl) ?_
   intro b175 w176 (H177 : Sat w [restC w (fun _ => False), cellC b2 38 ([(.int .i64 (withinV nc 4)), (.int .i64 (withinV ns 4))] : List Value), cellC b10 36 ([(.int .i64 (F)), (.int .i64 (3))] : List Value), cellC b20 107 ([(.map (some m21))] : List Value), mapC m21 signedV (Value.int .i64) (marks []), cellC r22 88 ([(.slice none (([] : List Signed).length) 0)] : List Value), rowC 120 2 (.slice none (([] : List Signed).length) 0) (([] : List Signed).length) (([] : List Signed).flatMap encS), cellC b30 54 ([(.pointer (some ⟨b20, 0, none⟩)), (.pointer (some ⟨r22, 0, none⟩))] : List Value), cellC b175 47 (([(.int .i64 (0)), (.int .i64 (0))] : List Value) ++ hc hash0 ++ ([(.int .i64 (0)), (.int .i64 (0)), (.int .i64 (0)), (.slice none 0 0)] : List Value))] w176)
   have S178 := H177.pick [0, 1, 2, 7] (by decide)
   refine hK59 _ _ S178 ?_
   clear hK59 K59
   refine h_do 5 rfl (by kernel_rfl) (wants0 rfl) (fun K179 hK179 => ?_)
   refine d_call (d := 42) rfl (by kernel_rfl) (cutB_at w176 (.slice pa p.length pc) p  5 (ListAt.now H177 0 rfl hp) (by omega)) ?_
   rintro _ w180 ⟨u181, rfl, k182, p183, q184⟩
   have H185 : Sat w [restC w (fun _ => False), cellC b2 38 ([(.int .i64 (withinV nc 4)), (.int .i64 (withinV ns 4))] : List Value), cellC b10 36 ([(.int .i64 (F)), (.int .i64 (3))] : List Value), cellC b20 107 ([(.map (some m21))] : List Value), mapC m21 signedV (Value.int .i64) (marks []), cellC r22 88 ([(.slice none (([] : List Signed).length) 0)] : List Value), rowC 120 2 (.slice none (([] : List Signed).length) 0) (([] : List Signed).length) (([] : List Signed).flatMap encS), cellC b30 54 ([(pt b20 0), (pt r22 0)] : List Value), cellC b175 47 (([(.int .i64 (0)), (.int .i64 (0))] : List Value) ++ hc hash0 ++ ([(.int .i64 (0)), (.int .i64 (0)), (.int .i64 (0)), (.slice none 0 0)] : List Value)), rowC 5 1 u181 ((p.take 5).length) ((p.take 5).flatMap encB)] w180 := H177.addU p183 k182 q184
   obtain ⟨a186, c187, rfl⟩ := ownsRow_shape (H185.at 9 rfl)
   refine ⟨_, rfl, ?_⟩
   have S188 := H185.pick [0, 1, 2, 7] (by decide)
   refine hK179 _ _ S188 ?_
   clear hK179 K179
   refine h_do 6 rfl (by kernel_rfl) (wants0 rfl) (fun K189 hK189 => ?_)
   refine d_call (d := 43) rfl (by kernel_rfl) (bkCommit_any w180 b20 m21 r22 none 0 ([] : List Signed) (H185.fin [3, 4, 5, 6] (by decide) rfl) (withinV nc 4) (withinV ns 4) a186 c187 (p.take 5) (ListAt.row (enc := encB) (sz := 1) encB_len (by decide) (H185.at 9 rfl)) (off_row (e := 5) (k := 1) (xs := ((p.take 5).flatMap encB)) (n := (p.take 5).length) (c := c187) (fun b_ hb_ => H185.offP [3, 4, 5, 6] 9 rfl rfl (by decide) hb_)) (by omega) (by omega) (by omega) (by omega) List.nodup_nil) ?_
   rintro _ w190 ⟨a192, c193, rfl, T191⟩
   obtain ⟨L195, hL195⟩ : ∃ L195 : List Signed, L195 = signL ([] : List Signed) (yC (withinV nc 4) (withinV ns 4) hash0 (p.take 5)) := ⟨_, rfl⟩
   rw [← hL195] at T191
   have H196 : Sat w [restC w (fun _ => False), cellC b2 38 ([(.int .i64 (withinV nc 4)), (.int .i64 (withinV ns 4))] : List Value), cellC b10 36 ([(.int .i64 (F)), (.int .i64 (3))] : List Value), cellC b20 107 ([(.map (some m21))] : List Value), mapC m21 signedV (Value.int .i64) (marks L195), cellC r22 88 ([(.slice a192 L195.length c193)] : List Value), rowC 120 2 (.slice a192 L195.length c193) L195.length (L195.flatMap encS), cellC b30 54 ([(pt b20 0), (pt r22 0)] : List Value), cellC b175 47 (([(.int .i64 (0)), (.int .i64 (0))] : List Value) ++ hc hash0 ++ ([(.int .i64 (0)), (.int .i64 (0)), (.int .i64 (0)), (.slice none 0 0)] : List Value)), rowC 5 1 (.slice a186 ((p.take 5).length) c187) ((p.take 5).length) ((p.take 5).flatMap encB)] w190 := (Sat.turnL (L' := [cellC b20 107 ([(.map (some m21))] : List Value), mapC m21 signedV (Value.int .i64) (marks L195), cellC r22 88 ([(.slice a192 L195.length c193)] : List Value), rowC 120 2 (.slice a192 L195.length c193) L195.length (L195.flatMap encS)]) (R := [restC w (fun _ => False), cellC b2 38 ([(.int .i64 (withinV nc 4)), (.int .i64 (withinV ns 4))] : List Value), cellC b10 36 ([(.int .i64 (F)), (.int .i64 (3))] : List Value), cellC b30 54 ([(pt b20 0), (pt r22 0)] : List Value), cellC b175 47 (([(.int .i64 (0)), (.int .i64 (0))] : List Value) ++ hc hash0 ++ ([(.int .i64 (0)), (.int .i64 (0)), (.int .i64 (0)), (.slice none 0 0)] : List Value)), rowC 5 1 (.slice a186 ((p.take 5).length) c187) ((p.take 5).length) ((p.take 5).flatMap encB)]) H185 [3, 4, 5, 6] [0, 1, 2, 7, 8, 9] (by decide) (by kernel_rfl) rfl T191).pick [4, 5, 6, 0, 1, 2, 3, 7, 8, 9] (by decide)
   refine ⟨_, rfl, ?_⟩
   obtain ⟨Y194, hY194⟩ : ∃ Y194 : CommitD, Y194 = mkC ([] : List Signed) (withinV nc 4) (withinV ns 4) hash0 (p.take 5) := ⟨_, rfl⟩
   rw [← hY194]
   have hgY194 : GoodC L195 Y194 := by rw [hL195, hY194]; exact goodC_new _ _ _ _ _
   have ndL195 : L195.Nodup := by rw [hL195]; exact signL_nodup List.nodup_nil _
   have llL195 : L195.length ≤ ([] : List Signed).length + 1 := by rw [hL195]; exact signL_len _ _
   have clY194 : Y194.cl = withinV nc 4 := by rw [hY194]; rfl
   have sqY194 : Y194.seq = withinV ns 4 := by rw [hY194]; rfl
   have lnY194 : Y194.len = (p.take 5).length := by rw [hY194]; rfl
   have hok_Y194 : CoOk Y194 := ⟨by omega, by omega, by omega⟩
   have S197 := H196.pick [0, 1, 2, 7] (by decide)
   refine hK189 _ _ S197 ?_
   clear hK189 K189
   refine h_do 9 rfl (by kernel_rfl) (wants0 rfl) (fun K198 hK198 => ?_)
   refine d_call (d := 46) rfl (by kernel_rfl) (bkCert_any w190 b20 m21 r22 a192 c193 L195 (H196.fin [3, 4, 5, 6] (by decide) rfl) F 3 (by omega) Y194 hok_Y194 from_ (by omega) ndL195 va vc xs (ListAt.now H196 0 rfl hxs) hbd (list_offS encU_len (by decide) H196 [3, 4, 5, 6] 0 rfl rfl (by decide) hxs)) ?_
   rintro _ w199 ⟨a200, c201, L202, a203, c204, D205, rfl, l209, k206, n207, l208, T210⟩
   have H211 : Sat w [restC w (fun _ => False), cellC b2 38 ([(.int .i64 (withinV nc 4)), (.int .i64 (withinV ns 4))] : List Value), cellC b10 36 ([(.int .i64 (F)), (.int .i64 (3))] : List Value), cellC b20 107 ([(.map (some m21))] : List Value), mapC m21 signedV (Value.int .i64) (marks L202), cellC r22 88 ([(.slice a200 L202.length c201)] : List Value), rowC 120 2 (.slice a200 L202.length c201) L202.length (L202.flatMap encS), cellC b30 54 ([(pt b20 0), (pt r22 0)] : List Value), cellC b175 47 (([(.int .i64 (0)), (.int .i64 (0))] : List Value) ++ hc hash0 ++ ([(.int .i64 (0)), (.int .i64 (0)), (.int .i64 (0)), (.slice none 0 0)] : List Value)), rowC 5 1 (.slice a186 ((p.take 5).length) c187) ((p.take 5).length) ((p.take 5).flatMap encB), rowC 49 38 (.slice a203 D205.length c204) D205.length (D205.flatMap encSt)] w199 := (Sat.turnL (L' := [cellC b20 107 ([(.map (some m21))] : List Value), mapC m21 signedV (Value.int .i64) (marks L202), cellC r22 88 ([(.slice a200 L202.length c201)] : List Value), rowC 120 2 (.slice a200 L202.length c201) L202.length (L202.flatMap encS), rowC 49 38 (.slice a203 D205.length c204) D205.length (D205.flatMap encSt)]) (R := [restC w (fun _ => False), cellC b2 38 ([(.int .i64 (withinV nc 4)), (.int .i64 (withinV ns 4))] : List Value), cellC b10 36 ([(.int .i64 (F)), (.int .i64 (3))] : List Value), cellC b30 54 ([(pt b20 0), (pt r22 0)] : List Value), cellC b175 47 (([(.int .i64 (0)), (.int .i64 (0))] : List Value) ++ hc hash0 ++ ([(.int .i64 (0)), (.int .i64 (0)), (.int .i64 (0)), (.slice none 0 0)] : List Value)), rowC 5 1 (.slice a186 ((p.take 5).length) c187) ((p.take 5).length) ((p.take 5).flatMap encB)]) H196 [3, 4, 5, 6] [0, 1, 2, 7, 8, 9] (by decide) (by kernel_rfl) rfl T210).pick [5, 6, 7, 0, 1, 2, 3, 8, 9, 10, 4] (by decide)
   obtain ⟨g212, c213, e214⟩ := row_shape (H211.at 10 rfl) (by omega)
   obtain rfl : a203 = some ⟨g212, 0, none⟩ := slice_addrS e214
   have hcapg212 := ListAt.cap (ListAt.row (enc := encSt) (sz := 38) encSt_len (by decide) (H211.at 10 rfl))
   have H215 : Sat w [restC w (fun _ => False), cellC b2 38 ([(.int .i64 (withinV nc 4)), (.int .i64 (withinV ns 4))] : List Value), cellC b10 36 ([(.int .i64 (F)), (.int .i64 (3))] : List Value), cellC b20 107 ([(.map (some m21))] : List Value), mapC m21 signedV (Value.int .i64) (marks L202), cellC r22 88 ([(.slice a200 L202.length c201)] : List Value), rowC 120 2 (.slice a200 L202.length c201) L202.length (L202.flatMap encS), cellC b30 54 ([(pt b20 0), (pt r22 0)] : List Value), cellC b175 47 (([(.int .i64 (0)), (.int .i64 (0))] : List Value) ++ hc hash0 ++ ([(.int .i64 (0)), (.int .i64 (0)), (.int .i64 (0)), (.slice none 0 0)] : List Value)), rowC 5 1 (.slice a186 ((p.take 5).length) c187) ((p.take 5).length) ((p.take 5).flatMap encB), rowC 49 38 (.slice (some ⟨g212, 0, none⟩) D205.length c204) D205.length (D205.flatMap encSt)] w199 := H211
   refine ⟨_, rfl, ?_⟩
   have S216 := H215.pick [0, 1, 2, 7] (by decide)
   refine hK198 _ _ S216 ?_
   clear hK198 K198
   refine h_do 11 rfl (by kernel_rfl) (wants0 rfl) (fun K217 hK217 => ?_)
   refine d_storeX (vs := (([(.int .i64 (Y194.cl)), (.int .i64 (Y194.seq))] : List Value) ++ hc Y194.h ++ ([(.int .i64 (Y194.len)), (.int .i64 (Y194.sb)), (.int .i64 (Y194.sm)), (.slice (some ⟨g212, 0, none⟩) D205.length c204)] : List Value))) (cs' := (([(.int .i64 (Y194.cl)), (.int .i64 (Y194.seq))] : List Value) ++ hc Y194.h ++ ([(.int .i64 (Y194.len)), (.int .i64 (Y194.sb)), (.int .i64 (Y194.sm)), (.slice (some ⟨g212, 0, none⟩) D205.length c204)] : List Value))) rfl H215 8 rfl rfl rfl rfl (by kernel_rfl) (Nat.le_of_ble_eq_true (by kernel_rfl)) (Nat.le_of_ble_eq_true (by kernel_rfl)) (by kernel_rfl) (by kernel_rfl) ?_
   intro w218 (H219 : Sat w [restC w (fun _ => False), cellC b2 38 ([(.int .i64 (withinV nc 4)), (.int .i64 (withinV ns 4))] : List Value), cellC b10 36 ([(.int .i64 (F)), (.int .i64 (3))] : List Value), cellC b20 107 ([(.map (some m21))] : List Value), mapC m21 signedV (Value.int .i64) (marks L202), cellC r22 88 ([(.slice a200 L202.length c201)] : List Value), rowC 120 2 (.slice a200 L202.length c201) L202.length (L202.flatMap encS), cellC b30 54 ([(.pointer (some ⟨b20, 0, none⟩)), (.pointer (some ⟨r22, 0, none⟩))] : List Value), cellC b175 47 (([(.int .i64 (Y194.cl)), (.int .i64 (Y194.seq))] : List Value) ++ hc Y194.h ++ ([(.int .i64 (Y194.len)), (.int .i64 (Y194.sb)), (.int .i64 (Y194.sm)), (.slice (some ⟨g212, 0, none⟩) D205.length c204)] : List Value)), rowC 5 1 (.slice a186 ((p.take 5).length) c187) ((p.take 5).length) ((p.take 5).flatMap encB), rowC 49 38 (.slice (some ⟨g212, 0, none⟩) D205.length c204) D205.length (D205.flatMap encSt)] w218)
   have S221 := H219.pick [0, 1, 2, 7] (by decide)
   refine hK217 _ _ S221 ?_
   clear hK217 K217
   refine h_fin (by kernel_rfl) ?_
   have H222 := H219.pick [2, 7, 3, 4, 5, 6, 10, 8, 0] (by decide)
   refine meetR_at ?_ ⟨b175, g212, c204, Y194, D205, a200, c201, L202, rfl, hok_Y194, l209, (by omega), k206, n207, (by simp only [List.length_nil] at *; omega), H222⟩
   exact (same_upd rfl (same_upd rfl (same_upd rfl (same_upd rfl (same_upd rfl (same_upd rfl (same_upd rfl (same_upd rfl (same_upd rfl (same_upd rfl (same_upd rfl (same_refl))))))))))))
 ·rintro f223 w224 ⟨yb, gD, dc, Y, D, ra, rc, L, v226, hokY, hDl, hcapD, hok, hnd, hLl, H225⟩
  refine wp_know 18 _ v226 ?_
  refine w_seq ?_
  refine w_lit ?_
  refine wv 47 (.int .i64 (at_)) ?_
  refine wv 48 (pt yb 37) ?_
  refine wv 49 (.slice (some ⟨gD, 0, none⟩) D.length dc) ?_ (hr := e_load1 rfl (by kernel_rfl) (H225.cell 7 rfl (by kernel_rfl)))
  refine wv 50 (.int .i64 ((D.length : Int))) ?_
  refine wl_do (wants0 rfl) (fun K227 hK227 => ?_)
  refine d_call (d := 51) rfl (by kernel_rfl) (within_any w224 at_ (D.length : Int) (by omega)) ?_
  rintro _ w228 ⟨rfl, u230⟩
  have H229 := H225.keepU u230
  refine ⟨_, rfl, ?_⟩
  refine hK227 _ _ ?_
  clear hK227 K227
  refine wv 6 (.int .i64 (withinV at_ (D.length : Int))) ?_
  refine w_nil ?_
  refine then_normal ?_
  have hwa := within_lim at_ (D.length : Int) (by omega)
  obtain ⟨K, hK⟩ : ∃ K : Nat, (K : Int) = withinV at_ (D.length : Int) := ⟨(withinV at_ (D.length : Int)).toNat, by omega⟩
  have hKD : K < D.length := by omega
  refine wp_know 6 (.int .i64 ((K : Int))) (show ((.int .i64 (withinV at_ (D.length : Int))) : Value) = _ by rw [hK]) ?_
  refine wp_meetR (([19, 52, 53, 54, 55, 56, 57, 58, 59, 60, 61, 62, 63, 64, 65, 66, 67, 68, 69, 70, 71, 72, 73, 74, 75, 76, 77, 78, 79, 80, 81, 82, 83, 84, 85, 86, 87, 88, 89, 90] : List Nat) ++ ([91, 92, 93, 94, 95, 96, 97, 98, 99, 100, 101, 102, 103, 104, 105, 106, 107, 108, 109, 110, 111, 112, 113, 114, 115, 116, 117, 118, 119, 120, 121, 122, 123, 124, 125, 126, 127, 128, 129, 130] : List Nat) ++ ([131, 132, 133, 134, 135, 136, 137, 138, 139, 140, 141, 142, 143, 144, 145, 146, 147, 148, 149, 150, 151, 152, 153, 154, 155, 156, 157, 158, 159, 160, 161, 162, 163, 164, 165, 166, 167, 168, 169, 170] : List Nat) ++ ([171, 172, 173, 174] : List Nat)) (fun G_ W_ => ∃ (x2 : CommitD) (tv : Value) (T : List StampD) (ra2 : Option Addr) (rc2 : Nat) (L2 : List Signed), (CoOk x2) ∧ (∀ s ∈ T, StOk s) ∧ (0 < T.length) ∧ (T.length ≤ 8) ∧ (L2.Nodup) ∧ (L2.length ≤ 100) ∧ Sat w [cellC b10 36 ([(.int .i64 (F)), (.int .i64 (3))] : List Value), cellC b30 54 ([(pt b20 0), (pt r22 0)] : List Value), cellC b20 107 ([(.map (some m21))] : List Value), mapC m21 signedV (Value.int .i64) (marks L2), cellC r22 88 ([(.slice ra2 L2.length rc2)] : List Value), rowC 120 2 (.slice ra2 L2.length rc2) L2.length (L2.flatMap encS), stsC tv T, cellC yb 47 (([(.int .i64 (x2.cl)), (.int .i64 (x2.seq))] : List Value) ++ hc x2.h ++ ([(.int .i64 (x2.len)), (.int .i64 (x2.sb)), (.int .i64 (x2.sm)), tv] : List Value)), restC w (fun _ => False)] W_) ?_ ?_
  ·refine w_seq ?_
   refine w_lit ?_
   refine wv 52 (.int .i64 (what)) ?_
   refine wl_do (wants0 rfl) (fun K232 hK232 => ?_)
   refine d_call (d := 53) rfl (by kernel_rfl) (within_any w228 what 10 (by omega)) ?_
   rintro _ w233 ⟨rfl, u235⟩
   have H234 := H229.keepU u235
   refine ⟨_, rfl, ?_⟩
   refine hK232 _ _ ?_
   clear hK232 K232
   refine w_nil ?_
   refine then_normal ?_
   refine w_block ?_
   refine w_seq ?_
   refine w_lit ?_
   refine wv 55 (.bool (decide ((withinV what 10) = 1))) ?_
   refine wv 54 (.bool (decide ((withinV what 10) = 1))) ?_
   refine w_nil ?_
   refine then_normal ?_
   refine (bsplit (decide ((withinV what 10) = 1))).elim (fun b236 => ?_) (fun b236 => ?_)
   ·have g237 := of_decide_eq_true b236
    refine wp_know 54 (.bool true) (congrArg Value.bool b236) ?_
    have g238 := of_decide_eq_true b236
    refine wp_ift rfl ?_
    refine w_lit ?_
    refine wv 56 (pt yb 37) ?_
    refine wv 57 (.slice (some ⟨gD, 0, none⟩) D.length dc) ?_ (hr := e_load1 rfl (by kernel_rfl) (H234.cell 7 rfl (by kernel_rfl)))
    refine wv 58 (.int .i64 ((K : Int))) ?_
    obtain ⟨x239, h240⟩ := get_at (show K < D.length by omega)
    have hox239 : StOk x239 := hok _ (List.mem_of_getElem? h240)
    have hrx239 := hox239.1
    refine wv 59 (.pointer (some ⟨gD, 0 + ((K : Int)).toNat * 38, none⟩)) ?_ (hr := e_indexAddr (E := 49) (by kernel_rfl) (by kernel_rfl) (Nat.le_of_ble_eq_true rfl) rfl rfl (by omega) (by omega))
    refine wv 60 (.pointer (some ⟨gD, 0 + ((K : Int)).toNat * 38 + 35, none⟩)) ?_
    refine wv 61 (.int .u64 (x239.t)) ?_ (hr := e_load1 rfl (by kernel_rfl) (rows_cell (H234.at 6 rfl) rfl encSt_len h240 35 rfl (show 0 + ((K : Int)).toNat * 38 + 35 = K * 38 + 35 by omega) (by kernel_rfl)))
    refine wv 62 (.int .u64 (IntKind.u64.wrap (x239.t + 1))) ?_
    refine wv 63 (.pointer (some ⟨gD, 0 + ((K : Int)).toNat * 38, none⟩)) ?_ (hr := e_indexAddr (E := 49) (by kernel_rfl) (by kernel_rfl) (Nat.le_of_ble_eq_true rfl) rfl rfl (by omega) (by omega))
    refine wv 64 (.pointer (some ⟨gD, 0 + ((K : Int)).toNat * 38 + 35, none⟩)) ?_
    refine wl_do (wants0 rfl) (fun K241 hK241 => ?_)
    refine d_storeS (size := 38) (vs := ([(.int .u64 (IntKind.u64.wrap (x239.t + 1)))] : List Value)) encSt_len rfl H234 6 rfl rfl rfl rfl (by kernel_rfl) (Nat.le_of_ble_eq_true (by kernel_rfl)) (by kernel_rfl) K 35 (⟨x239.r, x239.cl, x239.seq, x239.h, IntKind.u64.wrap (x239.t + 1), x239.sb, x239.sm⟩ : StampD) h240 (show 0 + ((K : Int)).toNat * 38 + 35 = K * 38 + 35 by omega) (Nat.le_of_ble_eq_true (by kernel_rfl)) (by kernel_rfl) ?_
    intro w242 (H243 : Sat w [cellC b10 36 ([(.int .i64 (F)), (.int .i64 (3))] : List Value), cellC b30 54 ([(.pointer (some ⟨b20, 0, none⟩)), (.pointer (some ⟨r22, 0, none⟩))] : List Value), cellC b20 107 ([(.map (some m21))] : List Value), mapC m21 signedV (Value.int .i64) (marks L), cellC r22 88 ([(.slice ra L.length rc)] : List Value), rowC 120 2 (.slice ra L.length rc) L.length (L.flatMap encS), rowC 49 38 (.slice (some ⟨gD, 0, none⟩) D.length dc) D.length ((D.set K (⟨x239.r, x239.cl, x239.seq, x239.h, IntKind.u64.wrap (x239.t + 1), x239.sb, x239.sm⟩ : StampD)).flatMap encSt), cellC yb 47 (([(.int .i64 (Y.cl)), (.int .i64 (Y.seq))] : List Value) ++ hc Y.h ++ ([(.int .i64 (Y.len)), (.int .i64 (Y.sb)), (.int .i64 (Y.sm)), (.slice (some ⟨gD, 0, none⟩) D.length dc)] : List Value)), restC w (fun _ => False)] w242)
    have hlw242 : (D.set K (⟨x239.r, x239.cl, x239.seq, x239.h, IntKind.u64.wrap (x239.t + 1), x239.sb, x239.sm⟩ : StampD)).length = D.length := List.length_set
    refine hK241 _ _ ?_
    clear hK241 K241
    refine w_nil ?_
    refine blk_normal ?_
    have H244 := (H243.conv 6 rfl (stsC_row) (fun b hb => hb.2)).pick [0, 1, 2, 3, 4, 5, 6, 7, 8] (by decide)
    refine meetR_at ?_ ⟨Y, (.slice (some ⟨gD, 0, none⟩) D.length dc), (D.set K (⟨x239.r, x239.cl, x239.seq, x239.h, IntKind.u64.wrap (x239.t + 1), x239.sb, x239.sm⟩ : StampD)), ra, rc, L, hokY, (fun s hs => (List.mem_or_eq_of_mem_set hs).elim (hok s) (fun e => by rw [e]; exact ⟨hox239.1, hox239.2.1, hox239.2.2.1, (wrap_u64_rng _).1, (wrap_u64_rng _).2⟩)), (by simp only [List.length_set, List.length_append, List.length_cons, List.length_nil]; omega), (by simp only [List.length_set, List.length_append, List.length_cons, List.length_nil]; omega), hnd, (by omega), H244⟩
    exact (same_upd rfl (same_upd rfl (same_upd rfl (same_upd rfl (same_upd rfl (same_upd rfl (same_upd rfl (same_upd rfl (same_upd rfl (same_upd rfl (same_upd rfl (same_upd rfl (same_upd rfl (same_upd rfl (same_refl)))))))))))))))
   ·have g245 := of_decide_eq_false b236
    refine wp_know 54 (.bool false) (congrArg Value.bool b236) ?_
    have g246 := of_decide_eq_false b236
    refine wp_iff rfl ?_
    refine w_seq ?_
    refine w_lit ?_
    refine wv 66 (.bool (decide ((withinV what 10) = 2))) ?_
    refine wv 65 (.bool (decide ((withinV what 10) = 2))) ?_
    refine w_nil ?_
    refine then_normal ?_
    refine (bsplit (decide ((withinV what 10) = 2))).elim (fun b247 => ?_) (fun b247 => ?_)
    ·have g248 := of_decide_eq_true b247
     refine wp_know 65 (.bool true) (congrArg Value.bool b247) ?_
     have g249 := of_decide_eq_true b247
     refine wp_ift rfl ?_
     refine w_lit ?_
     refine wv 67 (pt yb 37) ?_
     refine wv 68 (.slice (some ⟨gD, 0, none⟩) D.length dc) ?_ (hr := e_load1 rfl (by kernel_rfl) (H234.cell 7 rfl (by kernel_rfl)))
     refine wv 69 (.int .i64 ((K : Int))) ?_
     obtain ⟨x250, h251⟩ := get_at (show K < D.length by omega)
     have hox250 : StOk x250 := hok _ (List.mem_of_getElem? h251)
     have hrx250 := hox250.1
     refine wv 70 (.pointer (some ⟨gD, 0 + ((K : Int)).toNat * 38, none⟩)) ?_ (hr := e_indexAddr (E := 49) (by kernel_rfl) (by kernel_rfl) (Nat.le_of_ble_eq_true rfl) rfl rfl (by omega) (by omega))
     refine wv 71 (.pointer (some ⟨gD, 0 + ((K : Int)).toNat * 38, none⟩)) ?_
     refine wv 72 (.int .i64 (x250.r)) ?_ (hr := e_load1 rfl (by kernel_rfl) (rows_cell (H234.at 6 rfl) rfl encSt_len h251 0 rfl (show 0 + ((K : Int)).toNat * 38 = K * 38 + 0 by omega) (by kernel_rfl)))
     refine wv 73 (.int .i64 (IntKind.i64.wrap (x250.r + 1))) ?_
     refine wv 74 (.pointer (some ⟨gD, 0 + ((K : Int)).toNat * 38, none⟩)) ?_ (hr := e_indexAddr (E := 49) (by kernel_rfl) (by kernel_rfl) (Nat.le_of_ble_eq_true rfl) rfl rfl (by omega) (by omega))
     refine wv 75 (.pointer (some ⟨gD, 0 + ((K : Int)).toNat * 38, none⟩)) ?_
     refine wl_do (wants0 rfl) (fun K252 hK252 => ?_)
     refine d_storeS (size := 38) (vs := ([(.int .i64 (IntKind.i64.wrap (x250.r + 1)))] : List Value)) encSt_len rfl H234 6 rfl rfl rfl rfl (by kernel_rfl) (Nat.le_of_ble_eq_true (by kernel_rfl)) (by kernel_rfl) K 0 (⟨IntKind.i64.wrap (x250.r + 1), x250.cl, x250.seq, x250.h, x250.t, x250.sb, x250.sm⟩ : StampD) h251 (show 0 + ((K : Int)).toNat * 38 = K * 38 + 0 by omega) (Nat.le_of_ble_eq_true (by kernel_rfl)) (by kernel_rfl) ?_
     intro w253 (H254 : Sat w [cellC b10 36 ([(.int .i64 (F)), (.int .i64 (3))] : List Value), cellC b30 54 ([(.pointer (some ⟨b20, 0, none⟩)), (.pointer (some ⟨r22, 0, none⟩))] : List Value), cellC b20 107 ([(.map (some m21))] : List Value), mapC m21 signedV (Value.int .i64) (marks L), cellC r22 88 ([(.slice ra L.length rc)] : List Value), rowC 120 2 (.slice ra L.length rc) L.length (L.flatMap encS), rowC 49 38 (.slice (some ⟨gD, 0, none⟩) D.length dc) D.length ((D.set K (⟨IntKind.i64.wrap (x250.r + 1), x250.cl, x250.seq, x250.h, x250.t, x250.sb, x250.sm⟩ : StampD)).flatMap encSt), cellC yb 47 (([(.int .i64 (Y.cl)), (.int .i64 (Y.seq))] : List Value) ++ hc Y.h ++ ([(.int .i64 (Y.len)), (.int .i64 (Y.sb)), (.int .i64 (Y.sm)), (.slice (some ⟨gD, 0, none⟩) D.length dc)] : List Value)), restC w (fun _ => False)] w253)
     have hlw253 : (D.set K (⟨IntKind.i64.wrap (x250.r + 1), x250.cl, x250.seq, x250.h, x250.t, x250.sb, x250.sm⟩ : StampD)).length = D.length := List.length_set
     refine hK252 _ _ ?_
     clear hK252 K252
     refine w_nil ?_
     refine blk_normal ?_
     have H255 := (H254.conv 6 rfl (stsC_row) (fun b hb => hb.2)).pick [0, 1, 2, 3, 4, 5, 6, 7, 8] (by decide)
     refine meetR_at ?_ ⟨Y, (.slice (some ⟨gD, 0, none⟩) D.length dc), (D.set K (⟨IntKind.i64.wrap (x250.r + 1), x250.cl, x250.seq, x250.h, x250.t, x250.sb, x250.sm⟩ : StampD)), ra, rc, L, hokY, (fun s hs => (List.mem_or_eq_of_mem_set hs).elim (hok s) (fun e => by rw [e]; exact ⟨wrap_i64_le _, hox250.2.1, hox250.2.2.1, hox250.2.2.2.1, hox250.2.2.2.2⟩)), (by simp only [List.length_set, List.length_append, List.length_cons, List.length_nil]; omega), (by simp only [List.length_set, List.length_append, List.length_cons, List.length_nil]; omega), hnd, (by omega), H255⟩
     exact (same_upd rfl (same_upd rfl (same_upd rfl (same_upd rfl (same_upd rfl (same_upd rfl (same_upd rfl (same_upd rfl (same_upd rfl (same_upd rfl (same_upd rfl (same_upd rfl (same_upd rfl (same_upd rfl (same_upd rfl (same_upd rfl (same_upd rfl (same_refl))))))))))))))))))
    ·have g256 := of_decide_eq_false b247
     refine wp_know 65 (.bool false) (congrArg Value.bool b247) ?_
     have g257 := of_decide_eq_false b247
     refine wp_iff rfl ?_
     refine w_seq ?_
     refine w_lit ?_
     refine wv 77 (.bool (decide ((withinV what 10) = 3))) ?_
     refine wv 76 (.bool (decide ((withinV what 10) = 3))) ?_
     refine w_nil ?_
     refine then_normal ?_
     refine (bsplit (decide ((withinV what 10) = 3))).elim (fun b258 => ?_) (fun b258 => ?_)
     ·have g259 := of_decide_eq_true b258
      refine wp_know 76 (.bool true) (congrArg Value.bool b258) ?_
      have g260 := of_decide_eq_true b258
      refine wp_ift rfl ?_
      refine w_lit ?_
      refine wv 78 (pt yb 37) ?_
      refine wv 79 (.slice (some ⟨gD, 0, none⟩) D.length dc) ?_ (hr := e_load1 rfl (by kernel_rfl) (H234.cell 7 rfl (by kernel_rfl)))
      refine wv 80 (.int .i64 ((K : Int))) ?_
      obtain ⟨x261, h262⟩ := get_at (show K < D.length by omega)
      have hox261 : StOk x261 := hok _ (List.mem_of_getElem? h262)
      have hrx261 := hox261.1
      refine wv 81 (.pointer (some ⟨gD, 0 + ((K : Int)).toNat * 38, none⟩)) ?_ (hr := e_indexAddr (E := 49) (by kernel_rfl) (by kernel_rfl) (Nat.le_of_ble_eq_true rfl) rfl rfl (by omega) (by omega))
      refine wv 82 (.pointer (some ⟨gD, 0 + ((K : Int)).toNat * 38 + 36, none⟩)) ?_
      refine wv 83 (.pointer (some ⟨gD, 0 + ((K : Int)).toNat * 38 + 36 + 1, none⟩)) ?_
      refine wv 84 (.int .i64 (x261.sm)) ?_ (hr := e_load1 rfl (by kernel_rfl) (rows_cell (H234.at 6 rfl) rfl encSt_len h262 37 rfl (show 0 + ((K : Int)).toNat * 38 + 36 + 1 = K * 38 + 37 by omega) (by kernel_rfl)))
      refine wv 85 (.int .i64 (IntKind.i64.wrap (x261.sm + 1))) ?_
      refine wv 86 (.pointer (some ⟨gD, 0 + ((K : Int)).toNat * 38, none⟩)) ?_ (hr := e_indexAddr (E := 49) (by kernel_rfl) (by kernel_rfl) (Nat.le_of_ble_eq_true rfl) rfl rfl (by omega) (by omega))
      refine wv 87 (.pointer (some ⟨gD, 0 + ((K : Int)).toNat * 38 + 36, none⟩)) ?_
      refine wv 88 (.pointer (some ⟨gD, 0 + ((K : Int)).toNat * 38 + 36 + 1, none⟩)) ?_
      refine wl_do (wants0 rfl) (fun K263 hK263 => ?_)
      refine d_storeS (size := 38) (vs := ([(.int .i64 (IntKind.i64.wrap (x261.sm + 1)))] : List Value)) encSt_len rfl H234 6 rfl rfl rfl rfl (by kernel_rfl) (Nat.le_of_ble_eq_true (by kernel_rfl)) (by kernel_rfl) K 37 (⟨x261.r, x261.cl, x261.seq, x261.h, x261.t, x261.sb, IntKind.i64.wrap (x261.sm + 1)⟩ : StampD) h262 (show 0 + ((K : Int)).toNat * 38 + 36 + 1 = K * 38 + 37 by omega) (Nat.le_of_ble_eq_true (by kernel_rfl)) (by kernel_rfl) ?_
      intro w264 (H265 : Sat w [cellC b10 36 ([(.int .i64 (F)), (.int .i64 (3))] : List Value), cellC b30 54 ([(.pointer (some ⟨b20, 0, none⟩)), (.pointer (some ⟨r22, 0, none⟩))] : List Value), cellC b20 107 ([(.map (some m21))] : List Value), mapC m21 signedV (Value.int .i64) (marks L), cellC r22 88 ([(.slice ra L.length rc)] : List Value), rowC 120 2 (.slice ra L.length rc) L.length (L.flatMap encS), rowC 49 38 (.slice (some ⟨gD, 0, none⟩) D.length dc) D.length ((D.set K (⟨x261.r, x261.cl, x261.seq, x261.h, x261.t, x261.sb, IntKind.i64.wrap (x261.sm + 1)⟩ : StampD)).flatMap encSt), cellC yb 47 (([(.int .i64 (Y.cl)), (.int .i64 (Y.seq))] : List Value) ++ hc Y.h ++ ([(.int .i64 (Y.len)), (.int .i64 (Y.sb)), (.int .i64 (Y.sm)), (.slice (some ⟨gD, 0, none⟩) D.length dc)] : List Value)), restC w (fun _ => False)] w264)
      have hlw264 : (D.set K (⟨x261.r, x261.cl, x261.seq, x261.h, x261.t, x261.sb, IntKind.i64.wrap (x261.sm + 1)⟩ : StampD)).length = D.length := List.length_set
      refine hK263 _ _ ?_
      clear hK263 K263
      refine w_nil ?_
      refine blk_normal ?_
      have H266 := (H265.conv 6 rfl (stsC_row) (fun b hb => hb.2)).pick [0, 1, 2, 3, 4, 5, 6, 7, 8] (by decide)
      refine meetR_at ?_ ⟨Y, (.slice (some ⟨gD, 0, none⟩) D.length dc), (D.set K (⟨x261.r, x261.cl, x261.seq, x261.h, x261.t, x261.sb, IntKind.i64.wrap (x261.sm + 1)⟩ : StampD)), ra, rc, L, hokY, (fun s hs => (List.mem_or_eq_of_mem_set hs).elim (hok s) (fun e => by rw [e]; exact ⟨hox261.1, hox261.2.1, hox261.2.2.1, hox261.2.2.2.1, hox261.2.2.2.2⟩)), (by simp only [List.length_set, List.length_append, List.length_cons, List.length_nil]; omega), (by simp only [List.length_set, List.length_append, List.length_cons, List.length_nil]; omega), hnd, (by omega), H266⟩
      exact (same_upd rfl (same_upd rfl (same_upd rfl (same_upd rfl (same_upd rfl (same_upd rfl (same_upd rfl (same_upd rfl (same_upd rfl (same_upd rfl (same_upd rfl (same_upd rfl (same_upd rfl (same_upd rfl (same_upd rfl (same_upd rfl (same_upd rfl (same_upd rfl (same_upd rfl (same_upd rfl (same_upd rfl (same_upd rfl (same_refl)))))))))))))))))))))))
     ·have g267 := of_decide_eq_false b258
      refine wp_know 76 (.bool false) (congrArg Value.bool b258) ?_
      have g268 := of_decide_eq_false b258
      refine wp_iff rfl ?_
      refine w_seq ?_
      refine w_lit ?_
      refine wv 90 (.bool (decide ((withinV what 10) = 4))) ?_
      refine wv 89 (.bool (decide ((withinV what 10) = 4))) ?_
      refine w_nil ?_
      refine then_normal ?_
      refine (bsplit (decide ((withinV what 10) = 4))).elim (fun b269 => ?_) (fun b269 => ?_)
      ·have g270 := of_decide_eq_true b269
       refine wp_know 89 (.bool true) (congrArg Value.bool b269) ?_
       have g271 := of_decide_eq_true b269
       refine wp_ift rfl ?_
       refine w_lit ?_
       refine wv 91 (pt yb 37) ?_
       refine wv 92 (.slice (some ⟨gD, 0, none⟩) D.length dc) ?_ (hr := e_load1 rfl (by kernel_rfl) (H234.cell 7 rfl (by kernel_rfl)))
       refine wv 93 (.slice (some (if dc = 1 then ⟨gD, 0, none⟩ else ⟨gD, 0 + 1 * 38, none⟩)) (D.length - 1) (dc - 1)) ?_ (hr := e_sliceLo (E := 49) (q := 1) (by kernel_rfl) (by kernel_rfl) rfl rfl (by omega) (by omega))
       refine wv 94 (pt yb 37) ?_
       refine wl_do (wants0 rfl) (fun K272 hK272 => ?_)
       refine d_storeX (vs := ([(.slice (some (if dc = 1 then ⟨gD, 0, none⟩ else ⟨gD, 0 + 1 * 38, none⟩)) (D.length - 1) (dc - 1))] : List Value)) (cs' := (([(.int .i64 (Y.cl)), (.int .i64 (Y.seq))] : List Value) ++ hc Y.h ++ ([(.int .i64 (Y.len)), (.int .i64 (Y.sb)), (.int .i64 (Y.sm)), (.slice (some (if dc = 1 then ⟨gD, 0, none⟩ else ⟨gD, 0 + 1 * 38, none⟩)) (D.length - 1) (dc - 1))] : List Value))) rfl H234 7 rfl rfl rfl rfl (by kernel_rfl) (Nat.le_of_ble_eq_true (by kernel_rfl)) (Nat.le_of_ble_eq_true (by kernel_rfl)) (by kernel_rfl) (by kernel_rfl) ?_
       intro w273 (H274 : Sat w [cellC b10 36 ([(.int .i64 (F)), (.int .i64 (3))] : List Value), cellC b30 54 ([(.pointer (some ⟨b20, 0, none⟩)), (.pointer (some ⟨r22, 0, none⟩))] : List Value), cellC b20 107 ([(.map (some m21))] : List Value), mapC m21 signedV (Value.int .i64) (marks L), cellC r22 88 ([(.slice ra L.length rc)] : List Value), rowC 120 2 (.slice ra L.length rc) L.length (L.flatMap encS), rowC 49 38 (.slice (some ⟨gD, 0, none⟩) D.length dc) D.length (D.flatMap encSt), cellC yb 47 (([(.int .i64 (Y.cl)), (.int .i64 (Y.seq))] : List Value) ++ hc Y.h ++ ([(.int .i64 (Y.len)), (.int .i64 (Y.sb)), (.int .i64 (Y.sm)), (.slice (some (if dc = 1 then ⟨gD, 0, none⟩ else ⟨gD, 0 + 1 * 38, none⟩)) (D.length - 1) (dc - 1))] : List Value)), restC w (fun _ => False)] w273)
       refine hK272 _ _ ?_
       clear hK272 K272
       refine w_nil ?_
       refine blk_normal ?_
       have H276 := (H274.conv 6 rfl (stsC_drop (n := D.length) (k := 1) (by omega)) (fun b hb => stsC_dropF hb)).pick [0, 1, 2, 3, 4, 5, 6, 7, 8] (by decide)
       refine meetR_at ?_ ⟨Y, (.slice (some (if dc = 1 then ⟨gD, 0, none⟩ else ⟨gD, 0 + 1 * 38, none⟩)) (D.length - 1) (dc - 1)), (D.drop 1), ra, rc, L, hokY, (fun s hs => hok s (List.mem_of_mem_drop hs)), (by rw [List.length_drop]; omega), (by rw [List.length_drop]; omega), hnd, (by omega), H276⟩
       exact (same_upd rfl (same_upd rfl (same_upd rfl (same_upd rfl (same_upd rfl (same_upd rfl (same_upd rfl (same_upd rfl (same_upd rfl (same_upd rfl (same_upd rfl (same_upd rfl (same_upd rfl (same_upd rfl (same_upd rfl (same_upd rfl (same_upd rfl (same_upd rfl (same_refl)))))))))))))))))))
      ·have g277 := of_decide_eq_false b269
       refine wp_know 89 (.bool false) (congrArg Value.bool b269) ?_
       have g278 := of_decide_eq_false b269
       refine wp_iff rfl ?_
       refine w_seq ?_
       refine w_lit ?_
       refine wv 96 (.bool (decide ((withinV what 10) = 5))) ?_
       refine wv 95 (.bool (decide ((withinV what 10) = 5))) ?_
       refine w_nil ?_
       refine then_normal ?_
       refine (bsplit (decide ((withinV what 10) = 5))).elim (fun b279 => ?_) (fun b279 => ?_)
       ·have g280 := of_decide_eq_true b279
        refine wp_know 95 (.bool true) (congrArg Value.bool b279) ?_
        have g281 := of_decide_eq_true b279
        refine wp_ift rfl ?_
        obtain ⟨x282, h283⟩ := get_at (show K < D.length by omega)
        have hox282 : StOk x282 := hok _ (List.mem_of_getElem? h283)
        have hrx282 := hox282.1
        refine k_start H234 [cellC b10 36 ([(.int .i64 (F)), (.int .i64 (3))] : List Value), cellC b30 54 ([(pt b20 0), (pt r22 0)] : List Value), cellC b20 107 ([(.map (some m21))] : List Value), mapC m21 signedV (Value.int .i64) (marks L), cellC r22 88 ([(.slice ra L.length rc)] : List Value), rowC 120 2 (.slice ra L.length rc) L.length (L.flatMap encS), cellC yb 47 (([(.int .i64 (Y.cl)), (.int .i64 (Y.seq))] : List Value) ++ hc Y.h ++ ([(.int .i64 (Y.len)), (.int .i64 (Y.sb)), (.int .i64 (Y.sm)), (.slice (some ⟨gD, 0, none⟩) D.length dc)] : List Value)), restC w (fun _ => False)] [10] 11 rfl (by kernel_rfl) (fun Hx => (Hx.pick [0, 1, 2, 3, 4, 5, 7, 8] (by decide))) ?_
        intro w284 H285 S286
        refine k_pure 0 rfl (by kernel_rfl) (by kernel_rfl) (by kernel_rfl) (fun _ _ _ h => h) S286 (wants0 rfl) rfl (d := 97) (v := (pt yb 37)) rfl (fun _ => (by kernel_rfl)) ?_
        refine k_val 1 rfl (by kernel_rfl) (by kernel_rfl) (by kernel_rfl) (fun _ _ _ h => h) S286 (wants0 rfl) rfl (by kernel_rfl) (d := 98) (v := (.slice (some ⟨gD, 0, none⟩) D.length dc)) rfl (fun _ H' => (e_load1 rfl (by kernel_rfl) (H'.cell 6 rfl (by kernel_rfl)))) ?_
        refine k_pure 2 rfl (by kernel_rfl) (by kernel_rfl) (by kernel_rfl) (fun _ _ _ h => h) S286 (wants0 rfl) rfl (d := 99) (v := (pt yb 37)) rfl (fun _ => (by kernel_rfl)) ?_
        refine k_val 3 rfl (by kernel_rfl) (by kernel_rfl) (by kernel_rfl) (fun _ _ _ h => h) S286 (wants0 rfl) rfl (by kernel_rfl) (d := 100) (v := (.slice (some ⟨gD, 0, none⟩) D.length dc)) rfl (fun _ H' => (e_load1 rfl (by kernel_rfl) (H'.cell 6 rfl (by kernel_rfl)))) ?_
        refine k_pure 4 rfl (by kernel_rfl) (by kernel_rfl) (by kernel_rfl) (fun _ _ _ h => h) S286 (wants0 rfl) rfl (d := 101) (v := (.int .i64 ((K : Int)))) rfl (fun _ => (by kernel_rfl)) ?_
        obtain ⟨x287, h288⟩ := get_at (show K < D.length by omega)
        have hox287 : StOk x287 := hok _ (List.mem_of_getElem? h288)
        have hrx287 := hox287.1
        refine k_pure 5 rfl (by kernel_rfl) (by kernel_rfl) (by kernel_rfl) (fun _ _ _ h => h) S286 (wants0 rfl) rfl (d := 102) (v := (.pointer (some ⟨gD, 0 + ((K : Int)).toNat * 38, none⟩))) rfl (fun _ => (e_indexAddr (E := 49) (by kernel_rfl) (by kernel_rfl) (Nat.le_of_ble_eq_true rfl) rfl rfl (by omega) (by omega))) ?_
        refine k_do 6 rfl (by kernel_rfl) (wants0 rfl) rfl (fun K289 hK289 => ?_)
        refine d_pure (d := 103) (v := (.agg ⟨(([(.int .i64 (x287.r)), (.int .i64 (x287.cl)), (.int .i64 (x287.seq))] : List Value) ++ hc x287.h ++ ([(.int .u64 (x287.t)), (.int .i64 (x287.sb)), (.int .i64 (x287.sm))] : List Value))⟩)) rfl (e_loadRun (vs := (([(.int .i64 (x287.r)), (.int .i64 (x287.cl)), (.int .i64 (x287.seq))] : List Value) ++ hc x287.h ++ ([(.int .u64 (x287.t)), (.int .i64 (x287.sb)), (.int .i64 (x287.sm))] : List Value))) rfl (by kernel_rfl) (by kernel_rfl) (Nat.le_of_ble_eq_true (by kernel_rfl)) (rows_run (H285.at 6 rfl) rfl encSt_len h288 0 (show 0 + ((K : Int)).toNat * 38 = K * 38 + 0 by omega) (by kernel_rfl) (by kernel_rfl))) ?_
        have S290 := H285.pick [0, 1, 2, 3, 4, 5, 7, 8] (by decide)
        refine hK289 _ _ S290 ?_
        clear hK289 K289
        refine k_do 7 rfl (by kernel_rfl) (wants0 rfl) rfl (fun K291 hK291 => ?_)
        refine d_buildSlice (e := 49) (size := 38) (bytes := 80) (z := (.agg ⟨(([(.int .i64 (0)), (.int .i64 (0)), (.int .i64 (0))] : List Value) ++ hc hash0 ++ ([(.int .u64 (0)), (.int .i64 (0)), (.int .i64 (0))] : List Value))⟩)) (pvs := [(0, (.agg ⟨(([(.int .i64 (x287.r)), (.int .i64 (x287.cl)), (.int .i64 (x287.seq))] : List Value) ++ hc x287.h ++ ([(.int .u64 (x287.t)), (.int .i64 (x287.sb)), (.int .i64 (x287.sm))] : List Value))⟩))]) (vs := (([(.int .i64 (x287.r)), (.int .i64 (x287.cl)), (.int .i64 (x287.seq))] : List Value) ++ hc x287.h ++ ([(.int .u64 (x287.t)), (.int .i64 (x287.sb)), (.int .i64 (x287.sm))] : List Value))) rfl H285 (by kernel_rfl) (by kernel_rfl) (by kernel_rfl) (by kernel_rfl) (by kernel_rfl) rfl rfl ?_
        intro b292 w293 (H294 : Sat w [cellC b10 36 ([(.int .i64 (F)), (.int .i64 (3))] : List Value), cellC b30 54 ([(.pointer (some ⟨b20, 0, none⟩)), (.pointer (some ⟨r22, 0, none⟩))] : List Value), cellC b20 107 ([(.map (some m21))] : List Value), mapC m21 signedV (Value.int .i64) (marks L), cellC r22 88 ([(.slice ra L.length rc)] : List Value), rowC 120 2 (.slice ra L.length rc) L.length (L.flatMap encS), rowC 49 38 (.slice (some ⟨gD, 0, none⟩) D.length dc) D.length (D.flatMap encSt), cellC yb 47 (([(.int .i64 (Y.cl)), (.int .i64 (Y.seq))] : List Value) ++ hc Y.h ++ ([(.int .i64 (Y.len)), (.int .i64 (Y.sb)), (.int .i64 (Y.sm)), (.slice (some ⟨gD, 0, none⟩) D.length dc)] : List Value)), restC w (fun _ => False), rowC 49 38 (.slice (some ⟨b292, 0, none⟩) 1 1) 1 (([(.int .i64 (x287.r)), (.int .i64 (x287.cl)), (.int .i64 (x287.seq))] : List Value) ++ hc x287.h ++ ([(.int .u64 (x287.t)), (.int .i64 (x287.sb)), (.int .i64 (x287.sm))] : List Value))] w293)
        have H295 : Sat w [cellC b10 36 ([(.int .i64 (F)), (.int .i64 (3))] : List Value), cellC b30 54 ([(pt b20 0), (pt r22 0)] : List Value), cellC b20 107 ([(.map (some m21))] : List Value), mapC m21 signedV (Value.int .i64) (marks L), cellC r22 88 ([(.slice ra L.length rc)] : List Value), rowC 120 2 (.slice ra L.length rc) L.length (L.flatMap encS), rowC 49 38 (.slice (some ⟨gD, 0, none⟩) D.length dc) D.length (D.flatMap encSt), cellC yb 47 (([(.int .i64 (Y.cl)), (.int .i64 (Y.seq))] : List Value) ++ hc Y.h ++ ([(.int .i64 (Y.len)), (.int .i64 (Y.sb)), (.int .i64 (Y.sm)), (.slice (some ⟨gD, 0, none⟩) D.length dc)] : List Value)), restC w (fun _ => False), rowC 49 38 (.slice (some ⟨b292, 0, none⟩) 1 1) 1 ([x287].flatMap encSt)] w293 := H294.cast (by rw [(show ((([(.int .i64 (x287.r)), (.int .i64 (x287.cl)), (.int .i64 (x287.seq))] : List Value) ++ hc x287.h ++ ([(.int .u64 (x287.t)), (.int .i64 (x287.sb)), (.int .i64 (x287.sm))] : List Value)) : List Value) = [x287].flatMap encSt by kernel_rfl)])
        have S296 := H295.pick [0, 1, 2, 3, 4, 5, 7, 8] (by decide)
        refine hK291 _ _ S296 ?_
        clear hK291 K291
        refine k_do 8 rfl (by kernel_rfl) (wants0 rfl) rfl (fun K297 hK297 => ?_)
        refine d_append (T := 45) (e := 49) (size := 38) (bytes := 80) rfl H295 (by kernel_rfl) 6 9 rfl rfl rfl rfl (flat_one encSt encSt_one [x287]) (by omega) (by omega) ?_
        intro v298 w299 (H300 : Sat w [cellC b10 36 ([(.int .i64 (F)), (.int .i64 (3))] : List Value), cellC b30 54 ([(.pointer (some ⟨b20, 0, none⟩)), (.pointer (some ⟨r22, 0, none⟩))] : List Value), cellC b20 107 ([(.map (some m21))] : List Value), mapC m21 signedV (Value.int .i64) (marks L), cellC r22 88 ([(.slice ra L.length rc)] : List Value), rowC 120 2 (.slice ra L.length rc) L.length (L.flatMap encS), rowC 49 38 v298 (D.length + 1) ((D.flatMap encSt) ++ ([x287].flatMap encSt)), cellC yb 47 (([(.int .i64 (Y.cl)), (.int .i64 (Y.seq))] : List Value) ++ hc Y.h ++ ([(.int .i64 (Y.len)), (.int .i64 (Y.sb)), (.int .i64 (Y.sm)), (.slice (some ⟨gD, 0, none⟩) D.length dc)] : List Value)), restC w (fun _ => False), rowC 49 38 (.slice (some ⟨b292, 0, none⟩) 1 1) 1 ([x287].flatMap encSt)] w299)
        have H303 : Sat w [cellC b10 36 ([(.int .i64 (F)), (.int .i64 (3))] : List Value), cellC b30 54 ([(pt b20 0), (pt r22 0)] : List Value), cellC b20 107 ([(.map (some m21))] : List Value), mapC m21 signedV (Value.int .i64) (marks L), cellC r22 88 ([(.slice ra L.length rc)] : List Value), rowC 120 2 (.slice ra L.length rc) L.length (L.flatMap encS), rowC 49 38 v298 ((D ++ [x287]).length) ((D ++ [x287]).flatMap encSt), cellC yb 47 (([(.int .i64 (Y.cl)), (.int .i64 (Y.seq))] : List Value) ++ hc Y.h ++ ([(.int .i64 (Y.len)), (.int .i64 (Y.sb)), (.int .i64 (Y.sm)), (.slice (some ⟨gD, 0, none⟩) D.length dc)] : List Value)), restC w (fun _ => False), rowC 49 38 (.slice (some ⟨b292, 0, none⟩) 1 1) 1 ([x287].flatMap encSt)] w299 := H300.cast (by simp only [List.length_append, List.flatMap_append] <;> rfl)
        obtain ⟨a301, c302, rfl⟩ := ownsRow_shape (H303.at 6 rfl)
        have S304 := H303.pick [0, 1, 2, 3, 4, 5, 7, 8] (by decide)
        refine hK297 _ _ S304 ?_
        clear hK297 K297
        refine k_pure 9 rfl (by kernel_rfl) (by kernel_rfl) (by kernel_rfl) (fun _ _ _ h => h) S304 (wants0 rfl) rfl (d := 106) (v := (pt yb 37)) rfl (fun _ => (by kernel_rfl)) ?_
        refine k_brk 10 (Sat w [cellC b10 36 ([(.int .i64 (F)), (.int .i64 (3))] : List Value), cellC b30 54 ([(pt b20 0), (pt r22 0)] : List Value), cellC b20 107 ([(.map (some m21))] : List Value), mapC m21 signedV (Value.int .i64) (marks L), cellC r22 88 ([(.slice ra L.length rc)] : List Value), rowC 120 2 (.slice ra L.length rc) L.length (L.flatMap encS), restC w (fun _ => False)]) rfl (by kernel_rfl) (wants0 rfl) rfl (fun K305 hK305 => ?_)
        refine d_storeX (vs := ([(.slice a301 ((D ++ [x287]).length) c302)] : List Value)) (cs' := (([(.int .i64 (Y.cl)), (.int .i64 (Y.seq))] : List Value) ++ hc Y.h ++ ([(.int .i64 (Y.len)), (.int .i64 (Y.sb)), (.int .i64 (Y.sm)), (.slice a301 ((D ++ [x287]).length) c302)] : List Value))) rfl H303 7 rfl rfl rfl rfl (by kernel_rfl) (Nat.le_of_ble_eq_true (by kernel_rfl)) (Nat.le_of_ble_eq_true (by kernel_rfl)) (by kernel_rfl) (by kernel_rfl) ?_
        intro w306 (H307 : Sat w [cellC b10 36 ([(.int .i64 (F)), (.int .i64 (3))] : List Value), cellC b30 54 ([(.pointer (some ⟨b20, 0, none⟩)), (.pointer (some ⟨r22, 0, none⟩))] : List Value), cellC b20 107 ([(.map (some m21))] : List Value), mapC m21 signedV (Value.int .i64) (marks L), cellC r22 88 ([(.slice ra L.length rc)] : List Value), rowC 120 2 (.slice ra L.length rc) L.length (L.flatMap encS), rowC 49 38 (.slice a301 ((D ++ [x287]).length) c302) ((D ++ [x287]).length) ((D ++ [x287]).flatMap encSt), cellC yb 47 (([(.int .i64 (Y.cl)), (.int .i64 (Y.seq))] : List Value) ++ hc Y.h ++ ([(.int .i64 (Y.len)), (.int .i64 (Y.sb)), (.int .i64 (Y.sm)), (.slice a301 ((D ++ [x287]).length) c302)] : List Value)), restC w (fun _ => False), rowC 49 38 (.slice (some ⟨b292, 0, none⟩) 1 1) 1 ([x287].flatMap encSt)] w306)
        have S309 := H307.pick [0, 1, 2, 3, 4, 5, 8] (by decide)
        refine hK305 _ _ S309 ?_
        clear hK305 K305
        refine h_fin (by kernel_rfl) ?_
        refine blk_normal ?_
        have H310 := (H307.conv 6 rfl (stsC_row) (fun b hb => hb.2)).pick [0, 1, 2, 3, 4, 5, 6, 7, 8] (by decide)
        refine meetR_at ?_ ⟨Y, (.slice a301 ((D ++ [x287]).length) c302), (D ++ [x287]), ra, rc, L, hokY, (fun s hs => (List.mem_append.1 hs).elim (hok s) (fun e => by rw [List.mem_singleton.1 e]; exact hox287)), (by simp only [List.length_set, List.length_append, List.length_cons, List.length_nil]; omega), (by simp only [List.length_set, List.length_append, List.length_cons, List.length_nil]; omega), hnd, (by omega), H310⟩
        exact (same_upd rfl (same_upd rfl (same_upd rfl (same_upd rfl (same_upd rfl (same_upd rfl (same_upd rfl (same_upd rfl (same_upd rfl (same_upd rfl (same_upd rfl (same_upd rfl (same_upd rfl (same_upd rfl (same_upd rfl (same_upd rfl (same_upd rfl (same_upd rfl (same_upd rfl (same_upd rfl (same_upd rfl (same_upd rfl (same_upd rfl (same_upd rfl (same_upd rfl (same_upd rfl (same_upd rfl (same_refl))))))))))))))))))))))))))))
       ·have g311 := of_decide_eq_false b279
        refine wp_know 95 (.bool false) (congrArg Value.bool b279) ?_
        have g312 := of_decide_eq_false b279
        refine wp_iff rfl ?_
        refine w_seq ?_
        refine w_lit ?_
        refine wv 108 (.bool (decide ((withinV what 10) = 6))) ?_
        refine wv 107 (.bool (decide ((withinV what 10) = 6))) ?_
        refine w_nil ?_
        refine then_normal ?_
        refine (bsplit (decide ((withinV what 10) = 6))).elim (fun b313 => ?_) (fun b313 => ?_)
        ·have g314 := of_decide_eq_true b313
         refine wp_know 107 (.bool true) (congrArg Value.bool b313) ?_
         have g315 := of_decide_eq_true b313
         refine wp_ift rfl ?_
         refine w_lit ?_
         refine wv 109 (pt yb 0) ?_
         refine wv 110 (pt yb 2) ?_
         refine wv 111 (pt yb 5) ?_
         refine wv 112 (.int .u8 (((Y.h.l.getD 3 0).toNat : Int))) ?_ (hr := e_load1 rfl (by kernel_rfl) (H234.cell 7 rfl (by kernel_rfl)))
         refine wv 113 (.int .u8 (bXor .u8 ((Y.h.l.getD 3 0).toNat : Int) 1)) ?_
         refine wv 114 (pt yb 0) ?_
         refine wv 115 (pt yb 2) ?_
         refine wv 116 (pt yb 5) ?_
         refine wl_do (wants0 rfl) (fun K316 hK316 => ?_)
         refine d_storeX (vs := ([(.int .u8 (bXor .u8 ((Y.h.l.getD 3 0).toNat : Int) 1))] : List Value)) (cs' := (([(.int .i64 (Y.cl)), (.int .i64 (Y.seq)), (.int .u8 (((Y.h.l.getD 0 0).toNat : Int))), (.int .u8 (((Y.h.l.getD 1 0).toNat : Int))), (.int .u8 (((Y.h.l.getD 2 0).toNat : Int))), (.int .u8 (bXor .u8 ((Y.h.l.getD 3 0).toNat : Int) 1)), (.int .u8 (((Y.h.l.getD 4 0).toNat : Int))), (.int .u8 (((Y.h.l.getD 5 0).toNat : Int))), (.int .u8 (((Y.h.l.getD 6 0).toNat : Int))), (.int .u8 (((Y.h.l.getD 7 0).toNat : Int))), (.int .u8 (((Y.h.l.getD 8 0).toNat : Int))), (.int .u8 (((Y.h.l.getD 9 0).toNat : Int))), (.int .u8 (((Y.h.l.getD 10 0).toNat : Int))), (.int .u8 (((Y.h.l.getD 11 0).toNat : Int))), (.int .u8 (((Y.h.l.getD 12 0).toNat : Int))), (.int .u8 (((Y.h.l.getD 13 0).toNat : Int))), (.int .u8 (((Y.h.l.getD 14 0).toNat : Int))), (.int .u8 (((Y.h.l.getD 15 0).toNat : Int))), (.int .u8 (((Y.h.l.getD 16 0).toNat : Int))), (.int .u8 (((Y.h.l.getD 17 0).toNat : Int))), (.int .u8 (((Y.h.l.getD 18 0).toNat : Int))), (.int .u8 (((Y.h.l.getD 19 0).toNat : Int))), (.int .u8 (((Y.h.l.getD 20 0).toNat : Int))), (.int .u8 (((Y.h.l.getD 21 0).toNat : Int)))] : List Value) ++ ([(.int .u8 (((Y.h.l.getD 22 0).toNat : Int))), (.int .u8 (((Y.h.l.getD 23 0).toNat : Int))), (.int .u8 (((Y.h.l.getD 24 0).toNat : Int))), (.int .u8 (((Y.h.l.getD 25 0).toNat : Int))), (.int .u8 (((Y.h.l.getD 26 0).toNat : Int))), (.int .u8 (((Y.h.l.getD 27 0).toNat : Int))), (.int .u8 (((Y.h.l.getD 28 0).toNat : Int))), (.int .u8 (((Y.h.l.getD 29 0).toNat : Int))), (.int .u8 (((Y.h.l.getD 30 0).toNat : Int))), (.int .u8 (((Y.h.l.getD 31 0).toNat : Int))), (.int .i64 (Y.len)), (.int .i64 (Y.sb)), (.int .i64 (Y.sm)), (.slice (some ⟨gD, 0, none⟩) D.length dc)] : List Value))) rfl H234 7 rfl rfl rfl rfl (by kernel_rfl) (Nat.le_of_ble_eq_true (by kernel_rfl)) (Nat.le_of_ble_eq_true (by kernel_rfl)) (by kernel_rfl) (by kernel_rfl) ?_
         intro w317 (H318 : Sat w [cellC b10 36 ([(.int .i64 (F)), (.int .i64 (3))] : List Value), cellC b30 54 ([(.pointer (some ⟨b20, 0, none⟩)), (.pointer (some ⟨r22, 0, none⟩))] : List Value), cellC b20 107 ([(.map (some m21))] : List Value), mapC m21 signedV (Value.int .i64) (marks L), cellC r22 88 ([(.slice ra L.length rc)] : List Value), rowC 120 2 (.slice ra L.length rc) L.length (L.flatMap encS), rowC 49 38 (.slice (some ⟨gD, 0, none⟩) D.length dc) D.length (D.flatMap encSt), cellC yb 47 (([(.int .i64 (Y.cl)), (.int .i64 (Y.seq)), (.int .u8 (((Y.h.l.getD 0 0).toNat : Int))), (.int .u8 (((Y.h.l.getD 1 0).toNat : Int))), (.int .u8 (((Y.h.l.getD 2 0).toNat : Int))), (.int .u8 (bXor .u8 ((Y.h.l.getD 3 0).toNat : Int) 1)), (.int .u8 (((Y.h.l.getD 4 0).toNat : Int))), (.int .u8 (((Y.h.l.getD 5 0).toNat : Int))), (.int .u8 (((Y.h.l.getD 6 0).toNat : Int))), (.int .u8 (((Y.h.l.getD 7 0).toNat : Int))), (.int .u8 (((Y.h.l.getD 8 0).toNat : Int))), (.int .u8 (((Y.h.l.getD 9 0).toNat : Int))), (.int .u8 (((Y.h.l.getD 10 0).toNat : Int))), (.int .u8 (((Y.h.l.getD 11 0).toNat : Int))), (.int .u8 (((Y.h.l.getD 12 0).toNat : Int))), (.int .u8 (((Y.h.l.getD 13 0).toNat : Int))), (.int .u8 (((Y.h.l.getD 14 0).toNat : Int))), (.int .u8 (((Y.h.l.getD 15 0).toNat : Int))), (.int .u8 (((Y.h.l.getD 16 0).toNat : Int))), (.int .u8 (((Y.h.l.getD 17 0).toNat : Int))), (.int .u8 (((Y.h.l.getD 18 0).toNat : Int))), (.int .u8 (((Y.h.l.getD 19 0).toNat : Int))), (.int .u8 (((Y.h.l.getD 20 0).toNat : Int))), (.int .u8 (((Y.h.l.getD 21 0).toNat : Int)))] : List Value) ++ ([(.int .u8 (((Y.h.l.getD 22 0).toNat : Int))), (.int .u8 (((Y.h.l.getD 23 0).toNat : Int))), (.int .u8 (((Y.h.l.getD 24 0).toNat : Int))), (.int .u8 (((Y.h.l.getD 25 0).toNat : Int))), (.int .u8 (((Y.h.l.getD 26 0).toNat : Int))), (.int .u8 (((Y.h.l.getD 27 0).toNat : Int))), (.int .u8 (((Y.h.l.getD 28 0).toNat : Int))), (.int .u8 (((Y.h.l.getD 29 0).toNat : Int))), (.int .u8 (((Y.h.l.getD 30 0).toNat : Int))), (.int .u8 (((Y.h.l.getD 31 0).toNat : Int))), (.int .i64 (Y.len)), (.int .i64 (Y.sb)), (.int .i64 (Y.sm)), (.slice (some ⟨gD, 0, none⟩) D.length dc)] : List Value)), restC w (fun _ => False)] w317)
         refine hK316 _ _ ?_
         clear hK316 K316
         refine w_nil ?_
         refine blk_normal ?_
         have H320 := (H318.conv 6 rfl (stsC_row) (fun b hb => hb.2)).pick [0, 1, 2, 3, 4, 5, 6, 7, 8] (by decide)
         have H321 : (([(.int .i64 (Y.cl)), (.int .i64 (Y.seq)), (.int .u8 (((Y.h.l.getD 0 0).toNat : Int))), (.int .u8 (((Y.h.l.getD 1 0).toNat : Int))), (.int .u8 (((Y.h.l.getD 2 0).toNat : Int))), (.int .u8 (bXor .u8 ((Y.h.l.getD 3 0).toNat : Int) 1)), (.int .u8 (((Y.h.l.getD 4 0).toNat : Int))), (.int .u8 (((Y.h.l.getD 5 0).toNat : Int))), (.int .u8 (((Y.h.l.getD 6 0).toNat : Int))), (.int .u8 (((Y.h.l.getD 7 0).toNat : Int))), (.int .u8 (((Y.h.l.getD 8 0).toNat : Int))), (.int .u8 (((Y.h.l.getD 9 0).toNat : Int))), (.int .u8 (((Y.h.l.getD 10 0).toNat : Int))), (.int .u8 (((Y.h.l.getD 11 0).toNat : Int))), (.int .u8 (((Y.h.l.getD 12 0).toNat : Int))), (.int .u8 (((Y.h.l.getD 13 0).toNat : Int))), (.int .u8 (((Y.h.l.getD 14 0).toNat : Int))), (.int .u8 (((Y.h.l.getD 15 0).toNat : Int))), (.int .u8 (((Y.h.l.getD 16 0).toNat : Int))), (.int .u8 (((Y.h.l.getD 17 0).toNat : Int))), (.int .u8 (((Y.h.l.getD 18 0).toNat : Int))), (.int .u8 (((Y.h.l.getD 19 0).toNat : Int))), (.int .u8 (((Y.h.l.getD 20 0).toNat : Int))), (.int .u8 (((Y.h.l.getD 21 0).toNat : Int)))] : List Value) ++ ([(.int .u8 (((Y.h.l.getD 22 0).toNat : Int))), (.int .u8 (((Y.h.l.getD 23 0).toNat : Int))), (.int .u8 (((Y.h.l.getD 24 0).toNat : Int))), (.int .u8 (((Y.h.l.getD 25 0).toNat : Int))), (.int .u8 (((Y.h.l.getD 26 0).toNat : Int))), (.int .u8 (((Y.h.l.getD 27 0).toNat : Int))), (.int .u8 (((Y.h.l.getD 28 0).toNat : Int))), (.int .u8 (((Y.h.l.getD 29 0).toNat : Int))), (.int .u8 (((Y.h.l.getD 30 0).toNat : Int))), (.int .u8 (((Y.h.l.getD 31 0).toNat : Int))), (.int .i64 (Y.len)), (.int .i64 (Y.sb)), (.int .i64 (Y.sm)), (.slice (some ⟨gD, 0, none⟩) D.length dc)] : List Value)) = ([.int .i64 Y.cl, .int .i64 Y.seq] ++ hc (flipH Y.h) ++ [.int .i64 Y.len, .int .i64 Y.sb, .int .i64 Y.sm, (.slice (some ⟨gD, 0, none⟩) D.length dc)] : List Value) := by
          rw [hc_flip]; kernel_rfl
         have H322 := H320
         rw [H321] at H322
         refine meetR_at ?_ ⟨(⟨Y.cl, Y.seq, flipH Y.h, Y.len, Y.sb, Y.sm⟩ : CommitD), (.slice (some ⟨gD, 0, none⟩) D.length dc), D, ra, rc, L, ⟨hokY.1, hokY.2.1, hokY.2.2⟩, hok, (by omega), (by omega), hnd, (by omega), H322⟩
         exact (same_upd rfl (same_upd rfl (same_upd rfl (same_upd rfl (same_upd rfl (same_upd rfl (same_upd rfl (same_upd rfl (same_upd rfl (same_upd rfl (same_upd rfl (same_upd rfl (same_upd rfl (same_upd rfl (same_upd rfl (same_upd rfl (same_upd rfl (same_upd rfl (same_upd rfl (same_upd rfl (same_upd rfl (same_upd rfl (same_upd rfl (same_upd rfl (same_upd rfl (same_upd rfl (same_upd rfl (same_upd rfl (same_refl)))))))))))))))))))))))))))))
        ·have g323 := of_decide_eq_false b313
         refine wp_know 107 (.bool false) (congrArg Value.bool b313) ?_
         have g324 := of_decide_eq_false b313
         refine wp_iff rfl ?_
         refine w_seq ?_
         refine w_lit ?_
         refine wv 118 (.bool (decide ((withinV what 10) = 7))) ?_
         refine wv 117 (.bool (decide ((withinV what 10) = 7))) ?_
         refine w_nil ?_
         refine then_normal ?_
         refine (bsplit (decide ((withinV what 10) = 7))).elim (fun b325 => ?_) (fun b325 => ?_)
         ·have g326 := of_decide_eq_true b325
          refine wp_know 117 (.bool true) (congrArg Value.bool b325) ?_
          have g327 := of_decide_eq_true b325
          refine wp_ift rfl ?_
          refine w_seq ?_
          refine w_lit ?_
          refine wv 119 (.int .i64 ((K : Int))) ?_
          refine wv 120 (.int .i64 ((K : Int) + 1)) ?_ (hr := e_int (z := (K : Int) + 1) (by kernel_rfl) (IntWalk.i64_in _ (by omega)))
          refine wv 121 (pt yb 37) ?_
          refine wv 122 (.slice (some ⟨gD, 0, none⟩) D.length dc) ?_ (hr := e_load1 rfl (by kernel_rfl) (H234.cell 7 rfl (by kernel_rfl)))
          refine wv 123 (.int .i64 ((D.length : Int))) ?_
          refine wl_do (wants0 rfl) (fun K328 hK328 => ?_)
          refine d_call (d := 124) rfl (by kernel_rfl) (within_any w233 ((K : Int) + 1) (D.length : Int) (by omega)) ?_
          rintro _ w329 ⟨rfl, u331⟩
          have H330 := H234.keepU u331
          refine ⟨_, rfl, ?_⟩
          refine hK328 _ _ ?_
          clear hK328 K328
          refine wv 19 (.int .i64 (withinV ((K : Int) + 1) (D.length : Int))) ?_
          refine w_nil ?_
          refine then_normal ?_
          have hwb := within_lim ((K : Int) + 1) (D.length : Int) (by omega)
          obtain ⟨K2, hK2⟩ : ∃ K2 : Nat, (K2 : Int) = withinV ((K : Int) + 1) (D.length : Int) := ⟨(withinV ((K : Int) + 1) (D.length : Int)).toNat, by omega⟩
          have hKD2 : K2 < D.length := by omega
          refine wp_know 19 (.int .i64 ((K2 : Int))) (show ((.int .i64 (withinV ((K : Int) + 1) (D.length : Int))) : Value) = _ by rw [hK2]) ?_
          obtain ⟨x332, h333⟩ := get_at (show K2 < D.length by omega)
          have hox332 : StOk x332 := hok _ (List.mem_of_getElem? h333)
          have hrx332 := hox332.1
          obtain ⟨x334, h335⟩ := get_at (show K < D.length by omega)
          have hox334 : StOk x334 := hok _ (List.mem_of_getElem? h335)
          have hrx334 := hox334.1
          obtain ⟨x336, h337⟩ := get_at (show K2 < D.length by omega)
          have hox336 : StOk x336 := hok _ (List.mem_of_getElem? h337)
          have hrx336 := hox336.1
          obtain ⟨x338, h339⟩ := get_at (show K < D.length by omega)
          have hox338 : StOk x338 := hok _ (List.mem_of_getElem? h339)
          have hrx338 := hox338.1
          refine k_start H330 [cellC b10 36 ([(.int .i64 (F)), (.int .i64 (3))] : List Value), cellC b30 54 ([(pt b20 0), (pt r22 0)] : List Value), cellC b20 107 ([(.map (some m21))] : List Value), mapC m21 signedV (Value.int .i64) (marks L), cellC r22 88 ([(.slice ra L.length rc)] : List Value), rowC 120 2 (.slice ra L.length rc) L.length (L.flatMap encS), rowC 49 38 (.slice (some ⟨gD, 0, none⟩) D.length dc) D.length (D.flatMap encSt), cellC yb 47 (([(.int .i64 (Y.cl)), (.int .i64 (Y.seq))] : List Value) ++ hc Y.h ++ ([(.int .i64 (Y.len)), (.int .i64 (Y.sb)), (.int .i64 (Y.sm)), (.slice (some ⟨gD, 0, none⟩) D.length dc)] : List Value)), restC w (fun _ => False)] [17, 19] 20 rfl (by kernel_rfl) (fun Hx => (Hx.pick [0, 1, 2, 3, 4, 5, 6, 7, 8] (by decide))) ?_
          intro w340 H341 S342
          refine k_pure 0 rfl (by kernel_rfl) (by kernel_rfl) (by kernel_rfl) (fun _ _ _ h => h) S342 (wants0 rfl) rfl (d := 125) (v := (pt yb 37)) rfl (fun _ => (by kernel_rfl)) ?_
          refine k_val 1 rfl (by kernel_rfl) (by kernel_rfl) (by kernel_rfl) (fun _ _ _ h => h) S342 (wants0 rfl) rfl (by kernel_rfl) (d := 126) (v := (.slice (some ⟨gD, 0, none⟩) D.length dc)) rfl (fun _ H' => (e_load1 rfl (by kernel_rfl) (H'.cell 7 rfl (by kernel_rfl)))) ?_
          refine k_pure 2 rfl (by kernel_rfl) (by kernel_rfl) (by kernel_rfl) (fun _ _ _ h => h) S342 (wants0 rfl) rfl (d := 127) (v := (.int .i64 ((K : Int)))) rfl (fun _ => (by kernel_rfl)) ?_
          refine k_pure 3 rfl (by kernel_rfl) (by kernel_rfl) (by kernel_rfl) (fun _ _ _ h => h) S342 (wants0 rfl) rfl (d := 128) (v := (pt yb 37)) rfl (fun _ => (by kernel_rfl)) ?_
          refine k_pure 5 rfl (by kernel_rfl) (by kernel_rfl) (by kernel_rfl) (fun _ _ _ h => h) S342 (wants0 rfl) rfl (d := 130) (v := (.int .i64 ((K2 : Int)))) rfl (fun _ => (by kernel_rfl)) ?_
          refine k_pure 6 rfl (by kernel_rfl) (by kernel_rfl) (by kernel_rfl) (fun _ _ _ h => h) S342 (wants0 rfl) rfl (d := 131) (v := (pt yb 37)) rfl (fun _ => (by kernel_rfl)) ?_
          refine k_val 7 rfl (by kernel_rfl) (by kernel_rfl) (by kernel_rfl) (fun _ _ _ h => h) S342 (wants0 rfl) rfl (by kernel_rfl) (d := 132) (v := (.slice (some ⟨gD, 0, none⟩) D.length dc)) rfl (fun _ H' => (e_load1 rfl (by kernel_rfl) (H'.cell 7 rfl (by kernel_rfl)))) ?_
          refine k_pure 8 rfl (by kernel_rfl) (by kernel_rfl) (by kernel_rfl) (fun _ _ _ h => h) S342 (wants0 rfl) rfl (d := 133) (v := (.int .i64 ((K2 : Int)))) rfl (fun _ => (by kernel_rfl)) ?_
          obtain ⟨x343, h344⟩ := get_at (show K2 < D.length by omega)
          have hox343 : StOk x343 := hok _ (List.mem_of_getElem? h344)
          have hrx343 := hox343.1
          refine k_pure 9 rfl (by kernel_rfl) (by kernel_rfl) (by kernel_rfl) (fun _ _ _ h => h) S342 (wants0 rfl) rfl (d := 134) (v := (.pointer (some ⟨gD, 0 + ((K2 : Int)).toNat * 38, none⟩))) rfl (fun _ => (e_indexAddr (E := 49) (by kernel_rfl) (by kernel_rfl) (Nat.le_of_ble_eq_true rfl) rfl rfl (by omega) (by omega))) ?_
          refine k_val 10 rfl (by kernel_rfl) (by kernel_rfl) (by kernel_rfl) (fun _ _ _ h => h) S342 (wants0 rfl) rfl (by kernel_rfl) (d := 135) (v := (.agg ⟨(([(.int .i64 (x343.r)), (.int .i64 (x343.cl)), (.int .i64 (x343.seq))] : List Value) ++ hc x343.h ++ ([(.int .u64 (x343.t)), (.int .i64 (x343.sb)), (.int .i64 (x343.sm))] : List Value))⟩)) rfl (fun _ H' => (e_loadRun (vs := (([(.int .i64 (x343.r)), (.int .i64 (x343.cl)), (.int .i64 (x343.seq))] : List Value) ++ hc x343.h ++ ([(.int .u64 (x343.t)), (.int .i64 (x343.sb)), (.int .i64 (x343.sm))] : List Value))) rfl (by kernel_rfl) (by kernel_rfl) (Nat.le_of_ble_eq_true (by kernel_rfl)) (rows_run (H'.at 6 rfl) rfl encSt_len h344 0 (show 0 + ((K2 : Int)).toNat * 38 = K2 * 38 + 0 by omega) (by kernel_rfl) (by kernel_rfl)))) ?_
          refine k_pure 11 rfl (by kernel_rfl) (by kernel_rfl) (by kernel_rfl) (fun _ _ _ h => h) S342 (wants0 rfl) rfl (d := 136) (v := (pt yb 37)) rfl (fun _ => (by kernel_rfl)) ?_
          refine k_valC [12, 14, 15, 16] 12 rfl (by kernel_rfl) (by kernel_rfl) (by kernel_rfl) (fun _ _ _ h => h) S342 (wants0 rfl) rfl (by kernel_rfl) (by kernel_rfl) (d := 137) (v := (.slice (some ⟨gD, 0, none⟩) D.length dc)) rfl (fun _ H' => (e_load1 rfl (by kernel_rfl) (H'.cell 7 rfl (by kernel_rfl)))) ?_
          refine k_pure 13 rfl (by kernel_rfl) (by kernel_rfl) (by kernel_rfl) (fun _ _ _ h => h) S342 (wants0 rfl) rfl (d := 138) (v := (.int .i64 ((K : Int)))) rfl (fun _ => (by kernel_rfl)) ?_
          obtain ⟨x345, h346⟩ := get_at (show K < D.length by omega)
          have hox345 : StOk x345 := hok _ (List.mem_of_getElem? h346)
          have hrx345 := hox345.1
          refine k_pure 14 rfl (by kernel_rfl) (by kernel_rfl) (by kernel_rfl) (fun _ _ _ h => h) S342 (wants0 rfl) rfl (d := 139) (v := (.pointer (some ⟨gD, 0 + ((K : Int)).toNat * 38, none⟩))) rfl (fun _ => (e_indexAddr (E := 49) (by kernel_rfl) (by kernel_rfl) (Nat.le_of_ble_eq_true rfl) rfl rfl (by omega) (by omega))) ?_
          refine k_val 15 rfl (by kernel_rfl) (by kernel_rfl) (by kernel_rfl) (fun _ _ _ h => h) S342 (wants0 rfl) rfl (by kernel_rfl) (d := 140) (v := (.agg ⟨(([(.int .i64 (x345.r)), (.int .i64 (x345.cl)), (.int .i64 (x345.seq))] : List Value) ++ hc x345.h ++ ([(.int .u64 (x345.t)), (.int .i64 (x345.sb)), (.int .i64 (x345.sm))] : List Value))⟩)) rfl (fun _ H' => (e_loadRun (vs := (([(.int .i64 (x345.r)), (.int .i64 (x345.cl)), (.int .i64 (x345.seq))] : List Value) ++ hc x345.h ++ ([(.int .u64 (x345.t)), (.int .i64 (x345.sb)), (.int .i64 (x345.sm))] : List Value))) rfl (by kernel_rfl) (by kernel_rfl) (Nat.le_of_ble_eq_true (by kernel_rfl)) (rows_run (H'.at 6 rfl) rfl encSt_len h346 0 (show 0 + ((K : Int)).toNat * 38 = K * 38 + 0 by omega) (by kernel_rfl) (by kernel_rfl)))) ?_
          refine k_pure 16 rfl (by kernel_rfl) (by kernel_rfl) (by kernel_rfl) (fun _ _ _ h => h) S342 (wants0 rfl) rfl (d := 141) (v := (.pointer (some ⟨gD, 0 + ((K : Int)).toNat * 38, none⟩))) rfl (fun _ => (e_indexAddr (E := 49) (by kernel_rfl) (by kernel_rfl) (Nat.le_of_ble_eq_true rfl) rfl rfl (by omega) (by omega))) ?_
          refine k_do2B 4 17 (Sat w [cellC b10 36 ([(.int .i64 (F)), (.int .i64 (3))] : List Value), cellC b30 54 ([(pt b20 0), (pt r22 0)] : List Value), cellC b20 107 ([(.map (some m21))] : List Value), mapC m21 signedV (Value.int .i64) (marks L), cellC r22 88 ([(.slice ra L.length rc)] : List Value), rowC 120 2 (.slice ra L.length rc) L.length (L.flatMap encS), cellC yb 47 (([(.int .i64 (Y.cl)), (.int .i64 (Y.seq))] : List Value) ++ hc Y.h ++ ([(.int .i64 (Y.len)), (.int .i64 (Y.sb)), (.int .i64 (Y.sm)), (.slice (some ⟨gD, 0, none⟩) D.length dc)] : List Value)), restC w (fun _ => False)]) rfl rfl (by kernel_rfl) (wants0 rfl) (wants0 rfl) rfl rfl (fun K347 hK347 => ?_) (fun K347 hK347 => ?_)
          ·refine d_pure (d := 129) (v := (.slice (some ⟨gD, 0, none⟩) D.length dc)) rfl (e_load1 rfl (by kernel_rfl) (H341.cell 7 rfl (by kernel_rfl))) ?_
           have S348 := H341.pick [0, 1, 2, 3, 4, 5, 6, 7, 8] (by decide)
           refine hK347 _ _ S348 ?_
           clear hK347 K347
           refine k_brk 17 (Sat w [cellC b10 36 ([(.int .i64 (F)), (.int .i64 (3))] : List Value), cellC b30 54 ([(pt b20 0), (pt r22 0)] : List Value), cellC b20 107 ([(.map (some m21))] : List Value), mapC m21 signedV (Value.int .i64) (marks L), cellC r22 88 ([(.slice ra L.length rc)] : List Value), rowC 120 2 (.slice ra L.length rc) L.length (L.flatMap encS), cellC yb 47 (([(.int .i64 (Y.cl)), (.int .i64 (Y.seq))] : List Value) ++ hc Y.h ++ ([(.int .i64 (Y.len)), (.int .i64 (Y.sb)), (.int .i64 (Y.sm)), (.slice (some ⟨gD, 0, none⟩) D.length dc)] : List Value)), restC w (fun _ => False)]) rfl (by kernel_rfl) (wants0 rfl) rfl (fun K349 hK349 => ?_)
           refine d_storeS (size := 38) (vs := (([(.int .i64 (x343.r)), (.int .i64 (x343.cl)), (.int .i64 (x343.seq))] : List Value) ++ hc x343.h ++ ([(.int .u64 (x343.t)), (.int .i64 (x343.sb)), (.int .i64 (x343.sm))] : List Value))) encSt_len rfl H341 6 rfl rfl rfl rfl (by kernel_rfl) (Nat.le_of_ble_eq_true (by kernel_rfl)) (by kernel_rfl) K 0 x343 h346 (show 0 + ((K : Int)).toNat * 38 = K * 38 + 0 by omega) (Nat.le_of_ble_eq_true (by kernel_rfl)) (by kernel_rfl) ?_
           intro w350 (H351 : Sat w [cellC b10 36 ([(.int .i64 (F)), (.int .i64 (3))] : List Value), cellC b30 54 ([(.pointer (some ⟨b20, 0, none⟩)), (.pointer (some ⟨r22, 0, none⟩))] : List Value), cellC b20 107 ([(.map (some m21))] : List Value), mapC m21 signedV (Value.int .i64) (marks L), cellC r22 88 ([(.slice ra L.length rc)] : List Value), rowC 120 2 (.slice ra L.length rc) L.length (L.flatMap encS), rowC 49 38 (.slice (some ⟨gD, 0, none⟩) D.length dc) D.length ((D.set K x343).flatMap encSt), cellC yb 47 (([(.int .i64 (Y.cl)), (.int .i64 (Y.seq))] : List Value) ++ hc Y.h ++ ([(.int .i64 (Y.len)), (.int .i64 (Y.sb)), (.int .i64 (Y.sm)), (.slice (some ⟨gD, 0, none⟩) D.length dc)] : List Value)), restC w (fun _ => False)] w350)
           have hlw350 : (D.set K x343).length = D.length := List.length_set
           have S352 := H351.pick [0, 1, 2, 3, 4, 5, 7, 8] (by decide)
           refine hK349 _ _ S352 ?_
           clear hK349 K349
           obtain ⟨x353, h354⟩ := get_at (show K2 < (D.set K x343).length by omega)
           refine hv0 18 S352 142 (.pointer (some ⟨gD, 0 + ((K2 : Int)).toNat * 38, none⟩)) ?_ (he := fun _ H' => (e_indexAddr (E := 49) (by kernel_rfl) (by kernel_rfl) (Nat.le_of_ble_eq_true rfl) rfl rfl (by omega) (by omega)))
           refine h_do 19 rfl (by kernel_rfl) (wants0 rfl) (fun K355 hK355 => ?_)
           refine d_storeS (size := 38) (vs := (([(.int .i64 (x345.r)), (.int .i64 (x345.cl)), (.int .i64 (x345.seq))] : List Value) ++ hc x345.h ++ ([(.int .u64 (x345.t)), (.int .i64 (x345.sb)), (.int .i64 (x345.sm))] : List Value))) encSt_len rfl H351 6 rfl rfl rfl rfl (by kernel_rfl) (Nat.le_of_ble_eq_true (by kernel_rfl)) (by kernel_rfl) K2 0 x345 h354 (show 0 + ((K2 : Int)).toNat * 38 = K2 * 38 + 0 by omega) (Nat.le_of_ble_eq_true (by kernel_rfl)) (by kernel_rfl) ?_
           intro w356 (H357 : Sat w [cellC b10 36 ([(.int .i64 (F)), (.int .i64 (3))] : List Value), cellC b30 54 ([(.pointer (some ⟨b20, 0, none⟩)), (.pointer (some ⟨r22, 0, none⟩))] : List Value), cellC b20 107 ([(.map (some m21))] : List Value), mapC m21 signedV (Value.int .i64) (marks L), cellC r22 88 ([(.slice ra L.length rc)] : List Value), rowC 120 2 (.slice ra L.length rc) L.length (L.flatMap encS), rowC 49 38 (.slice (some ⟨gD, 0, none⟩) D.length dc) D.length (((D.set K x343).set K2 x345).flatMap encSt), cellC yb 47 (([(.int .i64 (Y.cl)), (.int .i64 (Y.seq))] : List Value) ++ hc Y.h ++ ([(.int .i64 (Y.len)), (.int .i64 (Y.sb)), (.int .i64 (Y.sm)), (.slice (some ⟨gD, 0, none⟩) D.length dc)] : List Value)), restC w (fun _ => False)] w356)
           have hlw356 : ((D.set K x343).set K2 x345).length = (D.set K x343).length := List.length_set
           have S358 := H357.pick [0, 1, 2, 3, 4, 5, 7, 8] (by decide)
           refine hK355 _ _ S358 ?_
           clear hK355 K355
           refine h_fin (by kernel_rfl) ?_
           refine blk_normal ?_
           have H359 := (H357.conv 6 rfl (stsC_row) (fun b hb => hb.2)).pick [0, 1, 2, 3, 4, 5, 6, 7, 8] (by decide)
           refine meetR_at ?_ ⟨Y, (.slice (some ⟨gD, 0, none⟩) D.length dc), ((D.set K x343).set K2 x345), ra, rc, L, hokY, (fun s hs => (List.mem_or_eq_of_mem_set hs).elim ((fun s hs => (List.mem_or_eq_of_mem_set hs).elim (hok s) (fun e => by rw [e]; exact hox343)) s) (fun e => by rw [e]; exact hox345)), (by simp only [List.length_set, List.length_append, List.length_cons, List.length_nil]; omega), (by simp only [List.length_set, List.length_append, List.length_cons, List.length_nil]; omega), hnd, (by omega), H359⟩
           exact (same_upd rfl (same_upd rfl (same_upd rfl (same_upd rfl (same_upd rfl (same_upd rfl (same_upd rfl (same_upd rfl (same_upd rfl (same_upd rfl (same_upd rfl (same_upd rfl (same_upd rfl (same_upd rfl (same_upd rfl (same_upd rfl (same_upd rfl (same_upd rfl (same_upd rfl (same_upd rfl (same_upd rfl (same_upd rfl (same_upd rfl (same_upd rfl (same_upd rfl (same_upd rfl (same_upd rfl (same_upd rfl (same_upd rfl (same_upd rfl (same_upd rfl (same_upd rfl (same_upd rfl (same_upd rfl (same_upd rfl (same_upd rfl (same_upd rfl (same_upd rfl (same_upd rfl (same_upd rfl (same_upd rfl (same_upd rfl (same_upd rfl (same_upd rfl (same_upd rfl (same_upd rfl (same_upd rfl (same_upd rfl (same_upd rfl (same_refl))))))))))))))))))))))))))))))))))))))))))))))))))
          ·refine d_storeS (size := 38) (vs := (([(.int .i64 (x343.r)), (.int .i64 (x343.cl)), (.int .i64 (x343.seq))] : List Value) ++ hc x343.h ++ ([(.int .u64 (x343.t)), (.int .i64 (x343.sb)), (.int .i64 (x343.sm))] : List Value))) encSt_len rfl H341 6 rfl rfl rfl rfl (by kernel_rfl) (Nat.le_of_ble_eq_true (by kernel_rfl)) (by kernel_rfl) K 0 x343 h346 (show 0 + ((K : Int)).toNat * 38 = K * 38 + 0 by omega) (Nat.le_of_ble_eq_true (by kernel_rfl)) (by kernel_rfl) ?_
           intro w360 (H361 : Sat w [cellC b10 36 ([(.int .i64 (F)), (.int .i64 (3))] : List Value), cellC b30 54 ([(.pointer (some ⟨b20, 0, none⟩)), (.pointer (some ⟨r22, 0, none⟩))] : List Value), cellC b20 107 ([(.map (some m21))] : List Value), mapC m21 signedV (Value.int .i64) (marks L), cellC r22 88 ([(.slice ra L.length rc)] : List Value), rowC 120 2 (.slice ra L.length rc) L.length (L.flatMap encS), rowC 49 38 (.slice (some ⟨gD, 0, none⟩) D.length dc) D.length ((D.set K x343).flatMap encSt), cellC yb 47 (([(.int .i64 (Y.cl)), (.int .i64 (Y.seq))] : List Value) ++ hc Y.h ++ ([(.int .i64 (Y.len)), (.int .i64 (Y.sb)), (.int .i64 (Y.sm)), (.slice (some ⟨gD, 0, none⟩) D.length dc)] : List Value)), restC w (fun _ => False)] w360)
           have hlw360 : (D.set K x343).length = D.length := List.length_set
           have S362 := H361.pick [0, 1, 2, 3, 4, 5, 7, 8] (by decide)
           refine hK347 _ _ S362 ?_
           clear hK347 K347
           refine hv0 4 S362 129 (.slice (some ⟨gD, 0, none⟩) D.length dc) ?_ (he := fun _ H' => (e_load1 rfl (by kernel_rfl) (H'.cell 6 rfl (by kernel_rfl))))
           obtain ⟨x363, h364⟩ := get_at (show K2 < (D.set K x343).length by omega)
           refine hv0 18 S362 142 (.pointer (some ⟨gD, 0 + ((K2 : Int)).toNat * 38, none⟩)) ?_ (he := fun _ H' => (e_indexAddr (E := 49) (by kernel_rfl) (by kernel_rfl) (Nat.le_of_ble_eq_true rfl) rfl rfl (by omega) (by omega)))
           refine h_do 19 rfl (by kernel_rfl) (wants0 rfl) (fun K365 hK365 => ?_)
           refine d_storeS (size := 38) (vs := (([(.int .i64 (x345.r)), (.int .i64 (x345.cl)), (.int .i64 (x345.seq))] : List Value) ++ hc x345.h ++ ([(.int .u64 (x345.t)), (.int .i64 (x345.sb)), (.int .i64 (x345.sm))] : List Value))) encSt_len rfl H361 6 rfl rfl rfl rfl (by kernel_rfl) (Nat.le_of_ble_eq_true (by kernel_rfl)) (by kernel_rfl) K2 0 x345 h364 (show 0 + ((K2 : Int)).toNat * 38 = K2 * 38 + 0 by omega) (Nat.le_of_ble_eq_true (by kernel_rfl)) (by kernel_rfl) ?_
           intro w366 (H367 : Sat w [cellC b10 36 ([(.int .i64 (F)), (.int .i64 (3))] : List Value), cellC b30 54 ([(.pointer (some ⟨b20, 0, none⟩)), (.pointer (some ⟨r22, 0, none⟩))] : List Value), cellC b20 107 ([(.map (some m21))] : List Value), mapC m21 signedV (Value.int .i64) (marks L), cellC r22 88 ([(.slice ra L.length rc)] : List Value), rowC 120 2 (.slice ra L.length rc) L.length (L.flatMap encS), rowC 49 38 (.slice (some ⟨gD, 0, none⟩) D.length dc) D.length (((D.set K x343).set K2 x345).flatMap encSt), cellC yb 47 (([(.int .i64 (Y.cl)), (.int .i64 (Y.seq))] : List Value) ++ hc Y.h ++ ([(.int .i64 (Y.len)), (.int .i64 (Y.sb)), (.int .i64 (Y.sm)), (.slice (some ⟨gD, 0, none⟩) D.length dc)] : List Value)), restC w (fun _ => False)] w366)
           have hlw366 : ((D.set K x343).set K2 x345).length = (D.set K x343).length := List.length_set
           have S368 := H367.pick [0, 1, 2, 3, 4, 5, 7, 8] (by decide)
           refine hK365 _ _ S368 ?_
           clear hK365 K365
           refine h_fin (by kernel_rfl) ?_
           refine blk_normal ?_
           have H369 := (H367.conv 6 rfl (stsC_row) (fun b hb => hb.2)).pick [0, 1, 2, 3, 4, 5, 6, 7, 8] (by decide)
           refine meetR_at ?_ ⟨Y, (.slice (some ⟨gD, 0, none⟩) D.length dc), ((D.set K x343).set K2 x345), ra, rc, L, hokY, (fun s hs => (List.mem_or_eq_of_mem_set hs).elim ((fun s hs => (List.mem_or_eq_of_mem_set hs).elim (hok s) (fun e => by rw [e]; exact hox343)) s) (fun e => by rw [e]; exact hox345)), (by simp only [List.length_set, List.length_append, List.length_cons, List.length_nil]; omega), (by simp only [List.length_set, List.length_append, List.length_cons, List.length_nil]; omega), hnd, (by omega), H369⟩
           exact (same_upd rfl (same_upd rfl (same_upd rfl (same_upd rfl (same_upd rfl (same_upd rfl (same_upd rfl (same_upd rfl (same_upd rfl (same_upd rfl (same_upd rfl (same_upd rfl (same_upd rfl (same_upd rfl (same_upd rfl (same_upd rfl (same_upd rfl (same_upd rfl (same_upd rfl (same_upd rfl (same_upd rfl (same_upd rfl (same_upd rfl (same_upd rfl (same_upd rfl (same_upd rfl (same_upd rfl (same_upd rfl (same_upd rfl (same_upd rfl (same_upd rfl (same_upd rfl (same_upd rfl (same_upd rfl (same_upd rfl (same_upd rfl (same_upd rfl (same_upd rfl (same_upd rfl (same_upd rfl (same_upd rfl (same_upd rfl (same_upd rfl (same_upd rfl (same_upd rfl (same_upd rfl (same_upd rfl (same_upd rfl (same_upd rfl (same_refl))))))))))))))))))))))))))))))))))))))))))))))))))
         ·have g370 := of_decide_eq_false b325
          refine wp_know 117 (.bool false) (congrArg Value.bool b325) ?_
          have g371 := of_decide_eq_false b325
          refine wp_iff rfl ?_
          refine w_seq ?_
          refine w_lit ?_
          refine wv 144 (.bool (decide ((withinV what 10) = 8))) ?_
          refine wv 143 (.bool (decide ((withinV what 10) = 8))) ?_
          refine w_nil ?_
          refine then_normal ?_
          refine (bsplit (decide ((withinV what 10) = 8))).elim (fun b372 => ?_) (fun b372 => ?_)
          ·have g373 := of_decide_eq_true b372
           refine wp_know 143 (.bool true) (congrArg Value.bool b372) ?_
           have g374 := of_decide_eq_true b372
           refine wp_ift rfl ?_
           obtain ⟨x375, h376⟩ := get_at (show K < D.length by omega)
           have hox375 : StOk x375 := hok _ (List.mem_of_getElem? h376)
           have hrx375 := hox375.1
           obtain ⟨x377, h378⟩ := get_at (show K < D.length by omega)
           have hox377 : StOk x377 := hok _ (List.mem_of_getElem? h378)
           have hrx377 := hox377.1
           refine k_start H234 [cellC b10 36 ([(.int .i64 (F)), (.int .i64 (3))] : List Value), cellC b30 54 ([(pt b20 0), (pt r22 0)] : List Value), rowC 49 38 (.slice (some ⟨gD, 0, none⟩) D.length dc) D.length (D.flatMap encSt), cellC yb 47 (([(.int .i64 (Y.cl)), (.int .i64 (Y.seq))] : List Value) ++ hc Y.h ++ ([(.int .i64 (Y.len)), (.int .i64 (Y.sb)), (.int .i64 (Y.sm)), (.slice (some ⟨gD, 0, none⟩) D.length dc)] : List Value)), restC w (fun _ => False)] [14] 15 rfl (by kernel_rfl) (fun Hx => (Hx.pick [0, 1, 6, 7, 8] (by decide))) ?_
           intro w379 H380 S381
           refine k_pure 0 rfl (by kernel_rfl) (by kernel_rfl) (by kernel_rfl) (fun _ _ _ h => h) S381 (wants0 rfl) rfl (d := 145) (v := (pt yb 37)) rfl (fun _ => (by kernel_rfl)) ?_
           refine k_val 1 rfl (by kernel_rfl) (by kernel_rfl) (by kernel_rfl) (fun _ _ _ h => h) S381 (wants0 rfl) rfl (by kernel_rfl) (d := 146) (v := (.slice (some ⟨gD, 0, none⟩) D.length dc)) rfl (fun _ H' => (e_load1 rfl (by kernel_rfl) (H'.cell 3 rfl (by kernel_rfl)))) ?_
           refine k_pure 2 rfl (by kernel_rfl) (by kernel_rfl) (by kernel_rfl) (fun _ _ _ h => h) S381 (wants0 rfl) rfl (d := 147) (v := (.int .i64 ((K : Int)))) rfl (fun _ => (by kernel_rfl)) ?_
           refine k_val 3 rfl (by kernel_rfl) (by kernel_rfl) (by kernel_rfl) (fun _ _ _ h => h) S381 (wants0 rfl) rfl (by kernel_rfl) (d := 148) (v := (.agg ⟨([(pt b20 0), (pt r22 0)] : List Value)⟩)) rfl (fun _ H' => (e_loadN (vs := ([(pt b20 0), (pt r22 0)] : List Value)) rfl (by kernel_rfl) (by kernel_rfl) (by exact Nat.le_of_ble_eq_true (by kernel_rfl)) (H'.at 1 rfl) (by kernel_rfl))) ?_
           refine k_pure 4 rfl (by kernel_rfl) (by kernel_rfl) (by kernel_rfl) (fun _ _ _ h => h) S381 (wants0 rfl) rfl (d := 149) (v := (pt yb 37)) rfl (fun _ => (by kernel_rfl)) ?_
           refine k_val 5 rfl (by kernel_rfl) (by kernel_rfl) (by kernel_rfl) (fun _ _ _ h => h) S381 (wants0 rfl) rfl (by kernel_rfl) (d := 150) (v := (.slice (some ⟨gD, 0, none⟩) D.length dc)) rfl (fun _ H' => (e_load1 rfl (by kernel_rfl) (H'.cell 3 rfl (by kernel_rfl)))) ?_
           refine k_pure 6 rfl (by kernel_rfl) (by kernel_rfl) (by kernel_rfl) (fun _ _ _ h => h) S381 (wants0 rfl) rfl (d := 151) (v := (.int .i64 ((K : Int)))) rfl (fun _ => (by kernel_rfl)) ?_
           obtain ⟨x382, h383⟩ := get_at (show K < D.length by omega)
           have hox382 : StOk x382 := hok _ (List.mem_of_getElem? h383)
           have hrx382 := hox382.1
           refine k_pure 7 rfl (by kernel_rfl) (by kernel_rfl) (by kernel_rfl) (fun _ _ _ h => h) S381 (wants0 rfl) rfl (d := 152) (v := (.pointer (some ⟨gD, 0 + ((K : Int)).toNat * 38, none⟩))) rfl (fun _ => (e_indexAddr (E := 49) (by kernel_rfl) (by kernel_rfl) (Nat.le_of_ble_eq_true rfl) rfl rfl (by omega) (by omega))) ?_
           refine k_pure 8 rfl (by kernel_rfl) (by kernel_rfl) (by kernel_rfl) (fun _ _ _ h => h) S381 (wants0 rfl) rfl (d := 153) (v := (.pointer (some ⟨gD, 0 + ((K : Int)).toNat * 38, none⟩))) rfl (fun _ => (by kernel_rfl)) ?_
           refine k_val 9 rfl (by kernel_rfl) (by kernel_rfl) (by kernel_rfl) (fun _ _ _ h => h) S381 (wants0 rfl) rfl (by kernel_rfl) (d := 154) (v := (.int .i64 (x382.r))) rfl (fun _ H' => (e_load1 rfl (by kernel_rfl) (rows_cell (H'.at 2 rfl) rfl encSt_len h383 0 rfl (show 0 + ((K : Int)).toNat * 38 = K * 38 + 0 by omega) (by kernel_rfl)))) ?_
           refine k_pure 10 rfl (by kernel_rfl) (by kernel_rfl) (by kernel_rfl) (fun _ _ _ h => h) S381 (wants0 rfl) rfl (d := 155) (v := (pt yb 0)) rfl (fun _ => (by kernel_rfl)) ?_
           refine k_val 11 rfl (by kernel_rfl) (by kernel_rfl) (by kernel_rfl) (fun _ _ _ h => h) S381 (wants0 rfl) rfl (by kernel_rfl) (d := 156) (v := (.agg ⟨(([(.int .i64 (Y.cl)), (.int .i64 (Y.seq))] : List Value) ++ hc Y.h ++ ([(.int .i64 (Y.len)), (.int .i64 (Y.sb)), (.int .i64 (Y.sm))] : List Value))⟩)) rfl (fun _ H' => (e_loadN (vs := (([(.int .i64 (Y.cl)), (.int .i64 (Y.seq))] : List Value) ++ hc Y.h ++ ([(.int .i64 (Y.len)), (.int .i64 (Y.sb)), (.int .i64 (Y.sm))] : List Value))) rfl (by kernel_rfl) (by kernel_rfl) (by exact Nat.le_of_ble_eq_true (by kernel_rfl)) (H'.at 3 rfl) (by kernel_rfl))) ?_
           refine k_do 12 rfl (by kernel_rfl) (wants0 rfl) rfl (fun K384 hK384 => ?_)
           refine d_call (d := 157) rfl (by kernel_rfl) (bkStamp_any w379 b20 m21 r22 ra rc L (H380.fin [2, 3, 4, 5] (by decide) rfl) x382.r Y (0 : Int) (by omega) hokY (by omega) (by omega) hnd) ?_
           rintro _ w385 ⟨a387, c388, rfl, T386⟩
           obtain ⟨L390, hL390⟩ : ∃ L390 : List Signed, L390 = signL L (yS x382.r Y (0 : Int)) := ⟨_, rfl⟩
           rw [← hL390] at T386
           have H391 : Sat w [cellC b10 36 ([(.int .i64 (F)), (.int .i64 (3))] : List Value), cellC b30 54 ([(pt b20 0), (pt r22 0)] : List Value), cellC b20 107 ([(.map (some m21))] : List Value), mapC m21 signedV (Value.int .i64) (marks L390), cellC r22 88 ([(.slice a387 L390.length c388)] : List Value), rowC 120 2 (.slice a387 L390.length c388) L390.length (L390.flatMap encS), rowC 49 38 (.slice (some ⟨gD, 0, none⟩) D.length dc) D.length (D.flatMap encSt), cellC yb 47 (([(.int .i64 (Y.cl)), (.int .i64 (Y.seq))] : List Value) ++ hc Y.h ++ ([(.int .i64 (Y.len)), (.int .i64 (Y.sb)), (.int .i64 (Y.sm)), (.slice (some ⟨gD, 0, none⟩) D.length dc)] : List Value)), restC w (fun _ => False)] w385 := (Sat.turnL (L' := [cellC b20 107 ([(.map (some m21))] : List Value), mapC m21 signedV (Value.int .i64) (marks L390), cellC r22 88 ([(.slice a387 L390.length c388)] : List Value), rowC 120 2 (.slice a387 L390.length c388) L390.length (L390.flatMap encS)]) (R := [cellC b10 36 ([(.int .i64 (F)), (.int .i64 (3))] : List Value), cellC b30 54 ([(pt b20 0), (pt r22 0)] : List Value), rowC 49 38 (.slice (some ⟨gD, 0, none⟩) D.length dc) D.length (D.flatMap encSt), cellC yb 47 (([(.int .i64 (Y.cl)), (.int .i64 (Y.seq))] : List Value) ++ hc Y.h ++ ([(.int .i64 (Y.len)), (.int .i64 (Y.sb)), (.int .i64 (Y.sm)), (.slice (some ⟨gD, 0, none⟩) D.length dc)] : List Value)), restC w (fun _ => False)]) H380 [2, 3, 4, 5] [0, 1, 6, 7, 8] (by decide) (by kernel_rfl) rfl T386).pick [4, 5, 0, 1, 2, 3, 6, 7, 8] (by decide)
           refine ⟨_, rfl, ?_⟩
           obtain ⟨S389, hS389⟩ : ∃ S389 : StampD, S389 = mkS L x382.r Y (0 : Int) := ⟨_, rfl⟩
           rw [← hS389]
           have ndL390 : L390.Nodup := by rw [hL390]; exact signL_nodup hnd _
           have llL390 : L390.length ≤ L.length + 1 := by rw [hL390]; exact signL_len _ _
           have S392 := H391.pick [0, 1, 6, 7, 8] (by decide)
           refine hK384 _ _ S392 ?_
           clear hK384 K384
           refine k_pure 13 rfl (by kernel_rfl) (by kernel_rfl) (by kernel_rfl) (fun _ _ _ h => h) S392 (wants0 rfl) rfl (d := 158) (v := (.pointer (some ⟨gD, 0 + ((K : Int)).toNat * 38, none⟩))) rfl (fun _ => (e_indexAddr (E := 49) (by kernel_rfl) (by kernel_rfl) (Nat.le_of_ble_eq_true rfl) rfl rfl (by omega) (by omega))) ?_
           refine k_brk 14 (Sat w [cellC b10 36 ([(.int .i64 (F)), (.int .i64 (3))] : List Value), cellC b30 54 ([(pt b20 0), (pt r22 0)] : List Value), cellC yb 47 (([(.int .i64 (Y.cl)), (.int .i64 (Y.seq))] : List Value) ++ hc Y.h ++ ([(.int .i64 (Y.len)), (.int .i64 (Y.sb)), (.int .i64 (Y.sm)), (.slice (some ⟨gD, 0, none⟩) D.length dc)] : List Value)), restC w (fun _ => False)]) rfl (by kernel_rfl) (wants0 rfl) rfl (fun K393 hK393 => ?_)
           refine d_storeS (size := 38) (vs := (([(.int .i64 (S389.r)), (.int .i64 (S389.cl)), (.int .i64 (S389.seq))] : List Value) ++ hc S389.h ++ ([(.int .u64 (S389.t)), (.int .i64 (S389.sb)), (.int .i64 (S389.sm))] : List Value))) encSt_len rfl H391 6 rfl rfl rfl rfl (by kernel_rfl) (Nat.le_of_ble_eq_true (by kernel_rfl)) (by kernel_rfl) K 0 S389 h383 (show 0 + ((K : Int)).toNat * 38 = K * 38 + 0 by omega) (Nat.le_of_ble_eq_true (by kernel_rfl)) (by kernel_rfl) ?_
           intro w394 (H395 : Sat w [cellC b10 36 ([(.int .i64 (F)), (.int .i64 (3))] : List Value), cellC b30 54 ([(.pointer (some ⟨b20, 0, none⟩)), (.pointer (some ⟨r22, 0, none⟩))] : List Value), cellC b20 107 ([(.map (some m21))] : List Value), mapC m21 signedV (Value.int .i64) (marks L390), cellC r22 88 ([(.slice a387 L390.length c388)] : List Value), rowC 120 2 (.slice a387 L390.length c388) L390.length (L390.flatMap encS), rowC 49 38 (.slice (some ⟨gD, 0, none⟩) D.length dc) D.length ((D.set K S389).flatMap encSt), cellC yb 47 (([(.int .i64 (Y.cl)), (.int .i64 (Y.seq))] : List Value) ++ hc Y.h ++ ([(.int .i64 (Y.len)), (.int .i64 (Y.sb)), (.int .i64 (Y.sm)), (.slice (some ⟨gD, 0, none⟩) D.length dc)] : List Value)), restC w (fun _ => False)] w394)
           have hlw394 : (D.set K S389).length = D.length := List.length_set
           have S396 := H395.pick [0, 1, 7, 8] (by decide)
           refine hK393 _ _ S396 ?_
           clear hK393 K393
           refine h_fin (by kernel_rfl) ?_
           refine blk_normal ?_
           have H397 := (H395.conv 6 rfl (stsC_row) (fun b hb => hb.2)).pick [0, 1, 2, 3, 4, 5, 6, 7, 8] (by decide)
           refine meetR_at ?_ ⟨Y, (.slice (some ⟨gD, 0, none⟩) D.length dc), (D.set K S389), a387, c388, L390, hokY, (fun s hs => (List.mem_or_eq_of_mem_set hs).elim (hok s) (fun e => by rw [e]; exact (by rw [hS389]; exact ⟨hrx382, hokY.1, hokY.2.1, by show 0 ≤ (0 : Int); omega, by show (0 : Int) < _; omega⟩))), (by simp only [List.length_set, List.length_append, List.length_cons, List.length_nil]; omega), (by simp only [List.length_set, List.length_append, List.length_cons, List.length_nil]; omega), ndL390, (by omega), H397⟩
           exact (same_upd rfl (same_upd rfl (same_upd rfl (same_upd rfl (same_upd rfl (same_upd rfl (same_upd rfl (same_upd rfl (same_upd rfl (same_upd rfl (same_upd rfl (same_upd rfl (same_upd rfl (same_upd rfl (same_upd rfl (same_upd rfl (same_upd rfl (same_upd rfl (same_upd rfl (same_upd rfl (same_upd rfl (same_upd rfl (same_upd rfl (same_upd rfl (same_upd rfl (same_upd rfl (same_upd rfl (same_upd rfl (same_upd rfl (same_upd rfl (same_upd rfl (same_upd rfl (same_upd rfl (same_upd rfl (same_upd rfl (same_upd rfl (same_upd rfl (same_upd rfl (same_upd rfl (same_upd rfl (same_refl)))))))))))))))))))))))))))))))))))))))))
          ·have g398 := of_decide_eq_false b372
           refine wp_know 143 (.bool false) (congrArg Value.bool b372) ?_
           have g399 := of_decide_eq_false b372
           refine wp_iff rfl ?_
           refine w_seq ?_
           refine w_lit ?_
           refine wv 160 (.bool (decide ((withinV what 10) = 9))) ?_
           refine wv 159 (.bool (decide ((withinV what 10) = 9))) ?_
           refine w_nil ?_
           refine then_normal ?_
           refine (bsplit (decide ((withinV what 10) = 9))).elim (fun b400 => ?_) (fun b400 => ?_)
           ·have g401 := of_decide_eq_true b400
            refine wp_know 159 (.bool true) (congrArg Value.bool b400) ?_
            have g402 := of_decide_eq_true b400
            refine wp_ift rfl ?_
            obtain ⟨x403, h404⟩ := get_at (show K < D.length by omega)
            have hox403 : StOk x403 := hok _ (List.mem_of_getElem? h404)
            have hrx403 := hox403.1
            obtain ⟨x405, h406⟩ := get_at (show K < D.length by omega)
            have hox405 : StOk x405 := hok _ (List.mem_of_getElem? h406)
            have hrx405 := hox405.1
            refine k_start H234 [cellC b10 36 ([(.int .i64 (F)), (.int .i64 (3))] : List Value), cellC b30 54 ([(pt b20 0), (pt r22 0)] : List Value), rowC 49 38 (.slice (some ⟨gD, 0, none⟩) D.length dc) D.length (D.flatMap encSt), cellC yb 47 (([(.int .i64 (Y.cl)), (.int .i64 (Y.seq))] : List Value) ++ hc Y.h ++ ([(.int .i64 (Y.len)), (.int .i64 (Y.sb)), (.int .i64 (Y.sm)), (.slice (some ⟨gD, 0, none⟩) D.length dc)] : List Value)), restC w (fun _ => False)] [14] 15 rfl (by kernel_rfl) (fun Hx => (Hx.pick [0, 1, 6, 7, 8] (by decide))) ?_
            intro w407 H408 S409
            refine k_pure 0 rfl (by kernel_rfl) (by kernel_rfl) (by kernel_rfl) (fun _ _ _ h => h) S409 (wants0 rfl) rfl (d := 161) (v := (pt yb 37)) rfl (fun _ => (by kernel_rfl)) ?_
            refine k_val 1 rfl (by kernel_rfl) (by kernel_rfl) (by kernel_rfl) (fun _ _ _ h => h) S409 (wants0 rfl) rfl (by kernel_rfl) (d := 162) (v := (.slice (some ⟨gD, 0, none⟩) D.length dc)) rfl (fun _ H' => (e_load1 rfl (by kernel_rfl) (H'.cell 3 rfl (by kernel_rfl)))) ?_
            refine k_pure 2 rfl (by kernel_rfl) (by kernel_rfl) (by kernel_rfl) (fun _ _ _ h => h) S409 (wants0 rfl) rfl (d := 163) (v := (.int .i64 ((K : Int)))) rfl (fun _ => (by kernel_rfl)) ?_
            refine k_val 3 rfl (by kernel_rfl) (by kernel_rfl) (by kernel_rfl) (fun _ _ _ h => h) S409 (wants0 rfl) rfl (by kernel_rfl) (d := 164) (v := (.agg ⟨([(pt b20 0), (pt r22 0)] : List Value)⟩)) rfl (fun _ H' => (e_loadN (vs := ([(pt b20 0), (pt r22 0)] : List Value)) rfl (by kernel_rfl) (by kernel_rfl) (by exact Nat.le_of_ble_eq_true (by kernel_rfl)) (H'.at 1 rfl) (by kernel_rfl))) ?_
            refine k_pure 4 rfl (by kernel_rfl) (by kernel_rfl) (by kernel_rfl) (fun _ _ _ h => h) S409 (wants0 rfl) rfl (d := 165) (v := (pt yb 37)) rfl (fun _ => (by kernel_rfl)) ?_
            refine k_val 5 rfl (by kernel_rfl) (by kernel_rfl) (by kernel_rfl) (fun _ _ _ h => h) S409 (wants0 rfl) rfl (by kernel_rfl) (d := 166) (v := (.slice (some ⟨gD, 0, none⟩) D.length dc)) rfl (fun _ H' => (e_load1 rfl (by kernel_rfl) (H'.cell 3 rfl (by kernel_rfl)))) ?_
            refine k_pure 6 rfl (by kernel_rfl) (by kernel_rfl) (by kernel_rfl) (fun _ _ _ h => h) S409 (wants0 rfl) rfl (d := 167) (v := (.int .i64 ((K : Int)))) rfl (fun _ => (by kernel_rfl)) ?_
            obtain ⟨x410, h411⟩ := get_at (show K < D.length by omega)
            have hox410 : StOk x410 := hok _ (List.mem_of_getElem? h411)
            have hrx410 := hox410.1
            refine k_pure 7 rfl (by kernel_rfl) (by kernel_rfl) (by kernel_rfl) (fun _ _ _ h => h) S409 (wants0 rfl) rfl (d := 168) (v := (.pointer (some ⟨gD, 0 + ((K : Int)).toNat * 38, none⟩))) rfl (fun _ => (e_indexAddr (E := 49) (by kernel_rfl) (by kernel_rfl) (Nat.le_of_ble_eq_true rfl) rfl rfl (by omega) (by omega))) ?_
            refine k_pure 8 rfl (by kernel_rfl) (by kernel_rfl) (by kernel_rfl) (fun _ _ _ h => h) S409 (wants0 rfl) rfl (d := 169) (v := (.pointer (some ⟨gD, 0 + ((K : Int)).toNat * 38, none⟩))) rfl (fun _ => (by kernel_rfl)) ?_
            refine k_val 9 rfl (by kernel_rfl) (by kernel_rfl) (by kernel_rfl) (fun _ _ _ h => h) S409 (wants0 rfl) rfl (by kernel_rfl) (d := 170) (v := (.int .i64 (x410.r))) rfl (fun _ H' => (e_load1 rfl (by kernel_rfl) (rows_cell (H'.at 2 rfl) rfl encSt_len h411 0 rfl (show 0 + ((K : Int)).toNat * 38 = K * 38 + 0 by omega) (by kernel_rfl)))) ?_
            refine k_pure 10 rfl (by kernel_rfl) (by kernel_rfl) (by kernel_rfl) (fun _ _ _ h => h) S409 (wants0 rfl) rfl (d := 171) (v := (pt yb 0)) rfl (fun _ => (by kernel_rfl)) ?_
            refine k_val 11 rfl (by kernel_rfl) (by kernel_rfl) (by kernel_rfl) (fun _ _ _ h => h) S409 (wants0 rfl) rfl (by kernel_rfl) (d := 172) (v := (.agg ⟨(([(.int .i64 (Y.cl)), (.int .i64 (Y.seq))] : List Value) ++ hc Y.h ++ ([(.int .i64 (Y.len)), (.int .i64 (Y.sb)), (.int .i64 (Y.sm))] : List Value))⟩)) rfl (fun _ H' => (e_loadN (vs := (([(.int .i64 (Y.cl)), (.int .i64 (Y.seq))] : List Value) ++ hc Y.h ++ ([(.int .i64 (Y.len)), (.int .i64 (Y.sb)), (.int .i64 (Y.sm))] : List Value))) rfl (by kernel_rfl) (by kernel_rfl) (by exact Nat.le_of_ble_eq_true (by kernel_rfl)) (H'.at 3 rfl) (by kernel_rfl))) ?_
            refine k_do 12 rfl (by kernel_rfl) (wants0 rfl) rfl (fun K412 hK412 => ?_)
            refine d_call (d := 173) rfl (by kernel_rfl) (bkStamp_any w407 b20 m21 r22 ra rc L (H408.fin [2, 3, 4, 5] (by decide) rfl) x410.r Y (18446744073709551615 : Int) (by omega) hokY (by omega) (by omega) hnd) ?_
            rintro _ w413 ⟨a415, c416, rfl, T414⟩
            obtain ⟨L418, hL418⟩ : ∃ L418 : List Signed, L418 = signL L (yS x410.r Y (18446744073709551615 : Int)) := ⟨_, rfl⟩
            rw [← hL418] at T414
            have H419 : Sat w [cellC b10 36 ([(.int .i64 (F)), (.int .i64 (3))] : List Value), cellC b30 54 ([(pt b20 0), (pt r22 0)] : List Value), cellC b20 107 ([(.map (some m21))] : List Value), mapC m21 signedV (Value.int .i64) (marks L418), cellC r22 88 ([(.slice a415 L418.length c416)] : List Value), rowC 120 2 (.slice a415 L418.length c416) L418.length (L418.flatMap encS), rowC 49 38 (.slice (some ⟨gD, 0, none⟩) D.length dc) D.length (D.flatMap encSt), cellC yb 47 (([(.int .i64 (Y.cl)), (.int .i64 (Y.seq))] : List Value) ++ hc Y.h ++ ([(.int .i64 (Y.len)), (.int .i64 (Y.sb)), (.int .i64 (Y.sm)), (.slice (some ⟨gD, 0, none⟩) D.length dc)] : List Value)), restC w (fun _ => False)] w413 := (Sat.turnL (L' := [cellC b20 107 ([(.map (some m21))] : List Value), mapC m21 signedV (Value.int .i64) (marks L418), cellC r22 88 ([(.slice a415 L418.length c416)] : List Value), rowC 120 2 (.slice a415 L418.length c416) L418.length (L418.flatMap encS)]) (R := [cellC b10 36 ([(.int .i64 (F)), (.int .i64 (3))] : List Value), cellC b30 54 ([(pt b20 0), (pt r22 0)] : List Value), rowC 49 38 (.slice (some ⟨gD, 0, none⟩) D.length dc) D.length (D.flatMap encSt), cellC yb 47 (([(.int .i64 (Y.cl)), (.int .i64 (Y.seq))] : List Value) ++ hc Y.h ++ ([(.int .i64 (Y.len)), (.int .i64 (Y.sb)), (.int .i64 (Y.sm)), (.slice (some ⟨gD, 0, none⟩) D.length dc)] : List Value)), restC w (fun _ => False)]) H408 [2, 3, 4, 5] [0, 1, 6, 7, 8] (by decide) (by kernel_rfl) rfl T414).pick [4, 5, 0, 1, 2, 3, 6, 7, 8] (by decide)
            refine ⟨_, rfl, ?_⟩
            obtain ⟨S417, hS417⟩ : ∃ S417 : StampD, S417 = mkS L x410.r Y (18446744073709551615 : Int) := ⟨_, rfl⟩
            rw [← hS417]
            have ndL418 : L418.Nodup := by rw [hL418]; exact signL_nodup hnd _
            have llL418 : L418.length ≤ L.length + 1 := by rw [hL418]; exact signL_len _ _
            have S420 := H419.pick [0, 1, 6, 7, 8] (by decide)
            refine hK412 _ _ S420 ?_
            clear hK412 K412
            refine k_pure 13 rfl (by kernel_rfl) (by kernel_rfl) (by kernel_rfl) (fun _ _ _ h => h) S420 (wants0 rfl) rfl (d := 174) (v := (.pointer (some ⟨gD, 0 + ((K : Int)).toNat * 38, none⟩))) rfl (fun _ => (e_indexAddr (E := 49) (by kernel_rfl) (by kernel_rfl) (Nat.le_of_ble_eq_true rfl) rfl rfl (by omega) (by omega))) ?_
            refine k_brk 14 (Sat w [cellC b10 36 ([(.int .i64 (F)), (.int .i64 (3))] : List Value), cellC b30 54 ([(pt b20 0), (pt r22 0)] : List Value), cellC yb 47 (([(.int .i64 (Y.cl)), (.int .i64 (Y.seq))] : List Value) ++ hc Y.h ++ ([(.int .i64 (Y.len)), (.int .i64 (Y.sb)), (.int .i64 (Y.sm)), (.slice (some ⟨gD, 0, none⟩) D.length dc)] : List Value)), restC w (fun _ => False)]) rfl (by kernel_rfl) (wants0 rfl) rfl (fun K421 hK421 => ?_)
            refine d_storeS (size := 38) (vs := (([(.int .i64 (S417.r)), (.int .i64 (S417.cl)), (.int .i64 (S417.seq))] : List Value) ++ hc S417.h ++ ([(.int .u64 (S417.t)), (.int .i64 (S417.sb)), (.int .i64 (S417.sm))] : List Value))) encSt_len rfl H419 6 rfl rfl rfl rfl (by kernel_rfl) (Nat.le_of_ble_eq_true (by kernel_rfl)) (by kernel_rfl) K 0 S417 h411 (show 0 + ((K : Int)).toNat * 38 = K * 38 + 0 by omega) (Nat.le_of_ble_eq_true (by kernel_rfl)) (by kernel_rfl) ?_
            intro w422 (H423 : Sat w [cellC b10 36 ([(.int .i64 (F)), (.int .i64 (3))] : List Value), cellC b30 54 ([(.pointer (some ⟨b20, 0, none⟩)), (.pointer (some ⟨r22, 0, none⟩))] : List Value), cellC b20 107 ([(.map (some m21))] : List Value), mapC m21 signedV (Value.int .i64) (marks L418), cellC r22 88 ([(.slice a415 L418.length c416)] : List Value), rowC 120 2 (.slice a415 L418.length c416) L418.length (L418.flatMap encS), rowC 49 38 (.slice (some ⟨gD, 0, none⟩) D.length dc) D.length ((D.set K S417).flatMap encSt), cellC yb 47 (([(.int .i64 (Y.cl)), (.int .i64 (Y.seq))] : List Value) ++ hc Y.h ++ ([(.int .i64 (Y.len)), (.int .i64 (Y.sb)), (.int .i64 (Y.sm)), (.slice (some ⟨gD, 0, none⟩) D.length dc)] : List Value)), restC w (fun _ => False)] w422)
            have hlw422 : (D.set K S417).length = D.length := List.length_set
            have S424 := H423.pick [0, 1, 7, 8] (by decide)
            refine hK421 _ _ S424 ?_
            clear hK421 K421
            refine h_fin (by kernel_rfl) ?_
            refine blk_normal ?_
            have H425 := (H423.conv 6 rfl (stsC_row) (fun b hb => hb.2)).pick [0, 1, 2, 3, 4, 5, 6, 7, 8] (by decide)
            refine meetR_at ?_ ⟨Y, (.slice (some ⟨gD, 0, none⟩) D.length dc), (D.set K S417), a415, c416, L418, hokY, (fun s hs => (List.mem_or_eq_of_mem_set hs).elim (hok s) (fun e => by rw [e]; exact (by rw [hS417]; exact ⟨hrx410, hokY.1, hokY.2.1, by show 0 ≤ (18446744073709551615 : Int); omega, by show (18446744073709551615 : Int) < _; omega⟩))), (by simp only [List.length_set, List.length_append, List.length_cons, List.length_nil]; omega), (by simp only [List.length_set, List.length_append, List.length_cons, List.length_nil]; omega), ndL418, (by omega), H425⟩
            exact (same_upd rfl (same_upd rfl (same_upd rfl (same_upd rfl (same_upd rfl (same_upd rfl (same_upd rfl (same_upd rfl (same_upd rfl (same_upd rfl (same_upd rfl (same_upd rfl (same_upd rfl (same_upd rfl (same_upd rfl (same_upd rfl (same_upd rfl (same_upd rfl (same_upd rfl (same_upd rfl (same_upd rfl (same_upd rfl (same_upd rfl (same_upd rfl (same_upd rfl (same_upd rfl (same_upd rfl (same_upd rfl (same_upd rfl (same_upd rfl (same_upd rfl (same_upd rfl (same_upd rfl (same_upd rfl (same_upd rfl (same_upd rfl (same_upd rfl (same_upd rfl (same_upd rfl (same_upd rfl (same_upd rfl (same_upd rfl (same_upd rfl (same_refl))))))))))))))))))))))))))))))))))))))))))))
           ·have g426 := of_decide_eq_false b400
            refine wp_know 159 (.bool false) (congrArg Value.bool b400) ?_
            have g427 := of_decide_eq_false b400
            refine wp_iff rfl ?_
            refine w_skip ?_
            refine blk_normal ?_
            have H428 := (H234.conv 6 rfl (stsC_row) (fun b hb => hb.2)).pick [0, 1, 2, 3, 4, 5, 6, 7, 8] (by decide)
            refine meetR_at ?_ ⟨Y, (.slice (some ⟨gD, 0, none⟩) D.length dc), D, ra, rc, L, hokY, hok, (by omega), (by omega), hnd, (by omega), H428⟩
            exact (same_upd rfl (same_upd rfl (same_upd rfl (same_upd rfl (same_upd rfl (same_upd rfl (same_upd rfl (same_upd rfl (same_upd rfl (same_upd rfl (same_upd rfl (same_upd rfl (same_upd rfl (same_upd rfl (same_upd rfl (same_upd rfl (same_upd rfl (same_upd rfl (same_upd rfl (same_upd rfl (same_upd rfl (same_upd rfl (same_upd rfl (same_upd rfl (same_upd rfl (same_upd rfl (same_upd rfl (same_upd rfl (same_upd rfl (same_refl))))))))))))))))))))))))))))))
  ·rintro f429 w430 ⟨x2, tv, T, ra2, rc2, L2, hokx, hokT, hT0, hT8, hnd2, hLl2, H431⟩
   refine w_seq ?_
   obtain ⟨g433, o434, c435, rfl, _⟩ := SliceOf.atD (H431.at 6 rfl) stamp0 hT0
   have hTs : StsOk T := fun i hi => hokT _ (by rw [List.getD_eq_getElem?_getD, List.getElem?_eq_getElem hi]; exact List.getElem_mem hi)
   have hTz : StOk (T.getD 0 stamp0) := hTs 0 hT0
   refine q_start H431 (by kernel_rfl) (by kernel_rfl) ?_
   refine qv 175 (.agg ⟨([(.int .i64 (F)), (.int .i64 (3))] : List Value)⟩) ?_ (hr := fun _ H' => (e_loadN (vs := ([(.int .i64 (F)), (.int .i64 (3))] : List Value)) rfl (by kernel_rfl) (by kernel_rfl) (by exact Nat.le_of_ble_eq_true (by kernel_rfl)) (H'.at 0 rfl) (by kernel_rfl)))
   refine qv 176 (pt b30 0) ?_
   refine qv 177 (pt b20 0) ?_ (hr := fun _ H' => (e_load1 rfl (by kernel_rfl) (H'.cell 1 rfl rfl)))
   refine qv 178 (.agg ⟨(([(.int .i64 (x2.cl)), (.int .i64 (x2.seq))] : List Value) ++ hc x2.h ++ ([(.int .i64 (x2.len)), (.int .i64 (x2.sb)), (.int .i64 (x2.sm)), (.slice (some ⟨g433, o434, none⟩) T.length c435)] : List Value))⟩) ?_ (hr := fun _ H' => (e_loadN (vs := (([(.int .i64 (x2.cl)), (.int .i64 (x2.seq))] : List Value) ++ hc x2.h ++ ([(.int .i64 (x2.len)), (.int .i64 (x2.sb)), (.int .i64 (x2.sm)), (.slice (some ⟨g433, o434, none⟩) T.length c435)] : List Value))) rfl (by kernel_rfl) (by kernel_rfl) (by exact Nat.le_of_ble_eq_true (by kernel_rfl)) (H'.at 7 rfl) (by kernel_rfl)))
   refine q_call (wants0 rfl) (d := 179) (v := (.bool (rightX F 3 L2 x2 T))) rfl (fun _ _ => by kernel_rfl) (fun w' H' => (wRightX_at w' F 3 (by omega) b20 m21 L2 (H'.at 2 rfl) (H'.at 3 rfl) x2 hokx (.slice (some ⟨g433, o434, none⟩) T.length c435) T (H'.at 6 rfl) hTs (by omega)).mono fun _ _ h => ⟨h.1, H'.keepU h.2⟩) ?_
   refine qv 180 (.agg ⟨([(.int .i64 (F)), (.int .i64 (3))] : List Value)⟩) ?_ (hr := fun _ H' => (e_loadN (vs := ([(.int .i64 (F)), (.int .i64 (3))] : List Value)) rfl (by kernel_rfl) (by kernel_rfl) (by exact Nat.le_of_ble_eq_true (by kernel_rfl)) (H'.at 0 rfl) (by kernel_rfl)))
   refine qv 181 (pt b30 1) ?_
   refine qv 182 (pt r22 0) ?_ (hr := fun _ H' => (e_load1 rfl (by kernel_rfl) (H'.cell 1 rfl rfl)))
   refine qv 183 (.agg ⟨(([(.int .i64 (x2.cl)), (.int .i64 (x2.seq))] : List Value) ++ hc x2.h ++ ([(.int .i64 (x2.len)), (.int .i64 (x2.sb)), (.int .i64 (x2.sm)), (.slice (some ⟨g433, o434, none⟩) T.length c435)] : List Value))⟩) ?_ (hr := fun _ H' => (e_loadN (vs := (([(.int .i64 (x2.cl)), (.int .i64 (x2.seq))] : List Value) ++ hc x2.h ++ ([(.int .i64 (x2.len)), (.int .i64 (x2.sb)), (.int .i64 (x2.sm)), (.slice (some ⟨g433, o434, none⟩) T.length c435)] : List Value))) rfl (by kernel_rfl) (by kernel_rfl) (by exact Nat.le_of_ble_eq_true (by kernel_rfl)) (H'.at 7 rfl) (by kernel_rfl)))
   refine q_call (wants0 rfl) (d := 184) (v := (.bool (rightX F 3 L2 x2 T))) rfl (fun _ _ => by kernel_rfl) (fun w' H' => (rRightX_at w' F 3 (by omega) r22 ra2 rc2 L2 (H'.at 4 rfl) (H'.at 5 rfl) hnd2 (by omega) x2 hokx (.slice (some ⟨g433, o434, none⟩) T.length c435) T (H'.at 6 rfl) hTs (by omega)).mono fun _ _ h => ⟨h.1, H'.keepU h.2⟩) ?_
   refine qv 185 (.bool ((rightX F 3 L2 x2 T) == (rightX F 3 L2 x2 T))) ?_
   refine qv 186 (.bool ((rightX F 3 L2 x2 T) == (rightX F 3 L2 x2 T))) ?_
   have b437 : ((rightX F 3 L2 x2 T) == (rightX F 3 L2 x2 T)) = true := by exact beq_self_eq_true _
   refine q_know 186 (.bool true) (congrArg Value.bool b437) ?_
   refine qy 11 186 true 187 (.agg ⟨(([(.int .i64 (x2.cl)), (.int .i64 (x2.seq))] : List Value) ++ hc x2.h ++ ([(.int .i64 (x2.len)), (.int .i64 (x2.sb)), (.int .i64 (x2.sm)), (.slice (some ⟨g433, o434, none⟩) T.length c435)] : List Value))⟩) ?_ (hr := fun _ H' => (e_loadN (vs := (([(.int .i64 (x2.cl)), (.int .i64 (x2.seq))] : List Value) ++ hc x2.h ++ ([(.int .i64 (x2.len)), (.int .i64 (x2.sb)), (.int .i64 (x2.sm)), (.slice (some ⟨g433, o434, none⟩) T.length c435)] : List Value))) rfl (by kernel_rfl) (by kernel_rfl) (by exact Nat.le_of_ble_eq_true (by kernel_rfl)) (H'.at 7 rfl) (by kernel_rfl)))
   refine q_call (wantsY 11 186 true rfl (by kernel_rfl) rfl (by kernel_rfl)) (d := 188) (v := (.int .u64 (timeD T))) rfl (fun _ _ => by kernel_rfl) (fun w' H' => (wTime_at w' x2 (.slice (some ⟨g433, o434, none⟩) T.length c435) T (H'.at 6 rfl) (by omega)).mono fun _ _ h => ⟨h.1, H'.keepU h.2⟩) ?_
   refine qy 11 186 true 189 (.agg ⟨(([(.int .i64 (x2.cl)), (.int .i64 (x2.seq))] : List Value) ++ hc x2.h ++ ([(.int .i64 (x2.len)), (.int .i64 (x2.sb)), (.int .i64 (x2.sm)), (.slice (some ⟨g433, o434, none⟩) T.length c435)] : List Value))⟩) ?_ (hr := fun _ H' => (e_loadN (vs := (([(.int .i64 (x2.cl)), (.int .i64 (x2.seq))] : List Value) ++ hc x2.h ++ ([(.int .i64 (x2.len)), (.int .i64 (x2.sb)), (.int .i64 (x2.sm)), (.slice (some ⟨g433, o434, none⟩) T.length c435)] : List Value))) rfl (by kernel_rfl) (by kernel_rfl) (by exact Nat.le_of_ble_eq_true (by kernel_rfl)) (H'.at 7 rfl) (by kernel_rfl)))
   refine q_call (wantsY 11 186 true rfl (by kernel_rfl) rfl (by kernel_rfl)) (d := 190) (v := (.int .u64 (timeD T))) rfl (fun _ _ => by kernel_rfl) (fun w' H' => (rTime_at w' x2 (.slice (some ⟨g433, o434, none⟩) T.length c435) T (H'.at 6 rfl) (by omega)).mono fun _ _ h => ⟨h.1, H'.keepU h.2⟩) ?_
   refine qy 11 186 true 191 (.bool (decide ((timeD T) = (timeD T)))) ?_
   refine qv 192 (.bool (decide ((timeD T) = (timeD T)))) ?_
   refine qv 193 (.bool (decide ((timeD T) = (timeD T)))) ?_
   have b438 : (decide ((timeD T) = (timeD T))) = true := by exact decide_eq_true rfl
   refine q_know 193 (.bool true) (congrArg Value.bool b438) ?_
   have g439 := of_decide_eq_true b438
   refine qy 18 193 true 194 (.agg ⟨([(.int .i64 (F)), (.int .i64 (3))] : List Value)⟩) ?_ (hr := fun _ H' => (e_loadN (vs := ([(.int .i64 (F)), (.int .i64 (3))] : List Value)) rfl (by kernel_rfl) (by kernel_rfl) (by exact Nat.le_of_ble_eq_true (by kernel_rfl)) (H'.at 0 rfl) (by kernel_rfl)))
   refine qy 18 193 true 195 (pt b30 0) ?_
   refine qy 18 193 true 196 (pt b20 0) ?_ (hr := fun _ H' => (e_load1 rfl (by kernel_rfl) (H'.cell 1 rfl rfl)))
   refine qy 18 193 true 197 (pt yb 37) ?_
   refine qy 18 193 true 198 (.slice (some ⟨g433, o434, none⟩) T.length c435) ?_ (hr := fun _ H' => (e_load1 rfl (by kernel_rfl) (H'.cell 7 rfl (by kernel_rfl))))
   refine qy 18 193 true 199 (.pointer (some ⟨g433, o434 + ((0 : Int)).toNat * 38, none⟩)) ?_ (hr := fun _ H' => (e_indexAddr (E := 49) (by kernel_rfl) (by kernel_rfl) (Nat.le_of_ble_eq_true rfl) rfl rfl (by omega) (by omega)))
   refine qy 18 193 true 200 (.agg ⟨(([(.int .i64 ((T.getD 0 stamp0).r)), (.int .i64 ((T.getD 0 stamp0).cl)), (.int .i64 ((T.getD 0 stamp0).seq))] : List Value) ++ hc (T.getD 0 stamp0).h ++ ([(.int .u64 ((T.getD 0 stamp0).t)), (.int .i64 ((T.getD 0 stamp0).sb)), (.int .i64 ((T.getD 0 stamp0).sm))] : List Value))⟩) ?_ (hr := fun _ H' => (e_loadRun (vs := (([(.int .i64 ((T.getD 0 stamp0).r)), (.int .i64 ((T.getD 0 stamp0).cl)), (.int .i64 ((T.getD 0 stamp0).seq))] : List Value) ++ hc (T.getD 0 stamp0).h ++ ([(.int .u64 ((T.getD 0 stamp0).t)), (.int .i64 ((T.getD 0 stamp0).sb)), (.int .i64 ((T.getD 0 stamp0).sm))] : List Value))) rfl (by kernel_rfl) (by kernel_rfl) (Nat.le_of_ble_eq_true (by kernel_rfl)) (stsC_run (i := 0) (H'.at 6 rfl) (by omega))))
   refine q_call (wantsY 18 193 true rfl (by kernel_rfl) rfl (by kernel_rfl)) (d := 201) (v := (.bool (rightS F L2 (T.getD 0 stamp0)))) rfl (fun _ _ => by kernel_rfl) (fun w' H' => (wRightS_any w' F 3 (by omega) b20 m21 L2 (H'.at 2 rfl) (H'.at 3 rfl) (T.getD 0 stamp0) hTz).mono fun _ _ h => ⟨h.1, H'.keepU h.2⟩) ?_
   refine qy 18 193 true 202 (.agg ⟨([(.int .i64 (F)), (.int .i64 (3))] : List Value)⟩) ?_ (hr := fun _ H' => (e_loadN (vs := ([(.int .i64 (F)), (.int .i64 (3))] : List Value)) rfl (by kernel_rfl) (by kernel_rfl) (by exact Nat.le_of_ble_eq_true (by kernel_rfl)) (H'.at 0 rfl) (by kernel_rfl)))
   refine qy 18 193 true 203 (pt b30 1) ?_
   refine qy 18 193 true 204 (pt r22 0) ?_ (hr := fun _ H' => (e_load1 rfl (by kernel_rfl) (H'.cell 1 rfl rfl)))
   refine qy 18 193 true 205 (pt yb 37) ?_
   refine qy 18 193 true 206 (.slice (some ⟨g433, o434, none⟩) T.length c435) ?_ (hr := fun _ H' => (e_load1 rfl (by kernel_rfl) (H'.cell 7 rfl (by kernel_rfl))))
   refine qy 18 193 true 207 (.pointer (some ⟨g433, o434 + ((0 : Int)).toNat * 38, none⟩)) ?_ (hr := fun _ H' => (e_indexAddr (E := 49) (by kernel_rfl) (by kernel_rfl) (Nat.le_of_ble_eq_true rfl) rfl rfl (by omega) (by omega)))
   refine qy 18 193 true 208 (.agg ⟨(([(.int .i64 ((T.getD 0 stamp0).r)), (.int .i64 ((T.getD 0 stamp0).cl)), (.int .i64 ((T.getD 0 stamp0).seq))] : List Value) ++ hc (T.getD 0 stamp0).h ++ ([(.int .u64 ((T.getD 0 stamp0).t)), (.int .i64 ((T.getD 0 stamp0).sb)), (.int .i64 ((T.getD 0 stamp0).sm))] : List Value))⟩) ?_ (hr := fun _ H' => (e_loadRun (vs := (([(.int .i64 ((T.getD 0 stamp0).r)), (.int .i64 ((T.getD 0 stamp0).cl)), (.int .i64 ((T.getD 0 stamp0).seq))] : List Value) ++ hc (T.getD 0 stamp0).h ++ ([(.int .u64 ((T.getD 0 stamp0).t)), (.int .i64 ((T.getD 0 stamp0).sb)), (.int .i64 ((T.getD 0 stamp0).sm))] : List Value))) rfl (by kernel_rfl) (by kernel_rfl) (Nat.le_of_ble_eq_true (by kernel_rfl)) (stsC_run (i := 0) (H'.at 6 rfl) (by omega))))
   refine q_call (wantsY 18 193 true rfl (by kernel_rfl) rfl (by kernel_rfl)) (d := 209) (v := (.bool (rightS F L2 (T.getD 0 stamp0)))) rfl (fun _ _ => by kernel_rfl) (fun w' H' => (rRightS_any w' F 3 (by omega) r22 ra2 rc2 L2 (H'.at 4 rfl) (H'.at 5 rfl) hnd2 (by omega) (T.getD 0 stamp0) hTz).mono fun _ _ h => ⟨h.1, H'.keepU h.2⟩) ?_
   refine qy 18 193 true 210 (.bool ((rightS F L2 (T.getD 0 stamp0)) == (rightS F L2 (T.getD 0 stamp0)))) ?_
   refine qv 211 (.bool ((rightS F L2 (T.getD 0 stamp0)) == (rightS F L2 (T.getD 0 stamp0)))) ?_
   refine qv 212 (.bool ((rightS F L2 (T.getD 0 stamp0)) == (rightS F L2 (T.getD 0 stamp0)))) ?_
   have b440 : ((rightS F L2 (T.getD 0 stamp0)) == (rightS F L2 (T.getD 0 stamp0))) = true := by exact beq_self_eq_true _
   refine q_know 212 (.bool true) (congrArg Value.bool b440) ?_
   refine q_call (wantsY 37 212 true rfl (by kernel_rfl) rfl (by kernel_rfl)) (d := 213) (v := (.bool true)) rfl (fun _ _ => by kernel_rfl) (fun w' H' => (wakes_any w').mono fun _ _ h => ⟨h.1, H'.keepU h.2⟩) ?_
   refine qv 214 (.bool true) ?_
   refine qv 14 (.bool true) ?_
   refine q_end ?_
   intro w441 H442
   refine then_normal ?_
   refine w_ret ?_
   refine end1 rfl (res_tmp (v := (.bool true)) rfl) ?_
   exact ⟨rfl, H442.upd 8 rfl [] (fun _ h => h.elim)⟩

end Go.Proofs.Ytbpeofcoceaahaa
