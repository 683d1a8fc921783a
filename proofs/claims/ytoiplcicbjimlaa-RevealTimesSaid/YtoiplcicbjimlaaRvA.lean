/- WHAT IS PROVED: places that are waited for, any number of them: contracts. Conditions: stated with each. -/
import Derived.Test.YtoiplcicbjimlaaRevG
import Derived.Test.YtoiplcicbjimlaaRev16
namespace Go.Proofs.Ytoiplcicbjimlaa
open Go.RowKit
/-- what of a place never turns -/
def coreX (x : PlX) : Int × Int × Hash × Int := (x.p.n1, x.p.n2, x.p.h, x.p.since)

theorem rvNew_any (w : World) (F C rep : Int) (hc : confB F C = true) (hi : inB F rep = true) :
    Calls Try.prog 9 #[.agg ⟨[.int .i64 F, .int .i64 C]⟩, .int .i64 rep] w fun e w' => ∃ r mb, e = .returned (.tuple #[.pointer (some ⟨r, 0, none⟩), .int .i64 0]) ∧ (sepC (rvL r mb F C rep [])).ok w' ∧ Upd [] w w' ∧ ∀ q_, (sepC (rvL r mb F C rep [])).fp q_ → w.heap.size ≤ q_ := by
  refine (revNew_any w F C rep hc hi).mono fun e w' h => ?_
  obtain ⟨r, mb, he, hok, hu, hf⟩ := h
  have hm : (mapC mb (Value.int .i64) encX ([] : List (Int × PlX))).ok w' := by
    obtain ⟨es, clock, h1, h2, h3⟩ := hok.1 (mapC mb (Value.int .i64) encP ([] : List (Int × PlaceD))) (by simp)
    exact ⟨es, clock, h1, h2, h3⟩
  have hp := List.pairwise_cons.1 hok.2
  refine ⟨r, mb, he, ⟨fun A hA => ?_, List.pairwise_cons.2 ⟨fun A hA b h1 h2 => ?_, List.pairwise_cons.2 ⟨fun A hA b h1 h2 => ?_, List.pairwise_singleton _ _⟩⟩⟩, hu, fun q hq => ?_⟩
  · simp only [rvL, List.mem_cons, List.not_mem_nil, or_false] at hA
    rcases hA with rfl | rfl | rfl
    · exact hok.1 _ (by simp)
    · exact hm
    · exact fun y hy => by simp at hy
  · simp only [List.mem_cons, List.not_mem_nil, or_false] at hA
    rcases hA with rfl | rfl
    · exact hp.1 (mapC mb (Value.int .i64) encP ([] : List (Int × PlaceD))) (by simp) b h1 h2
    · obtain ⟨y, hy, _⟩ := h2; simp at hy
  · simp only [List.mem_cons, List.not_mem_nil, or_false] at hA
    subst hA
    obtain ⟨y, hy, _⟩ := h2; simp at hy
  · obtain ⟨A, hA, h1⟩ := hq
    simp only [rvL, List.mem_cons, List.not_mem_nil, or_false] at hA
    rcases hA with rfl | rfl | rfl
    · exact hf q ⟨_, by simp, h1⟩
    · exact hf q ⟨mapC mb (Value.int .i64) encP ([] : List (Int × PlaceD)), by simp, h1⟩
    · obtain ⟨y, hy, _⟩ := h1; simp at hy

set_option maxRecDepth 100000 in
set_option maxHeartbeats 1000000 in
theorem rvPlace_any (w : World) (r mb : Nat) (F C rep : Int) (L : List (Int × PlX)) (hB : (sepC (rvL r mb F C rep L)).ok w) (i : Int) (a b : Int) (h : Hash) (t now : Int) (hi : 0 ≤ i) (hX : lookM L i = none) :
    Calls Try.prog 11 #[(.pointer (some ⟨r, 0, none⟩)), (.int .i64 (i)), (.agg ⟨(([(.int .i64 (a)), (.int .i64 (b))] : List Value) ++ hc h ++ ([(.int .u64 (t))] : List Value))⟩), (.int .u64 (now))] w fun e w' => ∃ X : PlX, e = .returned (.bool true) ∧ coreX X = (a, b, h, now) ∧ X.p.acked = false ∧ X.p.denied = false ∧ X.D = [] ∧ X.p.oi = 0 ∧ X.pay = [] ∧ Sat w [cellC r 86 [.int .i64 F, .int .i64 C, .int .i64 rep, .map (some mb)], mapC mb (Value.int .i64) encX (putM L i X), denC (putM L i X), restC w (sepC (rvL r mb F C rep L)).fp] w' := by
  have H : Sat w [cellC r 86 ([(.int .i64 (F)), (.int .i64 (C)), (.int .i64 (rep)), (.map (some mb))] : List Value), mapC mb (Value.int .i64) encX L, denC L, restC w (sepC (rvL r mb F C rep L)).fp] w := Sat.start (rvL r mb F C rep L) hB
  refine calls_fr Try.func11 rfl 34 rfl (Nat.le_of_ble_eq_true rfl) ?_
  refine w_seq ?_
  refine w_lit ?_
  refine wl_do (wants0 rfl) (fun K1 hK1 => ?_)
  refine d_box (vs := (([(.int .i64 (a)), (.int .i64 (b))] : List Value) ++ hc h ++ ([(.int .u64 (t))] : List Value))) rfl H rfl rfl ?_
  intro b2 w3 (H4 : Sat w [cellC r 86 ([(.int .i64 (F)), (.int .i64 (C)), (.int .i64 (rep)), (.map (some mb))] : List Value), mapC mb (Value.int .i64) encX L, denC L, restC w (sepC (rvL r mb F C rep L)).fp, cellC b2 38 (([(.int .i64 (a)), (.int .i64 (b))] : List Value) ++ hc h ++ ([(.int .u64 (t))] : List Value))] w3)
  refine hK1 _ _ ?_
  clear hK1 K1
  refine wl_pure (wants0 rfl) (d := 8) (v := (.bool false)) rfl (by kernel_rfl) ?_
  refine w_nil ?_
  refine then_normal ?_
  refine w_seq ?_
  refine w_seq ?_
  refine w_lit ?_
  refine wl_pure (wants0 rfl) (d := 12) (v := (.pointer (some ⟨r, 0, none⟩))) rfl (by kernel_rfl) ?_
  refine wl_pure (wants0 rfl) (d := 13) (v := (.pointer (some ⟨r, 0, none⟩))) rfl (by kernel_rfl) ?_
  refine wl_pure (wants0 rfl) (d := 14) (v := (.pointer (some ⟨r, 3, none⟩))) rfl (by kernel_rfl) ?_
  refine wl_pure (wants0 rfl) (d := 15) (v := (.map (some mb))) rfl (e_load1 rfl (by kernel_rfl) (H4.cell 0 rfl rfl)) ?_
  refine wl_pure (wants0 rfl) (d := 16) (v := (.int .i64 (i))) rfl (by kernel_rfl) ?_
  refine wl_pure (wants0 rfl) (d := 17) (v := (.tuple #[(.agg ⟨(([(.int .i64 (0)), (.int .i64 (0))] : List Value) ++ hc hash0 ++ ([(.int .u64 (0)), (.int .u64 (0)), (.int .i64 (0)), (.slice none 0 0)] : List Value) ++ hc hash0 ++ ([(.bool false), (.bool false), (.map none)] : List Value))⟩), (.bool false)])) rfl (e_lookup2 (kt := 3) (et := 89) (KeyTy.int (by kernel_rfl)) (by kernel_rfl) zeroX rfl (i : Int) rfl (H4.at 1 rfl) (by rw [hX]; rfl) (by rw [hX]; rfl)) ?_
  refine wl_pure (wants0 rfl) (d := 11) (v := (.tuple #[(.agg ⟨(([(.int .i64 (0)), (.int .i64 (0))] : List Value) ++ hc hash0 ++ ([(.int .u64 (0)), (.int .u64 (0)), (.int .i64 (0)), (.slice none 0 0)] : List Value) ++ hc hash0 ++ ([(.bool false), (.bool false), (.map none)] : List Value))⟩), (.bool false)])) rfl (by kernel_rfl) ?_
  refine wl_pure (wants0 rfl) (d := 18) (v := (.agg ⟨(([(.int .i64 (0)), (.int .i64 (0))] : List Value) ++ hc hash0 ++ ([(.int .u64 (0)), (.int .u64 (0)), (.int .i64 (0)), (.slice none 0 0)] : List Value) ++ hc hash0 ++ ([(.bool false), (.bool false), (.map none)] : List Value))⟩)) rfl (by kernel_rfl) ?_
  refine wl_pure (wants0 rfl) (d := 19) (v := (.bool false)) rfl (by kernel_rfl) ?_
  refine wl_do (wants0 rfl) (fun K5 hK5 => ?_)
  refine d_alloc (zs := (([(.int .i64 (0)), (.int .i64 (0))] : List Value) ++ hc hash0 ++ ([(.int .u64 (0)), (.int .u64 (0)), (.int .i64 (0)), (.slice none 0 0)] : List Value) ++ hc hash0 ++ ([(.bool false), (.bool false), ((Go.Value.map none))] : List Value))) (z := (.agg ⟨(([(.int .i64 (0)), (.int .i64 (0))] : List Value) ++ hc hash0 ++ ([(.int .u64 (0)), (.int .u64 (0)), (.int .i64 (0)), (.slice none 0 0)] : List Value) ++ hc hash0 ++ ([(.bool false), (.bool false), ((Go.Value.map none))] : List Value))⟩)) rfl H4 (by kernel_rfl) (by kernel_rfl) ?_
  intro b6 w7 (H8 : Sat w [cellC r 86 ([(.int .i64 (F)), (.int .i64 (C)), (.int .i64 (rep)), (.map (some mb))] : List Value), mapC mb (Value.int .i64) encX L, denC L, restC w (sepC (rvL r mb F C rep L)).fp, cellC b2 38 (([(.int .i64 (a)), (.int .i64 (b))] : List Value) ++ hc h ++ ([(.int .u64 (t))] : List Value)), cellC b6 89 (([(.int .i64 (0)), (.int .i64 (0))] : List Value) ++ hc hash0 ++ ([(.int .u64 (0)), (.int .u64 (0)), (.int .i64 (0)), (.slice none 0 0)] : List Value) ++ hc hash0 ++ ([(.bool false), (.bool false), ((Go.Value.map none))] : List Value))] w7)
  refine hK5 _ _ ?_
  clear hK5 K5
  refine wl_do (wants0 rfl) (fun K9 hK9 => ?_)
  refine d_storeX (vs := (([(.int .i64 (0)), (.int .i64 (0))] : List Value) ++ hc hash0 ++ ([(.int .u64 (0)), (.int .u64 (0)), (.int .i64 (0)), (.slice none 0 0)] : List Value) ++ hc hash0 ++ ([(.bool false), (.bool false), (.map none)] : List Value))) (cs' := (([(.int .i64 (0)), (.int .i64 (0))] : List Value) ++ hc hash0 ++ ([(.int .u64 (0)), (.int .u64 (0)), (.int .i64 (0)), (.slice none 0 0)] : List Value) ++ hc hash0 ++ ([(.bool false), (.bool false), (.map none)] : List Value))) rfl H8 5 rfl rfl rfl rfl (by kernel_rfl) (Nat.le_of_ble_eq_true (by kernel_rfl)) (Nat.le_of_ble_eq_true (by kernel_rfl)) (by kernel_rfl) (by kernel_rfl) ?_
  intro w10 (H11 : Sat w [cellC r 86 ([(.int .i64 (F)), (.int .i64 (C)), (.int .i64 (rep)), (.map (some mb))] : List Value), mapC mb (Value.int .i64) encX L, denC L, restC w (sepC (rvL r mb F C rep L)).fp, cellC b2 38 (([(.int .i64 (a)), (.int .i64 (b))] : List Value) ++ hc h ++ ([(.int .u64 (t))] : List Value)), cellC b6 89 (([(.int .i64 (0)), (.int .i64 (0))] : List Value) ++ hc hash0 ++ ([(.int .u64 (0)), (.int .u64 (0)), (.int .i64 (0)), (.slice none 0 0)] : List Value) ++ hc hash0 ++ ([(.bool false), (.bool false), (.map none)] : List Value))] w10)
  refine hK9 _ _ ?_
  clear hK9 K9
  refine wl_pure (wants0 rfl) (d := 10) (v := (.bool false)) rfl (by kernel_rfl) ?_
  refine w_nil ?_
  refine then_normal ?_
  refine w_seq ?_
  refine w_lit ?_
  refine wl_pure (wants0 rfl) (d := 20) (v := (.bool false)) rfl (by kernel_rfl) ?_
  refine wl_pure (wants0 rfl) (d := 21) (v := (.bool false)) rfl (by kernel_rfl) ?_
  refine wl_pure (wantsY 1 21 false rfl (by kernel_rfl) rfl (by kernel_rfl)) (d := 22) (v := (.int .i64 (i))) rfl (by kernel_rfl) ?_
  refine wl_pure (wantsY 1 21 false rfl (by kernel_rfl) rfl (by kernel_rfl)) (d := 23) (v := (.bool (decide (i < 0)))) rfl (by kernel_rfl) ?_
  refine wl_pure (wants0 rfl) (d := 24) (v := (.bool (decide (i < 0)))) rfl (by kernel_rfl) ?_
  refine w_nil ?_
  refine then_normal ?_
  have b13 : (decide (i < 0)) = false := by exact decide_eq_false (by omega)
  refine wp_know 24 (.bool false) (congrArg Value.bool b13) ?_
  have g14 := of_decide_eq_false b13
  refine wp_iff rfl ?_
  refine w_skip ?_
  refine then_normal ?_
  refine w_seq ?_
  refine h_start H11 [cellC r 86 ([(.int .i64 (F)), (.int .i64 (C)), (.int .i64 (rep)), (.map (some mb))] : List Value), denC L, restC w (sepC (rvL r mb F C rep L)).fp, cellC b2 38 (([(.int .i64 (a)), (.int .i64 (b))] : List Value) ++ hc h ++ ([(.int .u64 (t))] : List Value)), cellC b6 89 (([(.int .i64 (0)), (.int .i64 (0))] : List Value) ++ hc hash0 ++ ([(.int .u64 (0)), (.int .u64 (0)), (.int .i64 (0)), (.slice none 0 0)] : List Value) ++ hc hash0 ++ ([(.bool false), (.bool false), (.map none)] : List Value))] 10 rfl (by kernel_rfl) (fun Hx => (Hx.pick [0, 2, 3, 4, 5] (by decide))) ?_
  intro w15 H16 S17
  refine h_val 0 rfl (by kernel_rfl) (by kernel_rfl) (by kernel_rfl) (fun _ _ _ h => h) S17 (wants0 rfl) (d := 25) (v := (.pointer (some ⟨r, 0, none⟩))) rfl (fun _ H' => (by kernel_rfl)) ?_
  refine h_val 1 rfl (by kernel_rfl) (by kernel_rfl) (by kernel_rfl) (fun _ _ _ h => h) S17 (wants0 rfl) (d := 26) (v := (.pointer (some ⟨r, 0, none⟩))) rfl (fun _ H' => (by kernel_rfl)) ?_
  refine h_val 2 rfl (by kernel_rfl) (by kernel_rfl) (by kernel_rfl) (fun _ _ _ h => h) S17 (wants0 rfl) (d := 27) (v := (.pointer (some ⟨r, 3, none⟩))) rfl (fun _ H' => (by kernel_rfl)) ?_
  refine h_val 3 rfl (by kernel_rfl) (by kernel_rfl) (by kernel_rfl) (fun _ _ _ h => h) S17 (wants0 rfl) (d := 28) (v := (.map (some mb))) rfl (fun _ H' => (e_load1 rfl (by kernel_rfl) (H'.cell 0 rfl rfl))) ?_
  refine h_val 4 rfl (by kernel_rfl) (by kernel_rfl) (by kernel_rfl) (fun _ _ _ h => h) S17 (wants0 rfl) (d := 29) (v := (.int .i64 (i))) rfl (fun _ H' => (by kernel_rfl)) ?_
  refine h_val 5 rfl (by kernel_rfl) (by kernel_rfl) (by kernel_rfl) (fun _ _ _ h => h) S17 (wants0 rfl) (d := 30) (v := (.agg ⟨(([(.int .i64 (a)), (.int .i64 (b))] : List Value) ++ hc h ++ ([(.int .u64 (t))] : List Value))⟩)) rfl (fun _ H' => (e_loadN (vs := (([(.int .i64 (a)), (.int .i64 (b))] : List Value) ++ hc h ++ ([(.int .u64 (t))] : List Value))) rfl (by kernel_rfl) (by kernel_rfl) (by exact Nat.le_of_ble_eq_true (by kernel_rfl)) (H'.at 3 rfl) (by kernel_rfl))) ?_
  refine h_val 6 rfl (by kernel_rfl) (by kernel_rfl) (by kernel_rfl) (fun _ _ _ h => h) S17 (wants0 rfl) (d := 31) (v := (.int .u64 (now))) rfl (fun _ H' => (by kernel_rfl)) ?_
  refine h_do 7 rfl (by kernel_rfl) (wants0 rfl) (fun K18 hK18 => ?_)
  refine d_makeMap (Value.int .i64) denV rfl H16 ?_
  intro b19 w20 (H21 : Sat w [cellC r 86 ([(.int .i64 (F)), (.int .i64 (C)), (.int .i64 (rep)), (.map (some mb))] : List Value), mapC mb (Value.int .i64) encX L, denC L, restC w (sepC (rvL r mb F C rep L)).fp, cellC b2 38 (([(.int .i64 (a)), (.int .i64 (b))] : List Value) ++ hc h ++ ([(.int .u64 (t))] : List Value)), cellC b6 89 (([(.int .i64 (0)), (.int .i64 (0))] : List Value) ++ hc hash0 ++ ([(.int .u64 (0)), (.int .u64 (0)), (.int .i64 (0)), (.slice none 0 0)] : List Value) ++ hc hash0 ++ ([(.bool false), (.bool false), (.map none)] : List Value)), mapC b19 (Value.int .i64) denV []] w20)
  have S22 := H21.pick [0, 2, 3, 4, 5] (by decide)
  refine hK18 _ _ S22 ?_
  clear hK18 K18
  refine h_val 8 rfl (by kernel_rfl) (by kernel_rfl) (by kernel_rfl) (fun _ _ _ h => h) S22 (wants0 rfl) (d := 33) (v := (.agg ⟨(([(.int .i64 (a)), (.int .i64 (b))] : List Value) ++ hc h ++ ([(.int .u64 (t)), (.int .u64 (now)), (.int .i64 (0)), (.slice none 0 0)] : List Value) ++ hc hash0 ++ ([(.bool false), (.bool false), (.map (some b19))] : List Value))⟩)) rfl (fun _ H' => (by kernel_rfl)) ?_
  refine h_do 9 rfl (by kernel_rfl) (wants0 rfl) (fun K23 hK23 => ?_)
  refine d_mapUpdate (kt := 3) (et := 89) rfl H21 1 rfl (KeyTy.int (by kernel_rfl)) (by kernel_rfl) rfl (i : Int) rfl (⟨(⟨a, b, h, t, now, 0, none, 0, 0, hash0, false, false, some b19⟩ : PlaceD), [], ([] : List UInt8)⟩ : PlX) rfl ?_
  intro w24 (H25 : Sat w [cellC r 86 ([(.int .i64 (F)), (.int .i64 (C)), (.int .i64 (rep)), (.map (some mb))] : List Value), mapC mb (Value.int .i64) encX (putM L (i : Int) (⟨(⟨a, b, h, t, now, 0, none, 0, 0, hash0, false, false, some b19⟩ : PlaceD), [], ([] : List UInt8)⟩ : PlX)), denC L, restC w (sepC (rvL r mb F C rep L)).fp, cellC b2 38 (([(.int .i64 (a)), (.int .i64 (b))] : List Value) ++ hc h ++ ([(.int .u64 (t))] : List Value)), cellC b6 89 (([(.int .i64 (0)), (.int .i64 (0))] : List Value) ++ hc hash0 ++ ([(.int .u64 (0)), (.int .u64 (0)), (.int .i64 (0)), (.slice none 0 0)] : List Value) ++ hc hash0 ++ ([(.bool false), (.bool false), (.map none)] : List Value)), mapC b19 (Value.int .i64) denV []] w24)
  have S26 := H25.pick [0, 2, 3, 4, 5] (by decide)
  refine hK23 _ _ S26 ?_
  clear hK23 K23
  refine h_fin (by kernel_rfl) ?_
  refine then_normal ?_
  refine w_seq ?_
  refine w_lit ?_
  refine wl_pure (wants0 rfl) (d := 8) (v := (.bool true)) rfl (by kernel_rfl) ?_
  refine w_nil ?_
  refine then_normal ?_
  refine w_ret ?_
  refine end1 rfl (res_tmp (v := (.bool true)) rfl) ?_
  have H27 := den_new (i := i) (X := (⟨(⟨a, b, h, t, now, 0, none, 0, 0, hash0, false, false, some b19⟩ : PlaceD), [], ([] : List UInt8)⟩ : PlX)) (H25.pick [2, 6, 0, 1, 3, 4, 5] (by decide)) rfl ⟨rfl, rfl, rfl, rfl⟩
  exact ⟨(⟨(⟨a, b, h, t, now, 0, none, 0, 0, hash0, false, false, some b19⟩ : PlaceD), [], ([] : List UInt8)⟩ : PlX), rfl, rfl, rfl, rfl, rfl, rfl, rfl, H27.pick [1, 2, 0, 3] (by decide)⟩

set_option maxRecDepth 100000 in
set_option maxHeartbeats 1000000 in
theorem rvPlaceHas_any (w : World) (r mb : Nat) (F C rep : Int) (L : List (Int × PlX)) (hb : (cellC r 86 [.int .i64 F, .int .i64 C, .int .i64 rep, .map (some mb)]).ok w) (hm : MapAt w mb (Value.int .i64) encX L) (i : Int) (X : PlX) (hX : lookM L i = some X) (a b : Int) (h : Hash) (t now : Int) :
    Calls Try.prog 11 #[(.pointer (some ⟨r, 0, none⟩)), (.int .i64 (i)), (.agg ⟨(([(.int .i64 (a)), (.int .i64 (b))] : List Value) ++ hc h ++ ([(.int .u64 (t))] : List Value))⟩), (.int .u64 (now))] w fun e w' => e = .returned (.bool false) ∧ Upd [] w w' := by
  have H := Sat.start0 w
  refine calls_fr Try.func11 rfl 34 rfl (Nat.le_of_ble_eq_true rfl) ?_
  refine w_seq ?_
  refine w_lit ?_
  refine wl_do (wants0 rfl) (fun K1 hK1 => ?_)
  refine d_box (vs := (([(.int .i64 (a)), (.int .i64 (b))] : List Value) ++ hc h ++ ([(.int .u64 (t))] : List Value))) rfl H rfl rfl ?_
  intro b2 w3 (H4 : Sat w [restC w (fun _ => False), cellC b2 38 (([(.int .i64 (a)), (.int .i64 (b))] : List Value) ++ hc h ++ ([(.int .u64 (t))] : List Value))] w3)
  refine hK1 _ _ ?_
  clear hK1 K1
  refine wl_pure (wants0 rfl) (d := 8) (v := (.bool false)) rfl (by kernel_rfl) ?_
  refine w_nil ?_
  refine then_normal ?_
  refine w_seq ?_
  refine w_seq ?_
  refine w_lit ?_
  refine wl_pure (wants0 rfl) (d := 12) (v := (.pointer (some ⟨r, 0, none⟩))) rfl (by kernel_rfl) ?_
  refine wl_pure (wants0 rfl) (d := 13) (v := (.pointer (some ⟨r, 0, none⟩))) rfl (by kernel_rfl) ?_
  refine wl_pure (wants0 rfl) (d := 14) (v := (.pointer (some ⟨r, 3, none⟩))) rfl (by kernel_rfl) ?_
  refine wl_pure (wants0 rfl) (d := 15) (v := (.map (some mb))) rfl (e_load1 rfl (by kernel_rfl) (H4.roCell 0 rfl hb (fun h => h) rfl)) ?_
  refine wl_pure (wants0 rfl) (d := 16) (v := (.int .i64 (i))) rfl (by kernel_rfl) ?_
  refine wl_pure (wants0 rfl) (d := 17) (v := (.tuple #[(.agg ⟨(([(.int .i64 (X.p.n1)), (.int .i64 (X.p.n2))] : List Value) ++ hc X.p.h ++ ([(.int .u64 (X.p.t)), (.int .u64 (X.p.since)), (.int .i64 (X.p.oi)), (.slice X.p.oa X.p.ol X.p.oc)] : List Value) ++ hc X.p.on ++ ([(.bool (X.p.acked)), (.bool (X.p.denied)), (.map X.p.dm)] : List Value))⟩), (.bool true)])) rfl (e_lookup2 (kt := 3) (et := 89) (KeyTy.int (by kernel_rfl)) (by kernel_rfl) zeroX rfl (i : Int) rfl (H4.roMap 0 rfl hm (fun h => h)) (by rw [hX]; rfl) (by rw [hX]; rfl)) ?_
  refine wl_pure (wants0 rfl) (d := 11) (v := (.tuple #[(.agg ⟨(([(.int .i64 (X.p.n1)), (.int .i64 (X.p.n2))] : List Value) ++ hc X.p.h ++ ([(.int .u64 (X.p.t)), (.int .u64 (X.p.since)), (.int .i64 (X.p.oi)), (.slice X.p.oa X.p.ol X.p.oc)] : List Value) ++ hc X.p.on ++ ([(.bool (X.p.acked)), (.bool (X.p.denied)), (.map X.p.dm)] : List Value))⟩), (.bool true)])) rfl (by kernel_rfl) ?_
  refine wl_pure (wants0 rfl) (d := 18) (v := (.agg ⟨(([(.int .i64 (X.p.n1)), (.int .i64 (X.p.n2))] : List Value) ++ hc X.p.h ++ ([(.int .u64 (X.p.t)), (.int .u64 (X.p.since)), (.int .i64 (X.p.oi)), (.slice X.p.oa X.p.ol X.p.oc)] : List Value) ++ hc X.p.on ++ ([(.bool (X.p.acked)), (.bool (X.p.denied)), (.map X.p.dm)] : List Value))⟩)) rfl (by kernel_rfl) ?_
  refine wl_pure (wants0 rfl) (d := 19) (v := (.bool true)) rfl (by kernel_rfl) ?_
  refine wl_do (wants0 rfl) (fun K5 hK5 => ?_)
  refine d_alloc (zs := (([(.int .i64 (0)), (.int .i64 (0))] : List Value) ++ hc hash0 ++ ([(.int .u64 (0)), (.int .u64 (0)), (.int .i64 (0)), (.slice none 0 0)] : List Value) ++ hc hash0 ++ ([(.bool false), (.bool false), ((Go.Value.map none))] : List Value))) (z := (.agg ⟨(([(.int .i64 (0)), (.int .i64 (0))] : List Value) ++ hc hash0 ++ ([(.int .u64 (0)), (.int .u64 (0)), (.int .i64 (0)), (.slice none 0 0)] : List Value) ++ hc hash0 ++ ([(.bool false), (.bool false), ((Go.Value.map none))] : List Value))⟩)) rfl H4 (by kernel_rfl) (by kernel_rfl) ?_
  intro b6 w7 (H8 : Sat w [restC w (fun _ => False), cellC b2 38 (([(.int .i64 (a)), (.int .i64 (b))] : List Value) ++ hc h ++ ([(.int .u64 (t))] : List Value)), cellC b6 89 (([(.int .i64 (0)), (.int .i64 (0))] : List Value) ++ hc hash0 ++ ([(.int .u64 (0)), (.int .u64 (0)), (.int .i64 (0)), (.slice none 0 0)] : List Value) ++ hc hash0 ++ ([(.bool false), (.bool false), ((Go.Value.map none))] : List Value))] w7)
  refine hK5 _ _ ?_
  clear hK5 K5
  refine wl_do (wants0 rfl) (fun K9 hK9 => ?_)
  refine d_storeX (vs := (([(.int .i64 (X.p.n1)), (.int .i64 (X.p.n2))] : List Value) ++ hc X.p.h ++ ([(.int .u64 (X.p.t)), (.int .u64 (X.p.since)), (.int .i64 (X.p.oi)), (.slice X.p.oa X.p.ol X.p.oc)] : List Value) ++ hc X.p.on ++ ([(.bool (X.p.acked)), (.bool (X.p.denied)), (.map X.p.dm)] : List Value))) (cs' := (([(.int .i64 (X.p.n1)), (.int .i64 (X.p.n2))] : List Value) ++ hc X.p.h ++ ([(.int .u64 (X.p.t)), (.int .u64 (X.p.since)), (.int .i64 (X.p.oi)), (.slice X.p.oa X.p.ol X.p.oc)] : List Value) ++ hc X.p.on ++ ([(.bool (X.p.acked)), (.bool (X.p.denied)), (.map X.p.dm)] : List Value))) rfl H8 2 rfl rfl rfl rfl (by kernel_rfl) (Nat.le_of_ble_eq_true (by kernel_rfl)) (Nat.le_of_ble_eq_true (by kernel_rfl)) (by kernel_rfl) (by kernel_rfl) ?_
  intro w10 (H11 : Sat w [restC w (fun _ => False), cellC b2 38 (([(.int .i64 (a)), (.int .i64 (b))] : List Value) ++ hc h ++ ([(.int .u64 (t))] : List Value)), cellC b6 89 (([(.int .i64 (X.p.n1)), (.int .i64 (X.p.n2))] : List Value) ++ hc X.p.h ++ ([(.int .u64 (X.p.t)), (.int .u64 (X.p.since)), (.int .i64 (X.p.oi)), (.slice X.p.oa X.p.ol X.p.oc)] : List Value) ++ hc X.p.on ++ ([(.bool (X.p.acked)), (.bool (X.p.denied)), (.map X.p.dm)] : List Value))] w10)
  refine hK9 _ _ ?_
  clear hK9 K9
  refine wl_pure (wants0 rfl) (d := 10) (v := (.bool true)) rfl (by kernel_rfl) ?_
  refine w_nil ?_
  refine then_normal ?_
  refine w_seq ?_
  refine w_lit ?_
  refine wl_pure (wants0 rfl) (d := 20) (v := (.bool true)) rfl (by kernel_rfl) ?_
  refine wl_pure (wants0 rfl) (d := 21) (v := (.bool true)) rfl (by kernel_rfl) ?_
  refine wl_pass (wantsN 1 21 false rfl (by kernel_rfl) rfl (by kernel_rfl)) rfl ?_
  refine wl_pass (wantsN 1 21 false rfl (by kernel_rfl) rfl (by kernel_rfl)) rfl ?_
  refine wl_pure (wants0 rfl) (d := 24) (v := (.bool true)) rfl (by kernel_rfl) ?_
  refine w_nil ?_
  refine then_normal ?_
  refine wp_ift rfl ?_
  refine w_seq ?_
  refine w_lit ?_
  refine wl_pure (wants0 rfl) (d := 8) (v := (.bool false)) rfl (by kernel_rfl) ?_
  refine w_nil ?_
  refine then_normal ?_
  refine w_ret ?_
  refine then_ret ?_
  refine end1 rfl (res_tmp (v := (.bool false)) rfl) ?_
  exact ⟨rfl, H11.upd 0 rfl [] (fun _ h => h.elim)⟩

set_option maxRecDepth 100000 in
set_option maxHeartbeats 1000000 in
theorem rvPlaceNeg_any (w : World) (r mb : Nat) (F C rep : Int) (L : List (Int × PlX)) (hb : (cellC r 86 [.int .i64 F, .int .i64 C, .int .i64 rep, .map (some mb)]).ok w) (hm : MapAt w mb (Value.int .i64) encX L) (i : Int) (hX : lookM L i = none) (hi : i < 0) (a b : Int) (h : Hash) (t now : Int) :
    Calls Try.prog 11 #[(.pointer (some ⟨r, 0, none⟩)), (.int .i64 (i)), (.agg ⟨(([(.int .i64 (a)), (.int .i64 (b))] : List Value) ++ hc h ++ ([(.int .u64 (t))] : List Value))⟩), (.int .u64 (now))] w fun e w' => e = .returned (.bool false) ∧ Upd [] w w' := by
  have H := Sat.start0 w
  refine calls_fr Try.func11 rfl 34 rfl (Nat.le_of_ble_eq_true rfl) ?_
  refine w_seq ?_
  refine w_lit ?_
  refine wl_do (wants0 rfl) (fun K1 hK1 => ?_)
  refine d_box (vs := (([(.int .i64 (a)), (.int .i64 (b))] : List Value) ++ hc h ++ ([(.int .u64 (t))] : List Value))) rfl H rfl rfl ?_
  intro b2 w3 (H4 : Sat w [restC w (fun _ => False), cellC b2 38 (([(.int .i64 (a)), (.int .i64 (b))] : List Value) ++ hc h ++ ([(.int .u64 (t))] : List Value))] w3)
  refine hK1 _ _ ?_
  clear hK1 K1
  refine wl_pure (wants0 rfl) (d := 8) (v := (.bool false)) rfl (by kernel_rfl) ?_
  refine w_nil ?_
  refine then_normal ?_
  refine w_seq ?_
  refine w_seq ?_
  refine w_lit ?_
  refine wl_pure (wants0 rfl) (d := 12) (v := (.pointer (some ⟨r, 0, none⟩))) rfl (by kernel_rfl) ?_
  refine wl_pure (wants0 rfl) (d := 13) (v := (.pointer (some ⟨r, 0, none⟩))) rfl (by kernel_rfl) ?_
  refine wl_pure (wants0 rfl) (d := 14) (v := (.pointer (some ⟨r, 3, none⟩))) rfl (by kernel_rfl) ?_
  refine wl_pure (wants0 rfl) (d := 15) (v := (.map (some mb))) rfl (e_load1 rfl (by kernel_rfl) (H4.roCell 0 rfl hb (fun h => h) rfl)) ?_
  refine wl_pure (wants0 rfl) (d := 16) (v := (.int .i64 (i))) rfl (by kernel_rfl) ?_
  refine wl_pure (wants0 rfl) (d := 17) (v := (.tuple #[(.agg ⟨(([(.int .i64 (0)), (.int .i64 (0))] : List Value) ++ hc hash0 ++ ([(.int .u64 (0)), (.int .u64 (0)), (.int .i64 (0)), (.slice none 0 0)] : List Value) ++ hc hash0 ++ ([(.bool false), (.bool false), (.map none)] : List Value))⟩), (.bool false)])) rfl (e_lookup2 (kt := 3) (et := 89) (KeyTy.int (by kernel_rfl)) (by kernel_rfl) zeroX rfl (i : Int) rfl (H4.roMap 0 rfl hm (fun h => h)) (by rw [hX]; rfl) (by rw [hX]; rfl)) ?_
  refine wl_pure (wants0 rfl) (d := 11) (v := (.tuple #[(.agg ⟨(([(.int .i64 (0)), (.int .i64 (0))] : List Value) ++ hc hash0 ++ ([(.int .u64 (0)), (.int .u64 (0)), (.int .i64 (0)), (.slice none 0 0)] : List Value) ++ hc hash0 ++ ([(.bool false), (.bool false), (.map none)] : List Value))⟩), (.bool false)])) rfl (by kernel_rfl) ?_
  refine wl_pure (wants0 rfl) (d := 18) (v := (.agg ⟨(([(.int .i64 (0)), (.int .i64 (0))] : List Value) ++ hc hash0 ++ ([(.int .u64 (0)), (.int .u64 (0)), (.int .i64 (0)), (.slice none 0 0)] : List Value) ++ hc hash0 ++ ([(.bool false), (.bool false), (.map none)] : List Value))⟩)) rfl (by kernel_rfl) ?_
  refine wl_pure (wants0 rfl) (d := 19) (v := (.bool false)) rfl (by kernel_rfl) ?_
  refine wl_do (wants0 rfl) (fun K5 hK5 => ?_)
  refine d_alloc (zs := (([(.int .i64 (0)), (.int .i64 (0))] : List Value) ++ hc hash0 ++ ([(.int .u64 (0)), (.int .u64 (0)), (.int .i64 (0)), (.slice none 0 0)] : List Value) ++ hc hash0 ++ ([(.bool false), (.bool false), ((Go.Value.map none))] : List Value))) (z := (.agg ⟨(([(.int .i64 (0)), (.int .i64 (0))] : List Value) ++ hc hash0 ++ ([(.int .u64 (0)), (.int .u64 (0)), (.int .i64 (0)), (.slice none 0 0)] : List Value) ++ hc hash0 ++ ([(.bool false), (.bool false), ((Go.Value.map none))] : List Value))⟩)) rfl H4 (by kernel_rfl) (by kernel_rfl) ?_
  intro b6 w7 (H8 : Sat w [restC w (fun _ => False), cellC b2 38 (([(.int .i64 (a)), (.int .i64 (b))] : List Value) ++ hc h ++ ([(.int .u64 (t))] : List Value)), cellC b6 89 (([(.int .i64 (0)), (.int .i64 (0))] : List Value) ++ hc hash0 ++ ([(.int .u64 (0)), (.int .u64 (0)), (.int .i64 (0)), (.slice none 0 0)] : List Value) ++ hc hash0 ++ ([(.bool false), (.bool false), ((Go.Value.map none))] : List Value))] w7)
  refine hK5 _ _ ?_
  clear hK5 K5
  refine wl_do (wants0 rfl) (fun K9 hK9 => ?_)
  refine d_storeX (vs := (([(.int .i64 (0)), (.int .i64 (0))] : List Value) ++ hc hash0 ++ ([(.int .u64 (0)), (.int .u64 (0)), (.int .i64 (0)), (.slice none 0 0)] : List Value) ++ hc hash0 ++ ([(.bool false), (.bool false), (.map none)] : List Value))) (cs' := (([(.int .i64 (0)), (.int .i64 (0))] : List Value) ++ hc hash0 ++ ([(.int .u64 (0)), (.int .u64 (0)), (.int .i64 (0)), (.slice none 0 0)] : List Value) ++ hc hash0 ++ ([(.bool false), (.bool false), (.map none)] : List Value))) rfl H8 2 rfl rfl rfl rfl (by kernel_rfl) (Nat.le_of_ble_eq_true (by kernel_rfl)) (Nat.le_of_ble_eq_true (by kernel_rfl)) (by kernel_rfl) (by kernel_rfl) ?_
  intro w10 (H11 : Sat w [restC w (fun _ => False), cellC b2 38 (([(.int .i64 (a)), (.int .i64 (b))] : List Value) ++ hc h ++ ([(.int .u64 (t))] : List Value)), cellC b6 89 (([(.int .i64 (0)), (.int .i64 (0))] : List Value) ++ hc hash0 ++ ([(.int .u64 (0)), (.int .u64 (0)), (.int .i64 (0)), (.slice none 0 0)] : List Value) ++ hc hash0 ++ ([(.bool false), (.bool false), (.map none)] : List Value))] w10)
  refine hK9 _ _ ?_
  clear hK9 K9
  refine wl_pure (wants0 rfl) (d := 10) (v := (.bool false)) rfl (by kernel_rfl) ?_
  refine w_nil ?_
  refine then_normal ?_
  refine w_seq ?_
  refine w_lit ?_
  refine wl_pure (wants0 rfl) (d := 20) (v := (.bool false)) rfl (by kernel_rfl) ?_
  refine wl_pure (wants0 rfl) (d := 21) (v := (.bool false)) rfl (by kernel_rfl) ?_
  refine wl_pure (wantsY 1 21 false rfl (by kernel_rfl) rfl (by kernel_rfl)) (d := 22) (v := (.int .i64 (i))) rfl (by kernel_rfl) ?_
  refine wl_pure (wantsY 1 21 false rfl (by kernel_rfl) rfl (by kernel_rfl)) (d := 23) (v := (.bool (decide (i < 0)))) rfl (by kernel_rfl) ?_
  refine wl_pure (wants0 rfl) (d := 24) (v := (.bool (decide (i < 0)))) rfl (by kernel_rfl) ?_
  refine w_nil ?_
  refine then_normal ?_
  have b13 : (decide (i < 0)) = true := by exact decide_eq_true hi
  refine wp_know 24 (.bool true) (congrArg Value.bool b13) ?_
  have g14 := of_decide_eq_true b13
  refine wp_ift rfl ?_
  refine w_seq ?_
  refine w_lit ?_
  refine wl_pure (wants0 rfl) (d := 8) (v := (.bool false)) rfl (by kernel_rfl) ?_
  refine w_nil ?_
  refine then_normal ?_
  refine w_ret ?_
  refine then_ret ?_
  refine end1 rfl (res_tmp (v := (.bool false)) rfl) ?_
  exact ⟨rfl, H11.upd 0 rfl [] (fun _ h => h.elim)⟩

set_option maxRecDepth 100000 in
set_option maxHeartbeats 1000000 in
theorem rvOpenN_any (w : World) (r mb : Nat) (F C rep : Int) (L : List (Int × PlX)) (hb : (cellC r 86 [.int .i64 F, .int .i64 C, .int .i64 rep, .map (some mb)]).ok w) (hm : MapAt w mb (Value.int .i64) encX L) (i : Int) (hX : lookM L i = none) (v : Value) (x : Hash) :
    Calls Try.prog 14 #[(.pointer (some ⟨r, 0, none⟩)), (.agg ⟨(([(.int .i64 (i)), (v)] : List Value) ++ hc x)⟩)] w fun e w' => e = .returned (.int .i64 6) ∧ Upd [] w w' := by
  have H := Sat.start0 w
  refine calls_fr Try.func14 rfl 56 rfl (Nat.le_of_ble_eq_true rfl) ?_
  refine w_seq ?_
  refine w_lit ?_
  refine wl_do (wants0 rfl) (fun K1 hK1 => ?_)
  refine d_box (vs := (([(.int .i64 (i)), (v)] : List Value) ++ hc x)) rfl H rfl rfl ?_
  intro b2 w3 (H4 : Sat w [restC w (fun _ => False), cellC b2 43 (([(.int .i64 (i)), (v)] : List Value) ++ hc x)] w3)
  refine hK1 _ _ ?_
  clear hK1 K1
  refine wl_pure (wants0 rfl) (d := 4) (v := (.int .i64 (0))) rfl (by kernel_rfl) ?_
  refine w_nil ?_
  refine then_normal ?_
  refine w_seq ?_
  refine h_start H4 [restC w (fun _ => False), cellC b2 43 (([(.int .i64 (i)), (v)] : List Value) ++ hc x)] 13 rfl (by kernel_rfl) (fun Hx => (Hx.pick [0, 1] (by decide))) ?_
  intro w5 H6 S7
  refine h_val 0 rfl (by kernel_rfl) (by kernel_rfl) (by kernel_rfl) (fun _ _ _ h => h) S7 (wants0 rfl) (d := 8) (v := (.pointer (some ⟨r, 0, none⟩))) rfl (fun _ H' => (by kernel_rfl)) ?_
  refine h_val 1 rfl (by kernel_rfl) (by kernel_rfl) (by kernel_rfl) (fun _ _ _ h => h) S7 (wants0 rfl) (d := 9) (v := (.pointer (some ⟨r, 0, none⟩))) rfl (fun _ H' => (by kernel_rfl)) ?_
  refine h_val 2 rfl (by kernel_rfl) (by kernel_rfl) (by kernel_rfl) (fun _ _ _ h => h) S7 (wants0 rfl) (d := 10) (v := (.pointer (some ⟨r, 3, none⟩))) rfl (fun _ H' => (by kernel_rfl)) ?_
  refine h_val 3 rfl (by kernel_rfl) (by kernel_rfl) (by kernel_rfl) (fun _ _ _ h => h) S7 (wants0 rfl) (d := 11) (v := (.map (some mb))) rfl (fun _ H' => (e_load1 rfl (by kernel_rfl) (H'.roCell 0 rfl hb (fun h => h) rfl))) ?_
  refine h_val 4 rfl (by kernel_rfl) (by kernel_rfl) (by kernel_rfl) (fun _ _ _ h => h) S7 (wants0 rfl) (d := 12) (v := (.pointer (some ⟨b2, 0, none⟩))) rfl (fun _ H' => (by kernel_rfl)) ?_
  refine h_val 5 rfl (by kernel_rfl) (by kernel_rfl) (by kernel_rfl) (fun _ _ _ h => h) S7 (wants0 rfl) (d := 13) (v := (.int .i64 (i))) rfl (fun _ H' => (e_load1 rfl (by kernel_rfl) (H'.cell 1 rfl (by kernel_rfl)))) ?_
  refine h_val 6 rfl (by kernel_rfl) (by kernel_rfl) (by kernel_rfl) (fun _ _ _ h => h) S7 (wants0 rfl) (d := 14) (v := (.tuple #[(.agg ⟨(([(.int .i64 (0)), (.int .i64 (0))] : List Value) ++ hc hash0 ++ ([(.int .u64 (0)), (.int .u64 (0)), (.int .i64 (0)), (.slice none 0 0)] : List Value) ++ hc hash0 ++ ([(.bool false), (.bool false), (.map none)] : List Value))⟩), (.bool false)])) rfl (fun _ H' => (e_lookup2 (kt := 3) (et := 89) (KeyTy.int (by kernel_rfl)) (by kernel_rfl) zeroX rfl (i : Int) rfl (H'.roMap 0 rfl hm (fun h => h)) (by rw [hX]; rfl) (by rw [hX]; rfl))) ?_
  refine h_val 7 rfl (by kernel_rfl) (by kernel_rfl) (by kernel_rfl) (fun _ _ _ h => h) S7 (wants0 rfl) (d := 7) (v := (.tuple #[(.agg ⟨(([(.int .i64 (0)), (.int .i64 (0))] : List Value) ++ hc hash0 ++ ([(.int .u64 (0)), (.int .u64 (0)), (.int .i64 (0)), (.slice none 0 0)] : List Value) ++ hc hash0 ++ ([(.bool false), (.bool false), (.map none)] : List Value))⟩), (.bool false)])) rfl (fun _ H' => (by kernel_rfl)) ?_
  refine h_val 8 rfl (by kernel_rfl) (by kernel_rfl) (by kernel_rfl) (fun _ _ _ h => h) S7 (wants0 rfl) (d := 15) (v := (.agg ⟨(([(.int .i64 (0)), (.int .i64 (0))] : List Value) ++ hc hash0 ++ ([(.int .u64 (0)), (.int .u64 (0)), (.int .i64 (0)), (.slice none 0 0)] : List Value) ++ hc hash0 ++ ([(.bool false), (.bool false), (.map none)] : List Value))⟩)) rfl (fun _ H' => (by kernel_rfl)) ?_
  refine h_val 9 rfl (by kernel_rfl) (by kernel_rfl) (by kernel_rfl) (fun _ _ _ h => h) S7 (wants0 rfl) (d := 16) (v := (.bool false)) rfl (fun _ H' => (by kernel_rfl)) ?_
  refine h_do 10 rfl (by kernel_rfl) (wants0 rfl) (fun K8 hK8 => ?_)
  refine d_alloc (zs := (([(.int .i64 (0)), (.int .i64 (0))] : List Value) ++ hc hash0 ++ ([(.int .u64 (0)), (.int .u64 (0)), (.int .i64 (0)), (.slice none 0 0)] : List Value) ++ hc hash0 ++ ([(.bool false), (.bool false), ((Go.Value.map none))] : List Value))) (z := (.agg ⟨(([(.int .i64 (0)), (.int .i64 (0))] : List Value) ++ hc hash0 ++ ([(.int .u64 (0)), (.int .u64 (0)), (.int .i64 (0)), (.slice none 0 0)] : List Value) ++ hc hash0 ++ ([(.bool false), (.bool false), ((Go.Value.map none))] : List Value))⟩)) rfl H6 (by kernel_rfl) (by kernel_rfl) ?_
  intro b9 w10 (H11 : Sat w [restC w (fun _ => False), cellC b2 43 (([(.int .i64 (i)), (v)] : List Value) ++ hc x), cellC b9 89 (([(.int .i64 (0)), (.int .i64 (0))] : List Value) ++ hc hash0 ++ ([(.int .u64 (0)), (.int .u64 (0)), (.int .i64 (0)), (.slice none 0 0)] : List Value) ++ hc hash0 ++ ([(.bool false), (.bool false), ((Go.Value.map none))] : List Value))] w10)
  have S12 := H11.pick [0, 1] (by decide)
  refine hK8 _ _ S12 ?_
  clear hK8 K8
  refine h_do 11 rfl (by kernel_rfl) (wants0 rfl) (fun K13 hK13 => ?_)
  refine d_storeX (vs := (([(.int .i64 (0)), (.int .i64 (0))] : List Value) ++ hc hash0 ++ ([(.int .u64 (0)), (.int .u64 (0)), (.int .i64 (0)), (.slice none 0 0)] : List Value) ++ hc hash0 ++ ([(.bool false), (.bool false), (.map none)] : List Value))) (cs' := (([(.int .i64 (0)), (.int .i64 (0))] : List Value) ++ hc hash0 ++ ([(.int .u64 (0)), (.int .u64 (0)), (.int .i64 (0)), (.slice none 0 0)] : List Value) ++ hc hash0 ++ ([(.bool false), (.bool false), (.map none)] : List Value))) rfl H11 2 rfl rfl rfl rfl (by kernel_rfl) (Nat.le_of_ble_eq_true (by kernel_rfl)) (Nat.le_of_ble_eq_true (by kernel_rfl)) (by kernel_rfl) (by kernel_rfl) ?_
  intro w14 (H15 : Sat w [restC w (fun _ => False), cellC b2 43 (([(.int .i64 (i)), (v)] : List Value) ++ hc x), cellC b9 89 (([(.int .i64 (0)), (.int .i64 (0))] : List Value) ++ hc hash0 ++ ([(.int .u64 (0)), (.int .u64 (0)), (.int .i64 (0)), (.slice none 0 0)] : List Value) ++ hc hash0 ++ ([(.bool false), (.bool false), (.map none)] : List Value))] w14)
  have S17 := H15.pick [0, 1] (by decide)
  refine hK13 _ _ S17 ?_
  clear hK13 K13
  refine h_val 12 rfl (by kernel_rfl) (by kernel_rfl) (by kernel_rfl) (fun _ _ _ h => h) S17 (wants0 rfl) (d := 6) (v := (.bool false)) rfl (fun _ H' => (by kernel_rfl)) ?_
  refine h_fin (by kernel_rfl) ?_
  refine then_normal ?_
  refine w_seq ?_
  refine w_block ?_
  refine w_seq ?_
  refine w_lit ?_
  refine wl_pure (wants0 rfl) (d := 18) (v := (.bool false)) rfl (by kernel_rfl) ?_
  refine wl_pure (wants0 rfl) (d := 19) (v := (.bool true)) rfl (by kernel_rfl) ?_
  refine wl_pure (wants0 rfl) (d := 17) (v := (.bool true)) rfl (by kernel_rfl) ?_
  refine w_nil ?_
  refine then_normal ?_
  refine wp_ift rfl ?_
  refine w_seq ?_
  refine w_lit ?_
  refine wl_pure (wants0 rfl) (d := 4) (v := (.int .i64 (6))) rfl (by kernel_rfl) ?_
  refine w_nil ?_
  refine then_normal ?_
  refine w_ret ?_
  refine blk_ret ?_
  refine then_ret ?_
  refine end1 rfl (res_tmp (v := (.int .i64 (6))) rfl) ?_
  exact ⟨rfl, H15.upd 0 rfl [] (fun _ h => h.elim)⟩

set_option maxRecDepth 100000 in
set_option maxHeartbeats 2000000 in
theorem rvOpen_any (w : World) (r mb : Nat) (F C rep : Int) (L : List (Int × PlX)) (i : Int) (X : PlX) (hX : lookM L i = some X) (pa : Option Addr) (pc : Nat) (p : List UInt8) (hB : (sepC (rvL r mb F C rep L ++ [rowC 5 1 (.slice pa p.length pc) p.length (p.flatMap encB)])).ok w) (x : Hash) (hlp : p.length ≤ 256) (hmat : X.p.h = shaR (ofT X.p.n1 X.p.n2 x p)) (hcl : X.p.n1 ≤ 9223372036854775807) (hsq : X.p.n2 ≤ 9223372036854775807) :
    Calls Try.prog 14 #[(.pointer (some ⟨r, 0, none⟩)), (.agg ⟨(([(.int .i64 (i)), (.slice pa p.length pc)] : List Value) ++ hc x)⟩)] w fun e w' => (X.p.denied = true ∧ e = .returned (.int .i64 12) ∧ Sat w [cellC r 86 [.int .i64 F, .int .i64 C, .int .i64 rep, .map (some mb)], mapC mb (Value.int .i64) encX L, denC L, rowC 5 1 (.slice pa p.length pc) p.length (p.flatMap encB), restC w (sepC (rvL r mb F C rep L ++ [rowC 5 1 (.slice pa p.length pc) p.length (p.flatMap encB)])).fp] w') ∨ (X.p.denied = false ∧ X.p.acked = true ∧ e = .returned (.int .i64 0) ∧ Sat w [cellC r 86 [.int .i64 F, .int .i64 C, .int .i64 rep, .map (some mb)], mapC mb (Value.int .i64) encX L, denC L, rowC 5 1 (.slice pa p.length pc) p.length (p.flatMap encB), restC w (sepC (rvL r mb F C rep L ++ [rowC 5 1 (.slice pa p.length pc) p.length (p.flatMap encB)])).fp] w') ∨ (X.p.denied = false ∧ X.p.acked = false ∧ e = .returned (.int .i64 0) ∧ ∃ X' : PlX, X'.p.acked = true ∧ X'.p.denied = false ∧ X'.p.oi = i ∧ coreX X' = coreX X ∧ X'.D = X.D ∧ X'.pay = p ∧ Sat w [cellC r 86 [.int .i64 F, .int .i64 C, .int .i64 rep, .map (some mb)], mapC mb (Value.int .i64) encX (putM L i X'), denC (putM L i X'), rowC 5 1 (.slice pa p.length pc) p.length (p.flatMap encB), restC w (sepC (rvL r mb F C rep L ++ [rowC 5 1 (.slice pa p.length pc) p.length (p.flatMap encB)])).fp] w') := by
  have H : Sat w [cellC r 86 ([(.int .i64 (F)), (.int .i64 (C)), (.int .i64 (rep)), (.map (some mb))] : List Value), mapC mb (Value.int .i64) encX L, denC L, rowC 5 1 (.slice pa p.length pc) p.length (p.flatMap encB), restC w (sepC (rvL r mb F C rep L ++ [rowC 5 1 (.slice pa p.length pc) p.length (p.flatMap encB)])).fp] w := Sat.start (rvL r mb F C rep L ++ [rowC 5 1 (.slice pa p.length pc) p.length (p.flatMap encB)]) hB
  have hmm : decide (X.p.h = shaR (ofT X.p.n1 X.p.n2 x p)) = true := decide_eq_true hmat
  refine calls_fr Try.func14 rfl 56 rfl (Nat.le_of_ble_eq_true rfl) ?_
  refine w_seq ?_
  refine w_lit ?_
  refine wl_do (wants0 rfl) (fun K1 hK1 => ?_)
  refine d_box (vs := (([(.int .i64 (i)), (.slice pa p.length pc)] : List Value) ++ hc x)) rfl H rfl rfl ?_
  intro b2 w3 (H4 : Sat w [cellC r 86 ([(.int .i64 (F)), (.int .i64 (C)), (.int .i64 (rep)), (.map (some mb))] : List Value), mapC mb (Value.int .i64) encX L, denC L, rowC 5 1 (.slice pa p.length pc) p.length (p.flatMap encB), restC w (sepC (rvL r mb F C rep L ++ [rowC 5 1 (.slice pa p.length pc) p.length (p.flatMap encB)])).fp, cellC b2 43 (([(.int .i64 (i)), (.slice pa p.length pc)] : List Value) ++ hc x)] w3)
  refine hK1 _ _ ?_
  clear hK1 K1
  refine wl_pure (wants0 rfl) (d := 4) (v := (.int .i64 (0))) rfl (by kernel_rfl) ?_
  refine w_nil ?_
  refine then_normal ?_
  refine w_seq ?_
  refine h_start H4 [cellC r 86 ([(.int .i64 (F)), (.int .i64 (C)), (.int .i64 (rep)), (.map (some mb))] : List Value), mapC mb (Value.int .i64) encX L, denC L, rowC 5 1 (.slice pa p.length pc) p.length (p.flatMap encB), restC w (sepC (rvL r mb F C rep L ++ [rowC 5 1 (.slice pa p.length pc) p.length (p.flatMap encB)])).fp, cellC b2 43 (([(.int .i64 (i)), (.slice pa p.length pc)] : List Value) ++ hc x)] 13 rfl (by kernel_rfl) (fun Hx => (Hx.pick [0, 1, 2, 3, 4, 5] (by decide))) ?_
  intro w5 H6 S7
  refine h_val 0 rfl (by kernel_rfl) (by kernel_rfl) (by kernel_rfl) (fun _ _ _ h => h) S7 (wants0 rfl) (d := 8) (v := (.pointer (some ⟨r, 0, none⟩))) rfl (fun _ H' => (by kernel_rfl)) ?_
  refine h_val 1 rfl (by kernel_rfl) (by kernel_rfl) (by kernel_rfl) (fun _ _ _ h => h) S7 (wants0 rfl) (d := 9) (v := (.pointer (some ⟨r, 0, none⟩))) rfl (fun _ H' => (by kernel_rfl)) ?_
  refine h_val 2 rfl (by kernel_rfl) (by kernel_rfl) (by kernel_rfl) (fun _ _ _ h => h) S7 (wants0 rfl) (d := 10) (v := (.pointer (some ⟨r, 3, none⟩))) rfl (fun _ H' => (by kernel_rfl)) ?_
  refine h_val 3 rfl (by kernel_rfl) (by kernel_rfl) (by kernel_rfl) (fun _ _ _ h => h) S7 (wants0 rfl) (d := 11) (v := (.map (some mb))) rfl (fun _ H' => (e_load1 rfl (by kernel_rfl) (H'.cell 0 rfl rfl))) ?_
  refine h_val 4 rfl (by kernel_rfl) (by kernel_rfl) (by kernel_rfl) (fun _ _ _ h => h) S7 (wants0 rfl) (d := 12) (v := (.pointer (some ⟨b2, 0, none⟩))) rfl (fun _ H' => (by kernel_rfl)) ?_
  refine h_val 5 rfl (by kernel_rfl) (by kernel_rfl) (by kernel_rfl) (fun _ _ _ h => h) S7 (wants0 rfl) (d := 13) (v := (.int .i64 (i))) rfl (fun _ H' => (e_load1 rfl (by kernel_rfl) (H'.cell 5 rfl (by kernel_rfl)))) ?_
  refine h_val 6 rfl (by kernel_rfl) (by kernel_rfl) (by kernel_rfl) (fun _ _ _ h => h) S7 (wants0 rfl) (d := 14) (v := (.tuple #[(.agg ⟨(([(.int .i64 (X.p.n1)), (.int .i64 (X.p.n2))] : List Value) ++ hc X.p.h ++ ([(.int .u64 (X.p.t)), (.int .u64 (X.p.since)), (.int .i64 (X.p.oi)), (.slice X.p.oa X.p.ol X.p.oc)] : List Value) ++ hc X.p.on ++ ([(.bool (X.p.acked)), (.bool (X.p.denied)), (.map X.p.dm)] : List Value))⟩), (.bool true)])) rfl (fun _ H' => (e_lookup2 (kt := 3) (et := 89) (KeyTy.int (by kernel_rfl)) (by kernel_rfl) zeroX rfl (i : Int) rfl (H'.at 1 rfl) (by rw [hX]; rfl) (by rw [hX]; rfl))) ?_
  refine h_val 7 rfl (by kernel_rfl) (by kernel_rfl) (by kernel_rfl) (fun _ _ _ h => h) S7 (wants0 rfl) (d := 7) (v := (.tuple #[(.agg ⟨(([(.int .i64 (X.p.n1)), (.int .i64 (X.p.n2))] : List Value) ++ hc X.p.h ++ ([(.int .u64 (X.p.t)), (.int .u64 (X.p.since)), (.int .i64 (X.p.oi)), (.slice X.p.oa X.p.ol X.p.oc)] : List Value) ++ hc X.p.on ++ ([(.bool (X.p.acked)), (.bool (X.p.denied)), (.map X.p.dm)] : List Value))⟩), (.bool true)])) rfl (fun _ H' => (by kernel_rfl)) ?_
  refine h_val 8 rfl (by kernel_rfl) (by kernel_rfl) (by kernel_rfl) (fun _ _ _ h => h) S7 (wants0 rfl) (d := 15) (v := (.agg ⟨(([(.int .i64 (X.p.n1)), (.int .i64 (X.p.n2))] : List Value) ++ hc X.p.h ++ ([(.int .u64 (X.p.t)), (.int .u64 (X.p.since)), (.int .i64 (X.p.oi)), (.slice X.p.oa X.p.ol X.p.oc)] : List Value) ++ hc X.p.on ++ ([(.bool (X.p.acked)), (.bool (X.p.denied)), (.map X.p.dm)] : List Value))⟩)) rfl (fun _ H' => (by kernel_rfl)) ?_
  refine h_val 9 rfl (by kernel_rfl) (by kernel_rfl) (by kernel_rfl) (fun _ _ _ h => h) S7 (wants0 rfl) (d := 16) (v := (.bool true)) rfl (fun _ H' => (by kernel_rfl)) ?_
  refine h_do 10 rfl (by kernel_rfl) (wants0 rfl) (fun K8 hK8 => ?_)
  refine d_alloc (zs := (([(.int .i64 (0)), (.int .i64 (0))] : List Value) ++ hc hash0 ++ ([(.int .u64 (0)), (.int .u64 (0)), (.int .i64 (0)), (.slice none 0 0)] : List Value) ++ hc hash0 ++ ([(.bool false), (.bool false), ((Go.Value.map none))] : List Value))) (z := (.agg ⟨(([(.int .i64 (0)), (.int .i64 (0))] : List Value) ++ hc hash0 ++ ([(.int .u64 (0)), (.int .u64 (0)), (.int .i64 (0)), (.slice none 0 0)] : List Value) ++ hc hash0 ++ ([(.bool false), (.bool false), ((Go.Value.map none))] : List Value))⟩)) rfl H6 (by kernel_rfl) (by kernel_rfl) ?_
  intro b9 w10 (H11 : Sat w [cellC r 86 ([(.int .i64 (F)), (.int .i64 (C)), (.int .i64 (rep)), (.map (some mb))] : List Value), mapC mb (Value.int .i64) encX L, denC L, rowC 5 1 (.slice pa p.length pc) p.length (p.flatMap encB), restC w (sepC (rvL r mb F C rep L ++ [rowC 5 1 (.slice pa p.length pc) p.length (p.flatMap encB)])).fp, cellC b2 43 (([(.int .i64 (i)), (.slice pa p.length pc)] : List Value) ++ hc x), cellC b9 89 (([(.int .i64 (0)), (.int .i64 (0))] : List Value) ++ hc hash0 ++ ([(.int .u64 (0)), (.int .u64 (0)), (.int .i64 (0)), (.slice none 0 0)] : List Value) ++ hc hash0 ++ ([(.bool false), (.bool false), ((Go.Value.map none))] : List Value))] w10)
  have S12 := H11.pick [0, 1, 2, 3, 4, 5] (by decide)
  refine hK8 _ _ S12 ?_
  clear hK8 K8
  refine h_do 11 rfl (by kernel_rfl) (wants0 rfl) (fun K13 hK13 => ?_)
  refine d_storeX (vs := (([(.int .i64 (X.p.n1)), (.int .i64 (X.p.n2))] : List Value) ++ hc X.p.h ++ ([(.int .u64 (X.p.t)), (.int .u64 (X.p.since)), (.int .i64 (X.p.oi)), (.slice X.p.oa X.p.ol X.p.oc)] : List Value) ++ hc X.p.on ++ ([(.bool (X.p.acked)), (.bool (X.p.denied)), (.map X.p.dm)] : List Value))) (cs' := (([(.int .i64 (X.p.n1)), (.int .i64 (X.p.n2))] : List Value) ++ hc X.p.h ++ ([(.int .u64 (X.p.t)), (.int .u64 (X.p.since)), (.int .i64 (X.p.oi)), (.slice X.p.oa X.p.ol X.p.oc)] : List Value) ++ hc X.p.on ++ ([(.bool (X.p.acked)), (.bool (X.p.denied)), (.map X.p.dm)] : List Value))) rfl H11 6 rfl rfl rfl rfl (by kernel_rfl) (Nat.le_of_ble_eq_true (by kernel_rfl)) (Nat.le_of_ble_eq_true (by kernel_rfl)) (by kernel_rfl) (by kernel_rfl) ?_
  intro w14 (H15 : Sat w [cellC r 86 ([(.int .i64 (F)), (.int .i64 (C)), (.int .i64 (rep)), (.map (some mb))] : List Value), mapC mb (Value.int .i64) encX L, denC L, rowC 5 1 (.slice pa p.length pc) p.length (p.flatMap encB), restC w (sepC (rvL r mb F C rep L ++ [rowC 5 1 (.slice pa p.length pc) p.length (p.flatMap encB)])).fp, cellC b2 43 (([(.int .i64 (i)), (.slice pa p.length pc)] : List Value) ++ hc x), cellC b9 89 (([(.int .i64 (X.p.n1)), (.int .i64 (X.p.n2))] : List Value) ++ hc X.p.h ++ ([(.int .u64 (X.p.t)), (.int .u64 (X.p.since)), (.int .i64 (X.p.oi)), (.slice X.p.oa X.p.ol X.p.oc)] : List Value) ++ hc X.p.on ++ ([(.bool (X.p.acked)), (.bool (X.p.denied)), (.map X.p.dm)] : List Value))] w14)
  have S17 := H15.pick [0, 1, 2, 3, 4, 5] (by decide)
  refine hK13 _ _ S17 ?_
  clear hK13 K13
  refine h_val 12 rfl (by kernel_rfl) (by kernel_rfl) (by kernel_rfl) (fun _ _ _ h => h) S17 (wants0 rfl) (d := 6) (v := (.bool true)) rfl (fun _ H' => (by kernel_rfl)) ?_
  refine h_fin (by kernel_rfl) ?_
  refine then_normal ?_
  refine w_seq ?_
  refine w_block ?_
  refine w_seq ?_
  refine w_lit ?_
  refine wl_pure (wants0 rfl) (d := 18) (v := (.bool true)) rfl (by kernel_rfl) ?_
  refine wl_pure (wants0 rfl) (d := 19) (v := (.bool false)) rfl (by kernel_rfl) ?_
  refine wl_pure (wants0 rfl) (d := 17) (v := (.bool false)) rfl (by kernel_rfl) ?_
  refine w_nil ?_
  refine then_normal ?_
  refine wp_iff rfl ?_
  refine w_seq ?_
  refine w_lit ?_
  refine wl_pure (wants0 rfl) (d := 21) (v := (.pointer (some ⟨b2, 1, none⟩))) rfl (by kernel_rfl) ?_
  refine wl_pure (wants0 rfl) (d := 22) (v := (.slice pa p.length pc)) rfl (e_load1 rfl (by kernel_rfl) (H15.cell 5 rfl (by kernel_rfl))) ?_
  refine wl_pure (wants0 rfl) (d := 23) (v := (.int .i64 ((p.length : Int)))) rfl (by kernel_rfl) ?_
  refine wl_pure (wants0 rfl) (d := 24) (v := (.bool (decide ((p.length : Int) > 256)))) rfl (by kernel_rfl) ?_
  refine wl_pure (wants0 rfl) (d := 25) (v := (.bool (decide ((p.length : Int) > 256)))) rfl (by kernel_rfl) ?_
  have b18 : (decide ((p.length : Int) > 256)) = false := by exact decide_eq_false (by omega)
  refine wl_know 25 (.bool false) (congrArg Value.bool b18) ?_
  have g19 := of_decide_eq_false b18
  refine wl_pure (wantsY 4 25 false rfl (by kernel_rfl) rfl (by kernel_rfl)) (d := 26) (v := (.pointer (some ⟨b9, 0, none⟩))) rfl (by kernel_rfl) ?_
  refine wl_pure (wantsY 4 25 false rfl (by kernel_rfl) rfl (by kernel_rfl)) (d := 27) (v := (.pointer (some ⟨b9, 2, none⟩))) rfl (by kernel_rfl) ?_
  refine wl_pure (wantsY 4 25 false rfl (by kernel_rfl) rfl (by kernel_rfl)) (d := 28) (v := (.agg ⟨(hc X.p.h)⟩)) rfl (e_loadN (vs := (hc X.p.h)) rfl (by kernel_rfl) (by kernel_rfl) (by exact Nat.le_of_ble_eq_true (by kernel_rfl)) (H15.at 6 rfl) (by kernel_rfl)) ?_
  refine wl_pure (wantsY 4 25 false rfl (by kernel_rfl) rfl (by kernel_rfl)) (d := 29) (v := (.pointer (some ⟨b9, 0, none⟩))) rfl (by kernel_rfl) ?_
  refine wl_pure (wantsY 4 25 false rfl (by kernel_rfl) rfl (by kernel_rfl)) (d := 30) (v := (.pointer (some ⟨b9, 0, none⟩))) rfl (by kernel_rfl) ?_
  refine wl_pure (wantsY 4 25 false rfl (by kernel_rfl) rfl (by kernel_rfl)) (d := 31) (v := (.agg ⟨([(.int .i64 (X.p.n1)), (.int .i64 (X.p.n2))] : List Value)⟩)) rfl (e_loadN (vs := ([(.int .i64 (X.p.n1)), (.int .i64 (X.p.n2))] : List Value)) rfl (by kernel_rfl) (by kernel_rfl) (by exact Nat.le_of_ble_eq_true (by kernel_rfl)) (H15.at 6 rfl) (by kernel_rfl)) ?_
  refine wl_pure (wantsY 4 25 false rfl (by kernel_rfl) rfl (by kernel_rfl)) (d := 32) (v := (.agg ⟨(([(.int .i64 (i)), (.slice pa p.length pc)] : List Value) ++ hc x)⟩)) rfl (e_loadN (vs := (([(.int .i64 (i)), (.slice pa p.length pc)] : List Value) ++ hc x)) rfl (by kernel_rfl) (by kernel_rfl) (by exact Nat.le_of_ble_eq_true (by kernel_rfl)) (H15.at 5 rfl) (by kernel_rfl)) ?_
  refine wl_do (wantsY 4 25 false rfl (by kernel_rfl) rfl (by kernel_rfl)) (fun K20 hK20 => ?_)
  refine d_call (d := 33) rfl (by kernel_rfl) (pMatches_any w14 X.p.h i X.p.n1 X.p.n2 x pa pc p (ListAt.row (enc := encB) (sz := 1) encB_len (by decide) (H15.at 3 rfl)) hcl hsq (by omega)) ?_
  rintro _ w21 ⟨rfl, u23⟩
  have H22 := H15.keepU u23
  refine ⟨_, rfl, ?_⟩
  refine hK20 _ _ ?_
  clear hK20 K20
  refine wl_pure (wantsY 4 25 false rfl (by kernel_rfl) rfl (by kernel_rfl)) (d := 34) (v := (.bool (!(decide (X.p.h = shaR (ofT X.p.n1 X.p.n2 x p)))))) rfl (by kernel_rfl) ?_
  refine wl_pure (wants0 rfl) (d := 35) (v := (.bool (!(decide (X.p.h = shaR (ofT X.p.n1 X.p.n2 x p)))))) rfl (by kernel_rfl) ?_
  refine wl_pure (wants0 rfl) (d := 20) (v := (.bool (!(decide (X.p.h = shaR (ofT X.p.n1 X.p.n2 x p)))))) rfl (by kernel_rfl) ?_
  refine w_nil ?_
  refine then_normal ?_
  have b24 : (!(decide (X.p.h = shaR (ofT X.p.n1 X.p.n2 x p)))) = false := by rw [hmm]; rfl
  refine wp_know 20 (.bool false) (congrArg Value.bool b24) ?_
  have g25 := bnot_false b24
  refine wp_iff rfl ?_
  refine w_seq ?_
  refine w_lit ?_
  refine wl_pure (wants0 rfl) (d := 37) (v := (.pointer (some ⟨b9, 71, none⟩))) rfl (by kernel_rfl) ?_
  refine wl_pure (wants0 rfl) (d := 38) (v := (.bool (X.p.denied))) rfl (e_load1 rfl (by kernel_rfl) (H22.cell 6 rfl (by kernel_rfl))) ?_
  refine wl_pure (wants0 rfl) (d := 36) (v := (.bool (X.p.denied))) rfl (by kernel_rfl) ?_
  refine w_nil ?_
  refine then_normal ?_
  refine (bsplit (X.p.denied)).elim (fun b26 => ?_) (fun b26 => ?_)
  · refine wp_know 36 (.bool true) (congrArg Value.bool b26) ?_
    refine wp_ift rfl ?_
    refine w_seq ?_
    refine w_lit ?_
    refine wl_pure (wants0 rfl) (d := 4) (v := (.int .i64 (12))) rfl (by kernel_rfl) ?_
    refine w_nil ?_
    refine then_normal ?_
    refine w_ret ?_
    refine blk_ret ?_
    refine then_ret ?_
    refine end1 rfl (res_tmp (v := (.int .i64 (12))) rfl) ?_
    exact .inl ⟨b26, rfl, H22.pick [0, 1, 2, 3, 4] (by decide)⟩
  · refine wp_know 36 (.bool false) (congrArg Value.bool b26) ?_
    refine wp_iff rfl ?_
    refine w_seq ?_
    refine w_lit ?_
    refine wl_pure (wants0 rfl) (d := 40) (v := (.pointer (some ⟨b9, 70, none⟩))) rfl (by kernel_rfl) ?_
    refine wl_pure (wants0 rfl) (d := 41) (v := (.bool (X.p.acked))) rfl (e_load1 rfl (by kernel_rfl) (H22.cell 6 rfl (by kernel_rfl))) ?_
    refine wl_pure (wants0 rfl) (d := 39) (v := (.bool (X.p.acked))) rfl (by kernel_rfl) ?_
    refine w_nil ?_
    refine then_normal ?_
    refine (bsplit (X.p.acked)).elim (fun b27 => ?_) (fun b27 => ?_)
    · refine wp_know 39 (.bool true) (congrArg Value.bool b27) ?_
      refine wp_ift rfl ?_
      refine w_seq ?_
      refine w_lit ?_
      refine wl_pure (wants0 rfl) (d := 4) (v := (.int .i64 (0))) rfl (by kernel_rfl) ?_
      refine w_nil ?_
      refine then_normal ?_
      refine w_ret ?_
      refine blk_ret ?_
      refine then_ret ?_
      refine end1 rfl (res_tmp (v := (.int .i64 (0))) rfl) ?_
      exact .inr (.inl ⟨b26, b27, rfl, H22.pick [0, 1, 2, 3, 4] (by decide)⟩)
    · refine wp_know 39 (.bool false) (congrArg Value.bool b27) ?_
      refine wp_iff rfl ?_
      refine w_skip ?_
      refine blk_normal ?_
      refine then_normal ?_
      refine w_seq ?_
      refine w_lit ?_
      refine wl_pure (wants0 rfl) (d := 42) (v := (.pointer (some ⟨b2, 1, none⟩))) rfl (by kernel_rfl) ?_
      refine wl_pure (wants0 rfl) (d := 43) (v := (.slice pa p.length pc)) rfl (e_load1 rfl (by kernel_rfl) (H22.cell 5 rfl (by kernel_rfl))) ?_
      refine wl_do (wants0 rfl) (fun K28 hK28 => ?_)
      refine d_call (d := 44) rfl (by kernel_rfl) (cloneB_any w21 (.slice pa p.length pc) p (H22.at 3 rfl) (by omega)) ?_
      rintro _ w29 ⟨u30, rfl, k31, p32, q33⟩
      have H34 : Sat w [cellC r 86 ([(.int .i64 (F)), (.int .i64 (C)), (.int .i64 (rep)), (.map (some mb))] : List Value), mapC mb (Value.int .i64) encX L, denC L, rowC 5 1 (.slice pa p.length pc) p.length (p.flatMap encB), restC w (sepC (rvL r mb F C rep L ++ [rowC 5 1 (.slice pa p.length pc) p.length (p.flatMap encB)])).fp, cellC b2 43 (([(.int .i64 (i)), (.slice pa p.length pc)] : List Value) ++ hc x), cellC b9 89 (([(.int .i64 (X.p.n1)), (.int .i64 (X.p.n2))] : List Value) ++ hc X.p.h ++ ([(.int .u64 (X.p.t)), (.int .u64 (X.p.since)), (.int .i64 (X.p.oi)), (.slice X.p.oa X.p.ol X.p.oc)] : List Value) ++ hc X.p.on ++ ([(.bool (X.p.acked)), (.bool (X.p.denied)), (.map X.p.dm)] : List Value)), rowC 5 1 u30 p.length (p.flatMap encB)] w29 := H22.addU p32 k31 q33
      obtain ⟨a35, c36, rfl⟩ := ownsRow_shape (H34.at 7 rfl)
      refine ⟨_, rfl, ?_⟩
      refine hK28 _ _ ?_
      clear hK28 K28
      refine wl_pure (wants0 rfl) (d := 45) (v := (.pointer (some ⟨b2, 1, none⟩))) rfl (by kernel_rfl) ?_
      refine wl_do (wants0 rfl) (fun K37 hK37 => ?_)
      refine d_storeX (vs := ([(.slice a35 p.length c36)] : List Value)) (cs' := (([(.int .i64 (i)), (.slice a35 p.length c36)] : List Value) ++ hc x)) rfl H34 5 rfl rfl rfl rfl (by kernel_rfl) (Nat.le_of_ble_eq_true (by kernel_rfl)) (Nat.le_of_ble_eq_true (by kernel_rfl)) (by kernel_rfl) (by kernel_rfl) ?_
      intro w38 (H39 : Sat w [cellC r 86 ([(.int .i64 (F)), (.int .i64 (C)), (.int .i64 (rep)), (.map (some mb))] : List Value), mapC mb (Value.int .i64) encX L, denC L, rowC 5 1 (.slice pa p.length pc) p.length (p.flatMap encB), restC w (sepC (rvL r mb F C rep L ++ [rowC 5 1 (.slice pa p.length pc) p.length (p.flatMap encB)])).fp, cellC b2 43 (([(.int .i64 (i)), (.slice a35 p.length c36)] : List Value) ++ hc x), cellC b9 89 (([(.int .i64 (X.p.n1)), (.int .i64 (X.p.n2))] : List Value) ++ hc X.p.h ++ ([(.int .u64 (X.p.t)), (.int .u64 (X.p.since)), (.int .i64 (X.p.oi)), (.slice X.p.oa X.p.ol X.p.oc)] : List Value) ++ hc X.p.on ++ ([(.bool (X.p.acked)), (.bool (X.p.denied)), (.map X.p.dm)] : List Value)), rowC 5 1 (.slice a35 p.length c36) p.length (p.flatMap encB)] w38)
      refine hK37 _ _ ?_
      clear hK37 K37
      refine w_nil ?_
      refine then_normal ?_
      refine w_seq ?_
      refine h_start H39 [cellC r 86 ([(.int .i64 (F)), (.int .i64 (C)), (.int .i64 (rep)), (.map (some mb))] : List Value), mapC mb (Value.int .i64) encX L, denC L, rowC 5 1 (.slice pa p.length pc) p.length (p.flatMap encB), restC w (sepC (rvL r mb F C rep L ++ [rowC 5 1 (.slice pa p.length pc) p.length (p.flatMap encB)])).fp, cellC b2 43 (([(.int .i64 (i)), (.slice a35 p.length c36)] : List Value) ++ hc x), rowC 5 1 (.slice a35 p.length c36) p.length (p.flatMap encB)] 5 rfl (by kernel_rfl) (fun Hx => (Hx.pick [0, 1, 2, 3, 4, 5, 7] (by decide))) ?_
      intro w41 H42 S43
      refine h_val 0 rfl (by kernel_rfl) (by kernel_rfl) (by kernel_rfl) (fun _ _ _ h => h) S43 (wants0 rfl) (d := 46) (v := (.agg ⟨(([(.int .i64 (i)), (.slice a35 p.length c36)] : List Value) ++ hc x)⟩)) rfl (fun _ H' => (e_loadN (vs := (([(.int .i64 (i)), (.slice a35 p.length c36)] : List Value) ++ hc x)) rfl (by kernel_rfl) (by kernel_rfl) (by exact Nat.le_of_ble_eq_true (by kernel_rfl)) (H'.at 5 rfl) (by kernel_rfl))) ?_
      refine h_val 1 rfl (by kernel_rfl) (by kernel_rfl) (by kernel_rfl) (fun _ _ _ h => h) S43 (wants0 rfl) (d := 47) (v := (.pointer (some ⟨b9, 70, none⟩))) rfl (fun _ H' => (by kernel_rfl)) ?_
      refine h_do 2 rfl (by kernel_rfl) (wants0 rfl) (fun K44 hK44 => ?_)
      refine d_storeX (vs := ([(.bool true)] : List Value)) (cs' := (([(.int .i64 (X.p.n1)), (.int .i64 (X.p.n2))] : List Value) ++ hc X.p.h ++ ([(.int .u64 (X.p.t)), (.int .u64 (X.p.since)), (.int .i64 (X.p.oi)), (.slice X.p.oa X.p.ol X.p.oc)] : List Value) ++ hc X.p.on ++ ([(.bool true), (.bool (X.p.denied)), (.map X.p.dm)] : List Value))) rfl H42 6 rfl rfl rfl rfl (by kernel_rfl) (Nat.le_of_ble_eq_true (by kernel_rfl)) (Nat.le_of_ble_eq_true (by kernel_rfl)) (by kernel_rfl) (by kernel_rfl) ?_
      intro w45 (H46 : Sat w [cellC r 86 ([(.int .i64 (F)), (.int .i64 (C)), (.int .i64 (rep)), (.map (some mb))] : List Value), mapC mb (Value.int .i64) encX L, denC L, rowC 5 1 (.slice pa p.length pc) p.length (p.flatMap encB), restC w (sepC (rvL r mb F C rep L ++ [rowC 5 1 (.slice pa p.length pc) p.length (p.flatMap encB)])).fp, cellC b2 43 (([(.int .i64 (i)), (.slice a35 p.length c36)] : List Value) ++ hc x), cellC b9 89 (([(.int .i64 (X.p.n1)), (.int .i64 (X.p.n2))] : List Value) ++ hc X.p.h ++ ([(.int .u64 (X.p.t)), (.int .u64 (X.p.since)), (.int .i64 (X.p.oi)), (.slice X.p.oa X.p.ol X.p.oc)] : List Value) ++ hc X.p.on ++ ([(.bool true), (.bool (X.p.denied)), (.map X.p.dm)] : List Value)), rowC 5 1 (.slice a35 p.length c36) p.length (p.flatMap encB)] w45)
      have S48 := H46.pick [0, 1, 2, 3, 4, 5, 7] (by decide)
      refine hK44 _ _ S48 ?_
      clear hK44 K44
      refine h_val 3 rfl (by kernel_rfl) (by kernel_rfl) (by kernel_rfl) (fun _ _ _ h => h) S48 (wants0 rfl) (d := 48) (v := (.pointer (some ⟨b9, 36, none⟩))) rfl (fun _ H' => (by kernel_rfl)) ?_
      refine h_do 4 rfl (by kernel_rfl) (wants0 rfl) (fun K49 hK49 => ?_)
      refine d_storeX (vs := (([(.int .i64 (i)), (.slice a35 p.length c36)] : List Value) ++ hc x)) (cs' := (([(.int .i64 (X.p.n1)), (.int .i64 (X.p.n2))] : List Value) ++ hc X.p.h ++ ([(.int .u64 (X.p.t)), (.int .u64 (X.p.since)), (.int .i64 (i)), (.slice a35 p.length c36)] : List Value) ++ hc x ++ ([(.bool true), (.bool (X.p.denied)), (.map X.p.dm)] : List Value))) rfl H46 6 rfl rfl rfl rfl (by kernel_rfl) (Nat.le_of_ble_eq_true (by kernel_rfl)) (Nat.le_of_ble_eq_true (by kernel_rfl)) (by kernel_rfl) (by kernel_rfl) ?_
      intro w50 (H51 : Sat w [cellC r 86 ([(.int .i64 (F)), (.int .i64 (C)), (.int .i64 (rep)), (.map (some mb))] : List Value), mapC mb (Value.int .i64) encX L, denC L, rowC 5 1 (.slice pa p.length pc) p.length (p.flatMap encB), restC w (sepC (rvL r mb F C rep L ++ [rowC 5 1 (.slice pa p.length pc) p.length (p.flatMap encB)])).fp, cellC b2 43 (([(.int .i64 (i)), (.slice a35 p.length c36)] : List Value) ++ hc x), cellC b9 89 (([(.int .i64 (X.p.n1)), (.int .i64 (X.p.n2))] : List Value) ++ hc X.p.h ++ ([(.int .u64 (X.p.t)), (.int .u64 (X.p.since)), (.int .i64 (i)), (.slice a35 p.length c36)] : List Value) ++ hc x ++ ([(.bool true), (.bool (X.p.denied)), (.map X.p.dm)] : List Value)), rowC 5 1 (.slice a35 p.length c36) p.length (p.flatMap encB)] w50)
      have S53 := H51.pick [0, 1, 2, 3, 4, 5, 7] (by decide)
      refine hK49 _ _ S53 ?_
      clear hK49 K49
      refine h_fin (by kernel_rfl) ?_
      refine then_normal ?_
      refine w_seq ?_
      refine h_start H51 [cellC r 86 ([(.int .i64 (F)), (.int .i64 (C)), (.int .i64 (rep)), (.map (some mb))] : List Value), denC L, rowC 5 1 (.slice pa p.length pc) p.length (p.flatMap encB), restC w (sepC (rvL r mb F C rep L ++ [rowC 5 1 (.slice pa p.length pc) p.length (p.flatMap encB)])).fp, cellC b2 43 (([(.int .i64 (i)), (.slice a35 p.length c36)] : List Value) ++ hc x), cellC b9 89 (([(.int .i64 (X.p.n1)), (.int .i64 (X.p.n2))] : List Value) ++ hc X.p.h ++ ([(.int .u64 (X.p.t)), (.int .u64 (X.p.since)), (.int .i64 (i)), (.slice a35 p.length c36)] : List Value) ++ hc x ++ ([(.bool true), (.bool (X.p.denied)), (.map X.p.dm)] : List Value)), rowC 5 1 (.slice a35 p.length c36) p.length (p.flatMap encB)] 8 rfl (by kernel_rfl) (fun Hx => (Hx.pick [0, 2, 3, 4, 5, 6, 7] (by decide))) ?_
      intro w54 H55 S56
      refine h_val 0 rfl (by kernel_rfl) (by kernel_rfl) (by kernel_rfl) (fun _ _ _ h => h) S56 (wants0 rfl) (d := 49) (v := (.pointer (some ⟨r, 0, none⟩))) rfl (fun _ H' => (by kernel_rfl)) ?_
      refine h_val 1 rfl (by kernel_rfl) (by kernel_rfl) (by kernel_rfl) (fun _ _ _ h => h) S56 (wants0 rfl) (d := 50) (v := (.pointer (some ⟨r, 0, none⟩))) rfl (fun _ H' => (by kernel_rfl)) ?_
      refine h_val 2 rfl (by kernel_rfl) (by kernel_rfl) (by kernel_rfl) (fun _ _ _ h => h) S56 (wants0 rfl) (d := 51) (v := (.pointer (some ⟨r, 3, none⟩))) rfl (fun _ H' => (by kernel_rfl)) ?_
      refine h_val 3 rfl (by kernel_rfl) (by kernel_rfl) (by kernel_rfl) (fun _ _ _ h => h) S56 (wants0 rfl) (d := 52) (v := (.map (some mb))) rfl (fun _ H' => (e_load1 rfl (by kernel_rfl) (H'.cell 0 rfl rfl))) ?_
      refine h_val 4 rfl (by kernel_rfl) (by kernel_rfl) (by kernel_rfl) (fun _ _ _ h => h) S56 (wants0 rfl) (d := 53) (v := (.pointer (some ⟨b2, 0, none⟩))) rfl (fun _ H' => (by kernel_rfl)) ?_
      refine h_val 5 rfl (by kernel_rfl) (by kernel_rfl) (by kernel_rfl) (fun _ _ _ h => h) S56 (wants0 rfl) (d := 54) (v := (.int .i64 (i))) rfl (fun _ H' => (e_load1 rfl (by kernel_rfl) (H'.cell 4 rfl (by kernel_rfl)))) ?_
      refine h_val 6 rfl (by kernel_rfl) (by kernel_rfl) (by kernel_rfl) (fun _ _ _ h => h) S56 (wants0 rfl) (d := 55) (v := (.agg ⟨(([(.int .i64 (X.p.n1)), (.int .i64 (X.p.n2))] : List Value) ++ hc X.p.h ++ ([(.int .u64 (X.p.t)), (.int .u64 (X.p.since)), (.int .i64 (i)), (.slice a35 p.length c36)] : List Value) ++ hc x ++ ([(.bool true), (.bool (X.p.denied)), (.map X.p.dm)] : List Value))⟩)) rfl (fun _ H' => (e_loadN (vs := (([(.int .i64 (X.p.n1)), (.int .i64 (X.p.n2))] : List Value) ++ hc X.p.h ++ ([(.int .u64 (X.p.t)), (.int .u64 (X.p.since)), (.int .i64 (i)), (.slice a35 p.length c36)] : List Value) ++ hc x ++ ([(.bool true), (.bool (X.p.denied)), (.map X.p.dm)] : List Value))) rfl (by kernel_rfl) (by kernel_rfl) (by exact Nat.le_of_ble_eq_true (by kernel_rfl)) (H'.at 5 rfl) (by kernel_rfl))) ?_
      refine h_do 7 rfl (by kernel_rfl) (wants0 rfl) (fun K57 hK57 => ?_)
      refine d_mapUpdate (kt := 3) (et := 89) rfl H55 1 rfl (KeyTy.int (by kernel_rfl)) (by kernel_rfl) rfl (i : Int) rfl (⟨(⟨X.p.n1, X.p.n2, X.p.h, X.p.t, X.p.since, i, a35, p.length, c36, x, true, (X.p.denied), X.p.dm⟩ : PlaceD), X.D, p⟩ : PlX) rfl ?_
      intro w58 (H59 : Sat w [cellC r 86 ([(.int .i64 (F)), (.int .i64 (C)), (.int .i64 (rep)), (.map (some mb))] : List Value), mapC mb (Value.int .i64) encX (putM L (i : Int) (⟨(⟨X.p.n1, X.p.n2, X.p.h, X.p.t, X.p.since, i, a35, p.length, c36, x, true, (X.p.denied), X.p.dm⟩ : PlaceD), X.D, p⟩ : PlX)), denC L, rowC 5 1 (.slice pa p.length pc) p.length (p.flatMap encB), restC w (sepC (rvL r mb F C rep L ++ [rowC 5 1 (.slice pa p.length pc) p.length (p.flatMap encB)])).fp, cellC b2 43 (([(.int .i64 (i)), (.slice a35 p.length c36)] : List Value) ++ hc x), cellC b9 89 (([(.int .i64 (X.p.n1)), (.int .i64 (X.p.n2))] : List Value) ++ hc X.p.h ++ ([(.int .u64 (X.p.t)), (.int .u64 (X.p.since)), (.int .i64 (i)), (.slice a35 p.length c36)] : List Value) ++ hc x ++ ([(.bool true), (.bool (X.p.denied)), (.map X.p.dm)] : List Value)), rowC 5 1 (.slice a35 p.length c36) p.length (p.flatMap encB)] w58)
      have S60 := H59.pick [0, 2, 3, 4, 5, 6, 7] (by decide)
      refine hK57 _ _ S60 ?_
      clear hK57 K57
      refine h_fin (by kernel_rfl) ?_
      refine then_normal ?_
      refine w_seq ?_
      refine w_lit ?_
      refine wl_pure (wants0 rfl) (d := 4) (v := (.int .i64 (0))) rfl (by kernel_rfl) ?_
      refine w_nil ?_
      refine then_normal ?_
      refine w_ret ?_
      refine end1 rfl (res_tmp (v := (.int .i64 (0))) rfl) ?_
      have H61 := den_open (i := i) (X := X) (X' := (⟨(⟨X.p.n1, X.p.n2, X.p.h, X.p.t, X.p.since, i, a35, p.length, c36, x, true, (X.p.denied), X.p.dm⟩ : PlaceD), X.D, p⟩ : PlX)) (H59.pick [2, 7, 0, 1, 3, 4, 5, 6] (by decide)) hX rfl rfl
      exact .inr (.inr ⟨b26, b27, rfl, (⟨(⟨X.p.n1, X.p.n2, X.p.h, X.p.t, X.p.since, i, a35, p.length, c36, x, true, (X.p.denied), X.p.dm⟩ : PlaceD), X.D, p⟩ : PlX), rfl, b26, rfl, rfl, rfl, rfl, H61.pick [1, 2, 0, 3, 4] (by decide)⟩)

set_option maxRecDepth 100000 in
set_option maxHeartbeats 1000000 in
theorem rvAcked_any (w : World) (r mb : Nat) (F C rep : Int) (L : List (Int × PlX)) (hb : (cellC r 86 [.int .i64 F, .int .i64 C, .int .i64 rep, .map (some mb)]).ok w) (hm : MapAt w mb (Value.int .i64) encX L) (i : Int) (X : PlX) (hX : lookM L i = some X) :
    Calls Try.prog 15 #[(.pointer (some ⟨r, 0, none⟩)), (.int .i64 (i))] w fun e w' => e = .returned (.bool X.p.acked) ∧ Upd [] w w' := by
  have H := Sat.start0 w
  refine calls_fr Try.func15 rfl 12 rfl (Nat.le_of_ble_eq_true rfl) ?_
  refine w_seq ?_
  refine w_lit ?_
  refine wl_pure (wants0 rfl) (d := 4) (v := (.bool false)) rfl (by kernel_rfl) ?_
  refine w_nil ?_
  refine then_normal ?_
  refine w_seq ?_
  refine w_lit ?_
  refine wl_pure (wants0 rfl) (d := 5) (v := (.pointer (some ⟨r, 0, none⟩))) rfl (by kernel_rfl) ?_
  refine wl_pure (wants0 rfl) (d := 6) (v := (.pointer (some ⟨r, 0, none⟩))) rfl (by kernel_rfl) ?_
  refine wl_pure (wants0 rfl) (d := 7) (v := (.pointer (some ⟨r, 3, none⟩))) rfl (by kernel_rfl) ?_
  refine wl_pure (wants0 rfl) (d := 8) (v := (.map (some mb))) rfl (e_load1 rfl (by kernel_rfl) (H.roCell 0 rfl hb (fun h => h) rfl)) ?_
  refine wl_pure (wants0 rfl) (d := 9) (v := (.int .i64 (i))) rfl (by kernel_rfl) ?_
  refine wl_pure (wants0 rfl) (d := 10) (v := (.agg ⟨(([(.int .i64 (X.p.n1)), (.int .i64 (X.p.n2))] : List Value) ++ hc X.p.h ++ ([(.int .u64 (X.p.t)), (.int .u64 (X.p.since)), (.int .i64 (X.p.oi)), (.slice X.p.oa X.p.ol X.p.oc)] : List Value) ++ hc X.p.on ++ ([(.bool (X.p.acked)), (.bool (X.p.denied)), (.map X.p.dm)] : List Value))⟩)) rfl (e_lookup (kt := 3) (et := 89) (KeyTy.int (by kernel_rfl)) (by kernel_rfl) zeroX rfl (i : Int) rfl (H.roMap 0 rfl hm (fun h => h)) (by rw [hX]; rfl)) ?_
  refine wl_pure (wants0 rfl) (d := 11) (v := (.bool (X.p.acked))) rfl (by kernel_rfl) ?_
  refine wl_pure (wants0 rfl) (d := 4) (v := (.bool (X.p.acked))) rfl (by kernel_rfl) ?_
  refine w_nil ?_
  refine then_normal ?_
  refine w_ret ?_
  refine end1 rfl (res_tmp (v := (.bool (X.p.acked))) rfl) ?_
  exact ⟨rfl, H.upd 0 rfl [] (fun _ h => h.elim)⟩

set_option maxRecDepth 100000 in
set_option maxHeartbeats 1000000 in
theorem rvAckedN_any (w : World) (r mb : Nat) (F C rep : Int) (L : List (Int × PlX)) (hb : (cellC r 86 [.int .i64 F, .int .i64 C, .int .i64 rep, .map (some mb)]).ok w) (hm : MapAt w mb (Value.int .i64) encX L) (i : Int) (hX : lookM L i = none) :
    Calls Try.prog 15 #[(.pointer (some ⟨r, 0, none⟩)), (.int .i64 (i))] w fun e w' => e = .returned (.bool false) ∧ Upd [] w w' := by
  have H := Sat.start0 w
  refine calls_fr Try.func15 rfl 12 rfl (Nat.le_of_ble_eq_true rfl) ?_
  refine w_seq ?_
  refine w_lit ?_
  refine wl_pure (wants0 rfl) (d := 4) (v := (.bool false)) rfl (by kernel_rfl) ?_
  refine w_nil ?_
  refine then_normal ?_
  refine w_seq ?_
  refine w_lit ?_
  refine wl_pure (wants0 rfl) (d := 5) (v := (.pointer (some ⟨r, 0, none⟩))) rfl (by kernel_rfl) ?_
  refine wl_pure (wants0 rfl) (d := 6) (v := (.pointer (some ⟨r, 0, none⟩))) rfl (by kernel_rfl) ?_
  refine wl_pure (wants0 rfl) (d := 7) (v := (.pointer (some ⟨r, 3, none⟩))) rfl (by kernel_rfl) ?_
  refine wl_pure (wants0 rfl) (d := 8) (v := (.map (some mb))) rfl (e_load1 rfl (by kernel_rfl) (H.roCell 0 rfl hb (fun h => h) rfl)) ?_
  refine wl_pure (wants0 rfl) (d := 9) (v := (.int .i64 (i))) rfl (by kernel_rfl) ?_
  refine wl_pure (wants0 rfl) (d := 10) (v := (.agg ⟨(([(.int .i64 (0)), (.int .i64 (0))] : List Value) ++ hc hash0 ++ ([(.int .u64 (0)), (.int .u64 (0)), (.int .i64 (0)), (.slice none 0 0)] : List Value) ++ hc hash0 ++ ([(.bool false), (.bool false), (.map none)] : List Value))⟩)) rfl (e_lookup (kt := 3) (et := 89) (KeyTy.int (by kernel_rfl)) (by kernel_rfl) zeroX rfl (i : Int) rfl (H.roMap 0 rfl hm (fun h => h)) (by rw [hX]; rfl)) ?_
  refine wl_pure (wants0 rfl) (d := 11) (v := (.bool false)) rfl (by kernel_rfl) ?_
  refine wl_pure (wants0 rfl) (d := 4) (v := (.bool false)) rfl (by kernel_rfl) ?_
  refine w_nil ?_
  refine then_normal ?_
  refine w_ret ?_
  refine end1 rfl (res_tmp (v := (.bool false)) rfl) ?_
  exact ⟨rfl, H.upd 0 rfl [] (fun _ h => h.elim)⟩

set_option maxRecDepth 100000 in
set_option maxHeartbeats 1000000 in
theorem rvDenied_any (w : World) (r mb : Nat) (F C rep : Int) (L : List (Int × PlX)) (hb : (cellC r 86 [.int .i64 F, .int .i64 C, .int .i64 rep, .map (some mb)]).ok w) (hm : MapAt w mb (Value.int .i64) encX L) (i : Int) (X : PlX) (hX : lookM L i = some X) :
    Calls Try.prog 20 #[(.pointer (some ⟨r, 0, none⟩)), (.int .i64 (i))] w fun e w' => e = .returned (.bool X.p.denied) ∧ Upd [] w w' := by
  have H := Sat.start0 w
  refine calls_fr Try.func20 rfl 12 rfl (Nat.le_of_ble_eq_true rfl) ?_
  refine w_seq ?_
  refine w_lit ?_
  refine wl_pure (wants0 rfl) (d := 4) (v := (.bool false)) rfl (by kernel_rfl) ?_
  refine w_nil ?_
  refine then_normal ?_
  refine w_seq ?_
  refine w_lit ?_
  refine wl_pure (wants0 rfl) (d := 5) (v := (.pointer (some ⟨r, 0, none⟩))) rfl (by kernel_rfl) ?_
  refine wl_pure (wants0 rfl) (d := 6) (v := (.pointer (some ⟨r, 0, none⟩))) rfl (by kernel_rfl) ?_
  refine wl_pure (wants0 rfl) (d := 7) (v := (.pointer (some ⟨r, 3, none⟩))) rfl (by kernel_rfl) ?_
  refine wl_pure (wants0 rfl) (d := 8) (v := (.map (some mb))) rfl (e_load1 rfl (by kernel_rfl) (H.roCell 0 rfl hb (fun h => h) rfl)) ?_
  refine wl_pure (wants0 rfl) (d := 9) (v := (.int .i64 (i))) rfl (by kernel_rfl) ?_
  refine wl_pure (wants0 rfl) (d := 10) (v := (.agg ⟨(([(.int .i64 (X.p.n1)), (.int .i64 (X.p.n2))] : List Value) ++ hc X.p.h ++ ([(.int .u64 (X.p.t)), (.int .u64 (X.p.since)), (.int .i64 (X.p.oi)), (.slice X.p.oa X.p.ol X.p.oc)] : List Value) ++ hc X.p.on ++ ([(.bool (X.p.acked)), (.bool (X.p.denied)), (.map X.p.dm)] : List Value))⟩)) rfl (e_lookup (kt := 3) (et := 89) (KeyTy.int (by kernel_rfl)) (by kernel_rfl) zeroX rfl (i : Int) rfl (H.roMap 0 rfl hm (fun h => h)) (by rw [hX]; rfl)) ?_
  refine wl_pure (wants0 rfl) (d := 11) (v := (.bool (X.p.denied))) rfl (by kernel_rfl) ?_
  refine wl_pure (wants0 rfl) (d := 4) (v := (.bool (X.p.denied))) rfl (by kernel_rfl) ?_
  refine w_nil ?_
  refine then_normal ?_
  refine w_ret ?_
  refine end1 rfl (res_tmp (v := (.bool (X.p.denied))) rfl) ?_
  exact ⟨rfl, H.upd 0 rfl [] (fun _ h => h.elim)⟩

set_option maxRecDepth 100000 in
set_option maxHeartbeats 1000000 in
theorem rvDeniedN_any (w : World) (r mb : Nat) (F C rep : Int) (L : List (Int × PlX)) (hb : (cellC r 86 [.int .i64 F, .int .i64 C, .int .i64 rep, .map (some mb)]).ok w) (hm : MapAt w mb (Value.int .i64) encX L) (i : Int) (hX : lookM L i = none) :
    Calls Try.prog 20 #[(.pointer (some ⟨r, 0, none⟩)), (.int .i64 (i))] w fun e w' => e = .returned (.bool false) ∧ Upd [] w w' := by
  have H := Sat.start0 w
  refine calls_fr Try.func20 rfl 12 rfl (Nat.le_of_ble_eq_true rfl) ?_
  refine w_seq ?_
  refine w_lit ?_
  refine wl_pure (wants0 rfl) (d := 4) (v := (.bool false)) rfl (by kernel_rfl) ?_
  refine w_nil ?_
  refine then_normal ?_
  refine w_seq ?_
  refine w_lit ?_
  refine wl_pure (wants0 rfl) (d := 5) (v := (.pointer (some ⟨r, 0, none⟩))) rfl (by kernel_rfl) ?_
  refine wl_pure (wants0 rfl) (d := 6) (v := (.pointer (some ⟨r, 0, none⟩))) rfl (by kernel_rfl) ?_
  refine wl_pure (wants0 rfl) (d := 7) (v := (.pointer (some ⟨r, 3, none⟩))) rfl (by kernel_rfl) ?_
  refine wl_pure (wants0 rfl) (d := 8) (v := (.map (some mb))) rfl (e_load1 rfl (by kernel_rfl) (H.roCell 0 rfl hb (fun h => h) rfl)) ?_
  refine wl_pure (wants0 rfl) (d := 9) (v := (.int .i64 (i))) rfl (by kernel_rfl) ?_
  refine wl_pure (wants0 rfl) (d := 10) (v := (.agg ⟨(([(.int .i64 (0)), (.int .i64 (0))] : List Value) ++ hc hash0 ++ ([(.int .u64 (0)), (.int .u64 (0)), (.int .i64 (0)), (.slice none 0 0)] : List Value) ++ hc hash0 ++ ([(.bool false), (.bool false), (.map none)] : List Value))⟩)) rfl (e_lookup (kt := 3) (et := 89) (KeyTy.int (by kernel_rfl)) (by kernel_rfl) zeroX rfl (i : Int) rfl (H.roMap 0 rfl hm (fun h => h)) (by rw [hX]; rfl)) ?_
  refine wl_pure (wants0 rfl) (d := 11) (v := (.bool false)) rfl (by kernel_rfl) ?_
  refine wl_pure (wants0 rfl) (d := 4) (v := (.bool false)) rfl (by kernel_rfl) ?_
  refine w_nil ?_
  refine then_normal ?_
  refine w_ret ?_
  refine end1 rfl (res_tmp (v := (.bool false)) rfl) ?_
  exact ⟨rfl, H.upd 0 rfl [] (fun _ h => h.elim)⟩

set_option maxRecDepth 100000 in
set_option maxHeartbeats 1000000 in
theorem rvForget_any (w : World) (r mb : Nat) (F C rep : Int) (L : List (Int × PlX)) (hB : (sepC (rvL r mb F C rep L)).ok w) (i : Int) (X : PlX) (hX : lookM L i = some X) :
    Calls Try.prog 22 #[(.pointer (some ⟨r, 0, none⟩)), (.int .i64 (i))] w fun e w' => e = .returned (.bool true) ∧ Sat w [cellC r 86 [.int .i64 F, .int .i64 C, .int .i64 rep, .map (some mb)], mapC mb (Value.int .i64) encX (delM L i), denC (delM L i), restC w (sepC (rvL r mb F C rep L)).fp] w' := by
  have H : Sat w [cellC r 86 ([(.int .i64 (F)), (.int .i64 (C)), (.int .i64 (rep)), (.map (some mb))] : List Value), mapC mb (Value.int .i64) encX L, denC L, restC w (sepC (rvL r mb F C rep L)).fp] w := Sat.start (rvL r mb F C rep L) hB
  refine calls_fr Try.func22 rfl 22 rfl (Nat.le_of_ble_eq_true rfl) ?_
  refine w_seq ?_
  refine w_lit ?_
  refine wl_pure (wants0 rfl) (d := 4) (v := (.bool false)) rfl (by kernel_rfl) ?_
  refine w_nil ?_
  refine then_normal ?_
  refine w_seq ?_
  refine w_lit ?_
  refine wl_pure (wants0 rfl) (d := 8) (v := (.pointer (some ⟨r, 0, none⟩))) rfl (by kernel_rfl) ?_
  refine wl_pure (wants0 rfl) (d := 9) (v := (.pointer (some ⟨r, 0, none⟩))) rfl (by kernel_rfl) ?_
  refine wl_pure (wants0 rfl) (d := 10) (v := (.pointer (some ⟨r, 3, none⟩))) rfl (by kernel_rfl) ?_
  refine wl_pure (wants0 rfl) (d := 11) (v := (.map (some mb))) rfl (e_load1 rfl (by kernel_rfl) (H.cell 0 rfl rfl)) ?_
  refine wl_pure (wants0 rfl) (d := 12) (v := (.int .i64 (i))) rfl (by kernel_rfl) ?_
  refine wl_pure (wants0 rfl) (d := 13) (v := (.tuple #[(.agg ⟨(([(.int .i64 (X.p.n1)), (.int .i64 (X.p.n2))] : List Value) ++ hc X.p.h ++ ([(.int .u64 (X.p.t)), (.int .u64 (X.p.since)), (.int .i64 (X.p.oi)), (.slice X.p.oa X.p.ol X.p.oc)] : List Value) ++ hc X.p.on ++ ([(.bool (X.p.acked)), (.bool (X.p.denied)), (.map X.p.dm)] : List Value))⟩), (.bool true)])) rfl (e_lookup2 (kt := 3) (et := 89) (KeyTy.int (by kernel_rfl)) (by kernel_rfl) zeroX rfl (i : Int) rfl (H.at 1 rfl) (by rw [hX]; rfl) (by rw [hX]; rfl)) ?_
  refine wl_pure (wants0 rfl) (d := 7) (v := (.tuple #[(.agg ⟨(([(.int .i64 (X.p.n1)), (.int .i64 (X.p.n2))] : List Value) ++ hc X.p.h ++ ([(.int .u64 (X.p.t)), (.int .u64 (X.p.since)), (.int .i64 (X.p.oi)), (.slice X.p.oa X.p.ol X.p.oc)] : List Value) ++ hc X.p.on ++ ([(.bool (X.p.acked)), (.bool (X.p.denied)), (.map X.p.dm)] : List Value))⟩), (.bool true)])) rfl (by kernel_rfl) ?_
  refine wl_pure (wants0 rfl) (d := 14) (v := (.agg ⟨(([(.int .i64 (X.p.n1)), (.int .i64 (X.p.n2))] : List Value) ++ hc X.p.h ++ ([(.int .u64 (X.p.t)), (.int .u64 (X.p.since)), (.int .i64 (X.p.oi)), (.slice X.p.oa X.p.ol X.p.oc)] : List Value) ++ hc X.p.on ++ ([(.bool (X.p.acked)), (.bool (X.p.denied)), (.map X.p.dm)] : List Value))⟩)) rfl (by kernel_rfl) ?_
  refine wl_pure (wants0 rfl) (d := 15) (v := (.bool true)) rfl (by kernel_rfl) ?_
  refine wl_do (wants0 rfl) (fun K1 hK1 => ?_)
  refine d_alloc (zs := (([(.int .i64 (0)), (.int .i64 (0))] : List Value) ++ hc hash0 ++ ([(.int .u64 (0)), (.int .u64 (0)), (.int .i64 (0)), (.slice none 0 0)] : List Value) ++ hc hash0 ++ ([(.bool false), (.bool false), ((Go.Value.map none))] : List Value))) (z := (.agg ⟨(([(.int .i64 (0)), (.int .i64 (0))] : List Value) ++ hc hash0 ++ ([(.int .u64 (0)), (.int .u64 (0)), (.int .i64 (0)), (.slice none 0 0)] : List Value) ++ hc hash0 ++ ([(.bool false), (.bool false), ((Go.Value.map none))] : List Value))⟩)) rfl H (by kernel_rfl) (by kernel_rfl) ?_
  intro b2 w3 (H4 : Sat w [cellC r 86 ([(.int .i64 (F)), (.int .i64 (C)), (.int .i64 (rep)), (.map (some mb))] : List Value), mapC mb (Value.int .i64) encX L, denC L, restC w (sepC (rvL r mb F C rep L)).fp, cellC b2 89 (([(.int .i64 (0)), (.int .i64 (0))] : List Value) ++ hc hash0 ++ ([(.int .u64 (0)), (.int .u64 (0)), (.int .i64 (0)), (.slice none 0 0)] : List Value) ++ hc hash0 ++ ([(.bool false), (.bool false), ((Go.Value.map none))] : List Value))] w3)
  refine hK1 _ _ ?_
  clear hK1 K1
  refine wl_do (wants0 rfl) (fun K5 hK5 => ?_)
  refine d_storeX (vs := (([(.int .i64 (X.p.n1)), (.int .i64 (X.p.n2))] : List Value) ++ hc X.p.h ++ ([(.int .u64 (X.p.t)), (.int .u64 (X.p.since)), (.int .i64 (X.p.oi)), (.slice X.p.oa X.p.ol X.p.oc)] : List Value) ++ hc X.p.on ++ ([(.bool (X.p.acked)), (.bool (X.p.denied)), (.map X.p.dm)] : List Value))) (cs' := (([(.int .i64 (X.p.n1)), (.int .i64 (X.p.n2))] : List Value) ++ hc X.p.h ++ ([(.int .u64 (X.p.t)), (.int .u64 (X.p.since)), (.int .i64 (X.p.oi)), (.slice X.p.oa X.p.ol X.p.oc)] : List Value) ++ hc X.p.on ++ ([(.bool (X.p.acked)), (.bool (X.p.denied)), (.map X.p.dm)] : List Value))) rfl H4 4 rfl rfl rfl rfl (by kernel_rfl) (Nat.le_of_ble_eq_true (by kernel_rfl)) (Nat.le_of_ble_eq_true (by kernel_rfl)) (by kernel_rfl) (by kernel_rfl) ?_
  intro w6 (H7 : Sat w [cellC r 86 ([(.int .i64 (F)), (.int .i64 (C)), (.int .i64 (rep)), (.map (some mb))] : List Value), mapC mb (Value.int .i64) encX L, denC L, restC w (sepC (rvL r mb F C rep L)).fp, cellC b2 89 (([(.int .i64 (X.p.n1)), (.int .i64 (X.p.n2))] : List Value) ++ hc X.p.h ++ ([(.int .u64 (X.p.t)), (.int .u64 (X.p.since)), (.int .i64 (X.p.oi)), (.slice X.p.oa X.p.ol X.p.oc)] : List Value) ++ hc X.p.on ++ ([(.bool (X.p.acked)), (.bool (X.p.denied)), (.map X.p.dm)] : List Value))] w6)
  refine hK5 _ _ ?_
  clear hK5 K5
  refine wl_pure (wants0 rfl) (d := 6) (v := (.bool true)) rfl (by kernel_rfl) ?_
  refine w_nil ?_
  refine then_normal ?_
  refine w_seq ?_
  refine w_lit ?_
  refine wl_pure (wants0 rfl) (d := 16) (v := (.pointer (some ⟨r, 0, none⟩))) rfl (by kernel_rfl) ?_
  refine wl_pure (wants0 rfl) (d := 17) (v := (.pointer (some ⟨r, 0, none⟩))) rfl (by kernel_rfl) ?_
  refine wl_pure (wants0 rfl) (d := 18) (v := (.pointer (some ⟨r, 3, none⟩))) rfl (by kernel_rfl) ?_
  refine wl_pure (wants0 rfl) (d := 19) (v := (.map (some mb))) rfl (e_load1 rfl (by kernel_rfl) (H7.cell 0 rfl rfl)) ?_
  refine wl_pure (wants0 rfl) (d := 20) (v := (.int .i64 (i))) rfl (by kernel_rfl) ?_
  refine wl_do (wants0 rfl) (fun K9 hK9 => ?_)
  refine d_delete0 (kt := 3) (et := 89) rfl H7 1 rfl (KeyTy.int (by kernel_rfl)) (by kernel_rfl) rfl (i : Int) rfl ?_
  intro w10 (H11 : Sat w [cellC r 86 ([(.int .i64 (F)), (.int .i64 (C)), (.int .i64 (rep)), (.map (some mb))] : List Value), mapC mb (Value.int .i64) encX (delM L (i : Int)), denC L, restC w (sepC (rvL r mb F C rep L)).fp, cellC b2 89 (([(.int .i64 (X.p.n1)), (.int .i64 (X.p.n2))] : List Value) ++ hc X.p.h ++ ([(.int .u64 (X.p.t)), (.int .u64 (X.p.since)), (.int .i64 (X.p.oi)), (.slice X.p.oa X.p.ol X.p.oc)] : List Value) ++ hc X.p.on ++ ([(.bool (X.p.acked)), (.bool (X.p.denied)), (.map X.p.dm)] : List Value))] w10)
  refine hK9 _ _ ?_
  clear hK9 K9
  refine w_nil ?_
  refine then_normal ?_
  refine w_seq ?_
  refine w_lit ?_
  refine wl_pure (wants0 rfl) (d := 21) (v := (.bool true)) rfl (by kernel_rfl) ?_
  refine wl_pure (wants0 rfl) (d := 4) (v := (.bool true)) rfl (by kernel_rfl) ?_
  refine w_nil ?_
  refine then_normal ?_
  refine w_ret ?_
  refine end1 rfl (res_tmp (v := (.bool true)) rfl) ?_
  have H12 := den_del (i := i) H11 2 rfl
  exact ⟨rfl, H12.pick [0, 1, 2, 3] (by decide)⟩

set_option maxRecDepth 100000 in
set_option maxHeartbeats 1000000 in
theorem rvForgetN_any (w : World) (r mb : Nat) (F C rep : Int) (L : List (Int × PlX)) (hB : (sepC (rvL r mb F C rep L)).ok w) (i : Int) (hX : lookM L i = none) :
    Calls Try.prog 22 #[(.pointer (some ⟨r, 0, none⟩)), (.int .i64 (i))] w fun e w' => e = .returned (.bool false) ∧ Sat w [cellC r 86 [.int .i64 F, .int .i64 C, .int .i64 rep, .map (some mb)], mapC mb (Value.int .i64) encX (delM L i), denC (delM L i), restC w (sepC (rvL r mb F C rep L)).fp] w' := by
  have H : Sat w [cellC r 86 ([(.int .i64 (F)), (.int .i64 (C)), (.int .i64 (rep)), (.map (some mb))] : List Value), mapC mb (Value.int .i64) encX L, denC L, restC w (sepC (rvL r mb F C rep L)).fp] w := Sat.start (rvL r mb F C rep L) hB
  refine calls_fr Try.func22 rfl 22 rfl (Nat.le_of_ble_eq_true rfl) ?_
  refine w_seq ?_
  refine w_lit ?_
  refine wl_pure (wants0 rfl) (d := 4) (v := (.bool false)) rfl (by kernel_rfl) ?_
  refine w_nil ?_
  refine then_normal ?_
  refine w_seq ?_
  refine w_lit ?_
  refine wl_pure (wants0 rfl) (d := 8) (v := (.pointer (some ⟨r, 0, none⟩))) rfl (by kernel_rfl) ?_
  refine wl_pure (wants0 rfl) (d := 9) (v := (.pointer (some ⟨r, 0, none⟩))) rfl (by kernel_rfl) ?_
  refine wl_pure (wants0 rfl) (d := 10) (v := (.pointer (some ⟨r, 3, none⟩))) rfl (by kernel_rfl) ?_
  refine wl_pure (wants0 rfl) (d := 11) (v := (.map (some mb))) rfl (e_load1 rfl (by kernel_rfl) (H.cell 0 rfl rfl)) ?_
  refine wl_pure (wants0 rfl) (d := 12) (v := (.int .i64 (i))) rfl (by kernel_rfl) ?_
  refine wl_pure (wants0 rfl) (d := 13) (v := (.tuple #[(.agg ⟨(([(.int .i64 (0)), (.int .i64 (0))] : List Value) ++ hc hash0 ++ ([(.int .u64 (0)), (.int .u64 (0)), (.int .i64 (0)), (.slice none 0 0)] : List Value) ++ hc hash0 ++ ([(.bool false), (.bool false), (.map none)] : List Value))⟩), (.bool false)])) rfl (e_lookup2 (kt := 3) (et := 89) (KeyTy.int (by kernel_rfl)) (by kernel_rfl) zeroX rfl (i : Int) rfl (H.at 1 rfl) (by rw [hX]; rfl) (by rw [hX]; rfl)) ?_
  refine wl_pure (wants0 rfl) (d := 7) (v := (.tuple #[(.agg ⟨(([(.int .i64 (0)), (.int .i64 (0))] : List Value) ++ hc hash0 ++ ([(.int .u64 (0)), (.int .u64 (0)), (.int .i64 (0)), (.slice none 0 0)] : List Value) ++ hc hash0 ++ ([(.bool false), (.bool false), (.map none)] : List Value))⟩), (.bool false)])) rfl (by kernel_rfl) ?_
  refine wl_pure (wants0 rfl) (d := 14) (v := (.agg ⟨(([(.int .i64 (0)), (.int .i64 (0))] : List Value) ++ hc hash0 ++ ([(.int .u64 (0)), (.int .u64 (0)), (.int .i64 (0)), (.slice none 0 0)] : List Value) ++ hc hash0 ++ ([(.bool false), (.bool false), (.map none)] : List Value))⟩)) rfl (by kernel_rfl) ?_
  refine wl_pure (wants0 rfl) (d := 15) (v := (.bool false)) rfl (by kernel_rfl) ?_
  refine wl_do (wants0 rfl) (fun K1 hK1 => ?_)
  refine d_alloc (zs := (([(.int .i64 (0)), (.int .i64 (0))] : List Value) ++ hc hash0 ++ ([(.int .u64 (0)), (.int .u64 (0)), (.int .i64 (0)), (.slice none 0 0)] : List Value) ++ hc hash0 ++ ([(.bool false), (.bool false), ((Go.Value.map none))] : List Value))) (z := (.agg ⟨(([(.int .i64 (0)), (.int .i64 (0))] : List Value) ++ hc hash0 ++ ([(.int .u64 (0)), (.int .u64 (0)), (.int .i64 (0)), (.slice none 0 0)] : List Value) ++ hc hash0 ++ ([(.bool false), (.bool false), ((Go.Value.map none))] : List Value))⟩)) rfl H (by kernel_rfl) (by kernel_rfl) ?_
  intro b2 w3 (H4 : Sat w [cellC r 86 ([(.int .i64 (F)), (.int .i64 (C)), (.int .i64 (rep)), (.map (some mb))] : List Value), mapC mb (Value.int .i64) encX L, denC L, restC w (sepC (rvL r mb F C rep L)).fp, cellC b2 89 (([(.int .i64 (0)), (.int .i64 (0))] : List Value) ++ hc hash0 ++ ([(.int .u64 (0)), (.int .u64 (0)), (.int .i64 (0)), (.slice none 0 0)] : List Value) ++ hc hash0 ++ ([(.bool false), (.bool false), ((Go.Value.map none))] : List Value))] w3)
  refine hK1 _ _ ?_
  clear hK1 K1
  refine wl_do (wants0 rfl) (fun K5 hK5 => ?_)
  refine d_storeX (vs := (([(.int .i64 (0)), (.int .i64 (0))] : List Value) ++ hc hash0 ++ ([(.int .u64 (0)), (.int .u64 (0)), (.int .i64 (0)), (.slice none 0 0)] : List Value) ++ hc hash0 ++ ([(.bool false), (.bool false), (.map none)] : List Value))) (cs' := (([(.int .i64 (0)), (.int .i64 (0))] : List Value) ++ hc hash0 ++ ([(.int .u64 (0)), (.int .u64 (0)), (.int .i64 (0)), (.slice none 0 0)] : List Value) ++ hc hash0 ++ ([(.bool false), (.bool false), (.map none)] : List Value))) rfl H4 4 rfl rfl rfl rfl (by kernel_rfl) (Nat.le_of_ble_eq_true (by kernel_rfl)) (Nat.le_of_ble_eq_true (by kernel_rfl)) (by kernel_rfl) (by kernel_rfl) ?_
  intro w6 (H7 : Sat w [cellC r 86 ([(.int .i64 (F)), (.int .i64 (C)), (.int .i64 (rep)), (.map (some mb))] : List Value), mapC mb (Value.int .i64) encX L, denC L, restC w (sepC (rvL r mb F C rep L)).fp, cellC b2 89 (([(.int .i64 (0)), (.int .i64 (0))] : List Value) ++ hc hash0 ++ ([(.int .u64 (0)), (.int .u64 (0)), (.int .i64 (0)), (.slice none 0 0)] : List Value) ++ hc hash0 ++ ([(.bool false), (.bool false), (.map none)] : List Value))] w6)
  refine hK5 _ _ ?_
  clear hK5 K5
  refine wl_pure (wants0 rfl) (d := 6) (v := (.bool false)) rfl (by kernel_rfl) ?_
  refine w_nil ?_
  refine then_normal ?_
  refine w_seq ?_
  refine w_lit ?_
  refine wl_pure (wants0 rfl) (d := 16) (v := (.pointer (some ⟨r, 0, none⟩))) rfl (by kernel_rfl) ?_
  refine wl_pure (wants0 rfl) (d := 17) (v := (.pointer (some ⟨r, 0, none⟩))) rfl (by kernel_rfl) ?_
  refine wl_pure (wants0 rfl) (d := 18) (v := (.pointer (some ⟨r, 3, none⟩))) rfl (by kernel_rfl) ?_
  refine wl_pure (wants0 rfl) (d := 19) (v := (.map (some mb))) rfl (e_load1 rfl (by kernel_rfl) (H7.cell 0 rfl rfl)) ?_
  refine wl_pure (wants0 rfl) (d := 20) (v := (.int .i64 (i))) rfl (by kernel_rfl) ?_
  refine wl_do (wants0 rfl) (fun K9 hK9 => ?_)
  refine d_delete0 (kt := 3) (et := 89) rfl H7 1 rfl (KeyTy.int (by kernel_rfl)) (by kernel_rfl) rfl (i : Int) rfl ?_
  intro w10 (H11 : Sat w [cellC r 86 ([(.int .i64 (F)), (.int .i64 (C)), (.int .i64 (rep)), (.map (some mb))] : List Value), mapC mb (Value.int .i64) encX (delM L (i : Int)), denC L, restC w (sepC (rvL r mb F C rep L)).fp, cellC b2 89 (([(.int .i64 (0)), (.int .i64 (0))] : List Value) ++ hc hash0 ++ ([(.int .u64 (0)), (.int .u64 (0)), (.int .i64 (0)), (.slice none 0 0)] : List Value) ++ hc hash0 ++ ([(.bool false), (.bool false), (.map none)] : List Value))] w10)
  refine hK9 _ _ ?_
  clear hK9 K9
  refine w_nil ?_
  refine then_normal ?_
  refine w_seq ?_
  refine w_lit ?_
  refine wl_pure (wants0 rfl) (d := 21) (v := (.bool false)) rfl (by kernel_rfl) ?_
  refine wl_pure (wants0 rfl) (d := 4) (v := (.bool false)) rfl (by kernel_rfl) ?_
  refine w_nil ?_
  refine then_normal ?_
  refine w_ret ?_
  refine end1 rfl (res_tmp (v := (.bool false)) rfl) ?_
  have H12 := den_del (i := i) H11 2 rfl
  exact ⟨rfl, H12.pick [0, 1, 2, 3] (by decide)⟩

end Go.Proofs.Ytoiplcicbjimlaa
