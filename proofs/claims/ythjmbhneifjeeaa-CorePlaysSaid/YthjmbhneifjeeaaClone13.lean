/- WHAT IS PROVED: the contract of a tally's Clone. Conditions: stated with it. -/
import Derived.Test.YthjmbhneifjeeaaShort
import Derived.Test.YthjmbhneifjeeaaTallyAbs
import Derived.Test.YthjmbhneifjeeaaMaps
namespace Go.Proofs.Ythjmbhneifjeeaa
open Go.RowKit

set_option maxRecDepth 100000 in
set_option maxHeartbeats 1000000 in
theorem clV_raw (b : Nat) (es : Array MapEntry) (clock : Nat) (w : World) (hb : w.heap[b]? = some (.map es clock)) :
  Calls Try.prog 58 #[.map (some b)] w fun e w' => e = .returned (.map (some w.heap.size)) ∧ w' = w.alloc (.map es clock) := by
 have hq := fun w => run_eql_map_nil (P := Try.prog) w 110 120 4 (some b) Try.underlying110
 go_enter Try.func58, Try.ntmps58
 go_wp2
 rw [run_callFunc_extern Try.func62 (by kernel_rfl) (by kernel_rfl) (by kernel_rfl) (e := Extern.MapsClone.clone) (by kernel_rfl), run_maps_clone w 110 hb]
 simp only [Result.andThen]
 rw [Oper.upon_value]
 go_wp2
 rw [run_typeAssert_map _ 110 20 _ _ _ Try.underlying110]
 simp only [Result.andThen]
 rw [Oper.upon_value]
 go_wp2
 go_ret
 exact ⟨rfl, rfl⟩
/-- a map and its clone -/
theorem clV_any {κ ν : Type} {encK : κ → Value} {encV : ν → Value} {l : List (κ × ν)} (b : Nat) (w : World) (hm : MapAt w b encK encV l) :
  Calls Try.prog 58 #[.map (some b)] w fun e w' => ∃ c, e = .returned (.map (some c)) ∧ MapAt w' c encK encV l ∧ Upd [] w w' ∧ w.heap.size ≤ c := by
 obtain ⟨es, clock, hb, h1, h2⟩ := hm
 refine (clV_raw b es clock w hb).mono ?_
 rintro e w' ⟨rfl, rfl⟩
 exact ⟨w.heap.size, rfl, ⟨es, clock, heap_alloc_at w _, h1, h2⟩, (Upd.refl _ _).alloc _, Nat.le_refl _⟩

set_option maxRecDepth 100000 in
set_option maxHeartbeats 1000000 in
theorem clC_raw (b : Nat) (es : Array MapEntry) (clock : Nat) (w : World) (hb : w.heap[b]? = some (.map es clock)) :
  Calls Try.prog 59 #[.map (some b)] w fun e w' => e = .returned (.map (some w.heap.size)) ∧ w' = w.alloc (.map es clock) := by
 have hq := fun w => run_eql_map_nil (P := Try.prog) w 111 122 3 (some b) Try.underlying111
 go_enter Try.func59, Try.ntmps59
 go_wp2
 rw [run_callFunc_extern Try.func62 (by kernel_rfl) (by kernel_rfl) (by kernel_rfl) (e := Extern.MapsClone.clone) (by kernel_rfl), run_maps_clone w 111 hb]
 simp only [Result.andThen]
 rw [Oper.upon_value]
 go_wp2
 rw [run_typeAssert_map _ 111 20 _ _ _ Try.underlying111]
 simp only [Result.andThen]
 rw [Oper.upon_value]
 go_wp2
 go_ret
 exact ⟨rfl, rfl⟩
/-- a map and its clone -/
theorem clC_any {κ ν : Type} {encK : κ → Value} {encV : ν → Value} {l : List (κ × ν)} (b : Nat) (w : World) (hm : MapAt w b encK encV l) :
  Calls Try.prog 59 #[.map (some b)] w fun e w' => ∃ c, e = .returned (.map (some c)) ∧ MapAt w' c encK encV l ∧ Upd [] w w' ∧ w.heap.size ≤ c := by
 obtain ⟨es, clock, hb, h1, h2⟩ := hm
 refine (clC_raw b es clock w hb).mono ?_
 rintro e w' ⟨rfl, rfl⟩
 exact ⟨w.heap.size, rfl, ⟨es, clock, heap_alloc_at w _, h1, h2⟩, (Upd.refl _ _).alloc _, Nat.le_refl _⟩

set_option maxRecDepth 100000 in
set_option maxHeartbeats 1000000 in
theorem clT_raw (b : Nat) (es : Array MapEntry) (clock : Nat) (w : World) (hb : w.heap[b]? = some (.map es clock)) :
  Calls Try.prog 60 #[.map (some b)] w fun e w' => e = .returned (.map (some w.heap.size)) ∧ w' = w.alloc (.map es clock) := by
 have hq := fun w => run_eql_map_nil (P := Try.prog) w 112 124 3 (some b) Try.underlying112
 go_enter Try.func60, Try.ntmps60
 go_wp2
 rw [run_callFunc_extern Try.func62 (by kernel_rfl) (by kernel_rfl) (by kernel_rfl) (e := Extern.MapsClone.clone) (by kernel_rfl), run_maps_clone w 112 hb]
 simp only [Result.andThen]
 rw [Oper.upon_value]
 go_wp2
 rw [run_typeAssert_map _ 112 20 _ _ _ Try.underlying112]
 simp only [Result.andThen]
 rw [Oper.upon_value]
 go_wp2
 go_ret
 exact ⟨rfl, rfl⟩
/-- a map and its clone -/
theorem clT_any {κ ν : Type} {encK : κ → Value} {encV : ν → Value} {l : List (κ × ν)} (b : Nat) (w : World) (hm : MapAt w b encK encV l) :
  Calls Try.prog 60 #[.map (some b)] w fun e w' => ∃ c, e = .returned (.map (some c)) ∧ MapAt w' c encK encV l ∧ Upd [] w w' ∧ w.heap.size ≤ c := by
 obtain ⟨es, clock, hb, h1, h2⟩ := hm
 refine (clT_raw b es clock w hb).mono ?_
 rintro e w' ⟨rfl, rfl⟩
 exact ⟨w.heap.size, rfl, ⟨es, clock, heap_alloc_at w _, h1, h2⟩, (Upd.refl _ _).alloc _, Nat.le_refl _⟩

set_option maxRecDepth 100000 in
set_option maxHeartbeats 1000000 in
theorem clI_raw (b : Nat) (es : Array MapEntry) (clock : Nat) (w : World) (hb : w.heap[b]? = some (.map es clock)) :
  Calls Try.prog 61 #[.map (some b)] w fun e w' => e = .returned (.map (some w.heap.size)) ∧ w' = w.alloc (.map es clock) := by
 have hq := fun w => run_eql_map_nil (P := Try.prog) w 113 3 3 (some b) Try.underlying113
 go_enter Try.func61, Try.ntmps61
 go_wp2
 rw [run_callFunc_extern Try.func62 (by kernel_rfl) (by kernel_rfl) (by kernel_rfl) (e := Extern.MapsClone.clone) (by kernel_rfl), run_maps_clone w 113 hb]
 simp only [Result.andThen]
 rw [Oper.upon_value]
 go_wp2
 rw [run_typeAssert_map _ 113 20 _ _ _ Try.underlying113]
 simp only [Result.andThen]
 rw [Oper.upon_value]
 go_wp2
 go_ret
 exact ⟨rfl, rfl⟩
/-- a map and its clone -/
theorem clI_any {κ ν : Type} {encK : κ → Value} {encV : ν → Value} {l : List (κ × ν)} (b : Nat) (w : World) (hm : MapAt w b encK encV l) :
  Calls Try.prog 61 #[.map (some b)] w fun e w' => ∃ c, e = .returned (.map (some c)) ∧ MapAt w' c encK encV l ∧ Upd [] w w' ∧ w.heap.size ≤ c := by
 obtain ⟨es, clock, hb, h1, h2⟩ := hm
 refine (clI_raw b es clock w hb).mono ?_
 rintro e w' ⟨rfl, rfl⟩
 exact ⟨w.heap.size, rfl, ⟨es, clock, heap_alloc_at w _, h1, h2⟩, (Upd.refl _ _).alloc _, Nat.le_refl _⟩

set_option maxRecDepth 100000 in
set_option maxHeartbeats 1000000 in
theorem tallyClone_any (w : World) (t hb cb ab lb : Nat) (T : TallyS) (hT : (tallyC t hb cb ab lb T).ok w) :
  Calls Try.prog 47 #[(.pointer (some ⟨t, 0, none⟩))] w fun e w' => ∃ t2 hb2 cb2 ab2 lb2, e = .returned (.pointer (some ⟨t2, 0, none⟩)) ∧ (tallyC t2 hb2 cb2 ab2 lb2 T).ok w' ∧ Upd [] w w' ∧ ∀ b, (tallyC t2 hb2 cb2 ab2 lb2 T).fp b → w.heap.size ≤ b := by
 obtain ⟨hcell, hm1, hm2, hm3, hm4⟩ := tallyC_parts hT
 have H := Sat.start0 w
 refine calls_fr Try.func47 rfl 29 rfl (Nat.le_of_ble_eq_true rfl) ?_
 refine w_seq ?_
 refine w_lit ?_
 refine wv 2 (.pointer none) ?_
 refine w_nil ?_
 refine then_normal ?_
 refine w_seq ?_
 refine h_start H [restC w (fun _ => False)] 27 rfl (by kernel_rfl) (fun Hx => (Hx.pick [0] (by decide))) ?_
 intro w1 H2 S3
 refine hv0 0 S3 3 (pt t 0) ?_
 refine hv0 1 S3 4 (pt t 0) ?_
 refine hv0 2 S3 5 (pt t 0) ?_
 refine hv0 3 S3 6 (.agg ⟨([(.int .i64 (T.f)), (.int .i64 (T.c))] : List Value)⟩) ?_ (he := fun _ H' => (e_loadN (vs := ([(.int .i64 (T.f)), (.int .i64 (T.c))] : List Value)) rfl (by kernel_rfl) (by kernel_rfl) (by exact Nat.le_of_ble_eq_true (by kernel_rfl)) (H'.roCells 0 rfl hcell (fun h => h)) (by kernel_rfl)))
 refine hv0 4 S3 7 (pt t 0) ?_
 refine hv0 5 S3 8 (pt t 0) ?_
 refine hv0 6 S3 9 (pt t 2) ?_
 refine hv0 7 S3 10 (.map (some hb)) ?_ (he := fun _ H' => (e_load1 rfl (by kernel_rfl) (H'.roCell 0 rfl hcell (fun h => h) rfl)))
 refine hv0 9 S3 12 (pt t 0) ?_
 refine hv0 10 S3 13 (pt t 0) ?_
 refine hv0 11 S3 14 (pt t 3) ?_
 refine hv0 12 S3 15 (.map (some cb)) ?_ (he := fun _ H' => (e_load1 rfl (by kernel_rfl) (H'.roCell 0 rfl hcell (fun h => h) rfl)))
 refine hv0 14 S3 17 (pt t 0) ?_
 refine hv0 15 S3 18 (pt t 0) ?_
 refine hv0 16 S3 19 (pt t 4) ?_
 refine hv0 17 S3 20 (.map (some ab)) ?_ (he := fun _ H' => (e_load1 rfl (by kernel_rfl) (H'.roCell 0 rfl hcell (fun h => h) rfl)))
 refine hv0 19 S3 22 (pt t 0) ?_
 refine hv0 20 S3 23 (pt t 0) ?_
 refine hv0 21 S3 24 (pt t 5) ?_
 refine hv0 22 S3 25 (.map (some lb)) ?_ (he := fun _ H' => (e_load1 rfl (by kernel_rfl) (H'.roCell 0 rfl hcell (fun h => h) rfl)))
 refine h_do 8 rfl (by kernel_rfl) (wants0 rfl) (fun K4 hK4 => ?_)
 refine d_call (d := 11) rfl (by kernel_rfl) (clV_any hb w1 (H2.roMap 0 rfl hm1 (fun h => h))) ?_
 rintro _ w6 ⟨c5, rfl, k8, u9, f10⟩
 have H7 : Sat w [restC w (fun _ => False), mapC c5 voterV Value.bool T.hv] w6 := H2.addU u9 k8 (fun b hb => Nat.le_trans f10 (Nat.le_of_eq hb.symm))
 refine ⟨_, rfl, ?_⟩
 have S11 := H7.pick [0] (by decide)
 refine hK4 _ _ S11 ?_
 clear hK4 K4
 refine h_do 13 rfl (by kernel_rfl) (wants0 rfl) (fun K12 hK12 => ?_)
 refine d_call (d := 16) rfl (by kernel_rfl) (clC_any cb w6 (H7.roMap 0 rfl hm2 (fun h => h))) ?_
 rintro _ w14 ⟨c13, rfl, k16, u17, f18⟩
 have H15 : Sat w [restC w (fun _ => False), mapC c5 voterV Value.bool T.hv, mapC c13 choiceV (Value.int .i64) T.count] w14 := H7.addU u17 k16 (fun b hb => Nat.le_trans f18 (Nat.le_of_eq hb.symm))
 refine ⟨_, rfl, ?_⟩
 have S19 := H15.pick [0] (by decide)
 refine hK12 _ _ S19 ?_
 clear hK12 K12
 refine h_do 18 rfl (by kernel_rfl) (wants0 rfl) (fun K20 hK20 => ?_)
 refine d_call (d := 21) rfl (by kernel_rfl) (clT_any ab w14 (H15.roMap 0 rfl hm3 (fun h => h))) ?_
 rintro _ w22 ⟨c21, rfl, k24, u25, f26⟩
 have H23 : Sat w [restC w (fun _ => False), mapC c5 voterV Value.bool T.hv, mapC c13 choiceV (Value.int .i64) T.count, mapC c21 turnV (Value.int .i64) T.all] w22 := H15.addU u25 k24 (fun b hb => Nat.le_trans f26 (Nat.le_of_eq hb.symm))
 refine ⟨_, rfl, ?_⟩
 have S27 := H23.pick [0] (by decide)
 refine hK20 _ _ S27 ?_
 clear hK20 K20
 refine h_do 23 rfl (by kernel_rfl) (wants0 rfl) (fun K28 hK28 => ?_)
 refine d_call (d := 26) rfl (by kernel_rfl) (clI_any lb w22 (H23.roMap 0 rfl hm4 (fun h => h))) ?_
 rintro _ w30 ⟨c29, rfl, k32, u33, f34⟩
 have H31 : Sat w [restC w (fun _ => False), mapC c5 voterV Value.bool T.hv, mapC c13 choiceV (Value.int .i64) T.count, mapC c21 turnV (Value.int .i64) T.all, mapC c29 (Value.int .i64) (Value.int .i64) T.last] w30 := H23.addU u33 k32 (fun b hb => Nat.le_trans f34 (Nat.le_of_eq hb.symm))
 refine ⟨_, rfl, ?_⟩
 have S35 := H31.pick [0] (by decide)
 refine hK28 _ _ S35 ?_
 clear hK28 K28
 refine h_val 24 rfl (by kernel_rfl) (by kernel_rfl) (by kernel_rfl) (fun _ _ _ h => h) S35 (wants0 rfl) (d := 27) (v := (.agg ⟨([(.int .i64 (T.f)), (.int .i64 (T.c)), (.map (some c5)), (.map (some c13)), (.map (some c21)), (.map (some c29))] : List Value)⟩)) rfl (fun _ H' => (by kernel_rfl)) ?_
 refine h_do 25 rfl (by kernel_rfl) (wants0 rfl) (fun K36 hK36 => ?_)
 refine d_box (vs := ([(.int .i64 (T.f)), (.int .i64 (T.c)), (.map (some c5)), (.map (some c13)), (.map (some c21)), (.map (some c29))] : List Value)) rfl H31 rfl rfl ?_
 intro b37 w38 (H39 : Sat w [restC w (fun _ => False), mapC c5 voterV Value.bool T.hv, mapC c13 choiceV (Value.int .i64) T.count, mapC c21 turnV (Value.int .i64) T.all, mapC c29 (Value.int .i64) (Value.int .i64) T.last, cellC b37 115 ([(.int .i64 (T.f)), (.int .i64 (T.c)), (.map (some c5)), (.map (some c13)), (.map (some c21)), (.map (some c29))] : List Value)] w38)
 have S40 := H39.pick [0] (by decide)
 refine hK36 _ _ S40 ?_
 clear hK36 K36
 refine hv0 26 S40 2 (pt b37 0) ?_
 refine h_fin (by kernel_rfl) ?_
 refine then_normal ?_
 refine w_ret ?_
 refine end1 rfl (res_tmp (v := (pt b37 0)) rfl) ?_
 exact ⟨b37, c5, c13, c21, c29, rfl, H39.fin [5, 1, 2, 3, 4] (by decide) rfl, H39.upd 0 rfl [] (fun _ h => h.elim), H39.freshS 0 rfl (fun _ h => h) [5, 1, 2, 3, 4] rfl rfl⟩

theorem talClone_any (w : World) (t hb cb ab lb : Nat) (f c : Int) (L : List VoteD) (hT : (talC t hb cb ab lb f c L).ok w) :
  Calls Try.prog 47 #[.pointer (some ⟨t, 0, none⟩)] w fun e w' => ∃ t2 hb2 cb2 ab2 lb2, e = .returned (.pointer (some ⟨t2, 0, none⟩)) ∧ (talC t2 hb2 cb2 ab2 lb2 f c L).ok w' ∧ Upd [] w w' ∧ ∀ b, (talC t2 hb2 cb2 ab2 lb2 f c L).fp b → w.heap.size ≤ b := by
 obtain ⟨T, h1, h2, h3, h4⟩ := hT
 refine (tallyClone_any w t hb cb ab lb T h4).mono ?_
 rintro e w' ⟨t2, hb2, cb2, ab2, lb2, rfl, k1, k2, k3⟩
 exact ⟨t2, hb2, cb2, ab2, lb2, rfl, ⟨T, h1, h2, h3, k1⟩, k2, fun b hb => k3 b (tallyC_of hb)⟩
end Go.Proofs.Ythjmbhneifjeeaa
