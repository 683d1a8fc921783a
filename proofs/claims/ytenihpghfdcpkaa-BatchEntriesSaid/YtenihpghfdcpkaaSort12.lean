/- WHAT IS PROVED: slices.SortFunc over at most twelve entries, with the function that Entries hands it: a contract. Conditions: stated with each. -/
import Derived.Test.YtenihpghfdcpkaaLaid12
import Derived.Test.YtenihpghfdcpkaaBatD
import Derived.Test.YtenihpghfdcpkaaLists
import Derived.Sort.Grow
import Derived.Deep.Draws
namespace Go.Proofs.Ytenihpghfdcpkaa
open Go.RowKit Go.Shelf Go.Sort
set_option maxHeartbeats 2000000 in
theorem ins0_any (p : Option Addr) (cap : Nat) (fv : Value) (w : World) : Calls Try.prog 58 #[.slice p 0 cap, .int .i64 0, .int .i64 0, fv] w fun e w' => e = .returned (.tuple #[]) ∧ w' = w := by
  go_enter Try.func58, Try.ntmps58
  go_wp2
  refine wp_loop_rounds 1 ?_
  rw [rounds_succ]
  go_wp2
  go_end0
  exact ⟨rfl, rfl⟩
set_option maxHeartbeats 2000000 in
theorem pdq0_any (p : Option Addr) (cap : Nat) (lim : Int) (fv : Value) (w : World) : Calls Try.prog 43 #[.slice p 0 cap, .int .i64 0, .int .i64 0, .int .i64 lim, fv] w fun e w' => e = .returned (.tuple #[]) ∧ w' = w := by
  have hi := fun W => ins0_any p cap fv W
  go_enter Try.func43, Try.ntmps43
  go_wp2
  refine wp_loop_rounds 1 ?_
  rw [rounds_succ]
  go_wp2_with (go_at_call 58; refine (hi _).mono ?_; rintro e w' ⟨rfl, rfl⟩)
  (try simp only [Exit.inBlock, Exit.then]); refine bodyPost_ret (results_none rfl _ _ _) rfl ?_
  exact ⟨rfl, rfl⟩
set_option maxHeartbeats 2000000 in
theorem sort0_any (p : Option Addr) (cap : Nat) (fv : Value) (w : World) : Calls Try.prog 22 #[.slice p 0 cap, fv] w fun e w' => e = .returned (.tuple #[]) ∧ w' = w := by
  have hp := fun lim W => pdq0_any p cap lim fv W
  have hl : ∀ W, Calls Try.prog 44 #[.int .u64 0] W fun e w' => e = .returned (.int .i64 (Lib.bitLen 0 : Nat)) ∧ w' = W := fun W => Any.bits_Len bitsL 0 W (by omega) (by omega)
  go_enter Try.func22, Try.ntmps22
  go_wp2_with (first | (go_at_call 44; refine (hl _).mono ?_; rintro e w' ⟨rfl, rfl⟩) | (go_at_call 43; refine (hp _ _).mono ?_; rintro e w' ⟨rfl, rfl⟩))
  go_end0
  exact ⟨rfl, rfl⟩
end Go.Proofs.Ytenihpghfdcpkaa
namespace Go.Proofs.Ytenihpghfdcpkaa
open Go.RowKit Go.Sort
set_option maxRecDepth 100000
def sgn3 (a b : Int) : Int := if a < b then -1 else if a > b then 1 else 0
set_option maxHeartbeats 1000000 in
theorem nanu64_any (a : Int) (W : World) : Calls Try.prog 45 #[.int .u64 a] W fun e w' => e = .returned (.bool false) ∧ w' = W := by
  go_enter Try.func45, Try.ntmps45
  go_wp2
  go_ret
  exact ⟨by simp, rfl⟩
set_option maxHeartbeats 1000000 in
theorem cmpu64_any (a b : Int) (W : World) : Calls Try.prog 25 #[.int .u64 a, .int .u64 b] W fun e w' => e = .returned (.int .i64 (sgn3 a b)) ∧ w' = W := by
  have hn := fun a W => nanu64_any a W
  go_enter Try.func25, Try.ntmps25
  go_wp2_with (go_at_call 45; refine (hn _ _).mono ?_; rintro e w' ⟨rfl, rfl⟩)
  all_goals (go_ret; exact ⟨by unfold sgn3; split <;> first | rfl | (split <;> first | rfl | omega) | omega, rfl⟩)
set_option maxHeartbeats 1000000 in
theorem nani64_any (a : Int) (W : World) : Calls Try.prog 68 #[.int .i64 a] W fun e w' => e = .returned (.bool false) ∧ w' = W := by
  go_enter Try.func68, Try.ntmps68
  go_wp2
  go_ret
  exact ⟨by simp, rfl⟩
set_option maxHeartbeats 1000000 in
theorem cmpi64_any (a b : Int) (W : World) : Calls Try.prog 46 #[.int .i64 a, .int .i64 b] W fun e w' => e = .returned (.int .i64 (sgn3 a b)) ∧ w' = W := by
  have hn := fun a W => nani64_any a W
  go_enter Try.func46, Try.ntmps46
  go_wp2_with (go_at_call 68; refine (hn _ _).mono ?_; rintro e w' ⟨rfl, rfl⟩)
  all_goals (go_ret; exact ⟨by unfold sgn3; split <;> first | rfl | (split <;> first | rfl | omega) | omega, rfl⟩)
def or2 (a b : Int) : Int := if a = 0 then b else a
set_option maxHeartbeats 2000000 in
theorem or2_any (a b : Int) (B : Nat) (W : World) (h0 : W.cell? ⟨B, 0, none⟩ = some (.int .i64 a)) (h1 : W.cell? ⟨B, 1, none⟩ = some (.int .i64 b)) : Calls Try.prog 24 #[.slice (some ⟨B, 0, none⟩) 2 2] W fun e w' => e = .returned (.int .i64 (or2 a b)) ∧ w' = W := by
  go_enter Try.func24, Try.ntmps24
  go_wp2
  refine wp_loop_rounds 3 ?_
  rw [rounds_succ]
  go_wp2
  · go_ret
    exact ⟨by unfold or2; simp_all, rfl⟩
  · rw [rounds_succ]
    go_wp2
    · go_ret
      exact ⟨by unfold or2; simp_all, rfl⟩
    · rw [rounds_succ]
      go_wp2
      go_ret
      exact ⟨by unfold or2; simp_all, rfl⟩
end Go.Proofs.Ytenihpghfdcpkaa
namespace Go.Proofs.Ytenihpghfdcpkaa
open Go.RowKit
/-- w' is w with blocks more, some draws later -/
def Gr (w w' : World) : Prop := ∃ q os', w' = Sort.grow (w.drewN q) os'
theorem Gr.refl (w : World) : Gr w w := ⟨0, #[], by simp [Sort.grow, World.drewN]⟩
theorem Gr.alloc (w : World) (o : Obj) : Gr w (w.alloc o) := ⟨0, #[o], by rw [Sort.alloc_eq_grow]; rfl⟩
theorem Gr.drew (w : World) : Gr w w.drew := ⟨1, #[], by rw [Sort.grow_empty]; rfl⟩
theorem Gr.trans {a b c : World} (h : Gr a b) (k : Gr b c) : Gr a c := by
  obtain ⟨q, os, rfl⟩ := h
  obtain ⟨q2, os2, rfl⟩ := k
  exact ⟨q + q2, os ++ os2, by simp [Sort.grow, World.drewN, Array.append_assoc, Nat.add_assoc]⟩
section
variable {P : Program} {ops : Array Oper} {n : Nat} {f : Nat → Value} {w w0 : World} {dst : Option Tmp} {ty : TypeId} {pos : String} {aft : Array Edge} {gd : Option (Nat × Bool)} {K : Act → World → Prop} {Q : Exit → Act → World → Prop} {G : List Ck}
theorem d_boxG {T : TypeId} {x : Operand} {v : Value} {vs : List Value} {d : Nat} (hd : dst = some d) (H : Sat w0 G w) (hx : ev n f x = v) (hvs : v.cells = ⟨vs⟩)
    (k : ∀ b w', Sat w0 (G ++ [cellC b T vs]) w' → Gr w w' → K (fr n (upd f d (.pointer (some ⟨b, 0, none⟩)))) w') : WO P ⟨dst, .box T x, ty, pos, aft, gd⟩ K Q n f w := by
  refine d_val hd (e_box hx) (k _ _ ?_ (Gr.alloc _ _))
  rw [hvs]
  exact H.add ⟨rfl, rfl, rfl, by simp⟩ (fun b hb => Below.heap_alloc w _ b hb) (heap_alloc_at w _) (fun b hb => Nat.le_of_eq hb.symm)
theorem h_startG {id : Nat} {l : List Oper} (H : Sat w0 G w) (Gs : List Ck) (m : Nat) (hl : l.length = m) (hm : P.follows .mixedOrders = true) (hs : Sat w0 G w.drew → Sat w0 Gs w.drew) (k : ∀ w1, Sat w0 G w1 → Sat w0 Gs w1 → Gr w w1 → WH P l.toArray Q (Sat w0 Gs) m (Array.replicate m false) n f w1) :
    WC P (Code.region id l.toArray true) Q n f w := by
  subst hl
  exact ⟨wp_region_held (S := Sat w0 Gs) hm (by simpa using (k w.drew H.drew (hs H.drew) (Gr.drew _)).h)⟩
theorem d_buildSliceG {T e : TypeId} {size bytes N : Nat} {parts : Array (Nat × Operand)} {d : Nat} (hd : dst = some d) (H : Sat w0 G w) (hR : rowTy P T e size bytes = true) {z : Value} (hz : (P.info? e).bind (·.zero) = some z) {pvs : List (Nat × Value)} {vs : List Value}
    (hp : (parts.map fun q => (q.1, ev n f q.2)).toList = pvs) (hf : Instr.fill (fun j => some (j * size, size)) ((Array.range (N * size)).map fun q => z.cells[q % z.cells.size]!) pvs = some ⟨vs⟩) (hl : Nat.beq vs.length (N * size) = true) (hN : Nat.blt 0 N = true) (hsz : Nat.ble (N * size) 16777216 = true)
    (kk : ∀ b w', Sat w0 (G ++ [rowC e size (.slice (some ⟨b, 0, none⟩) N N) N vs]) w' → Gr w w' → K (fr n (upd f d (.slice (some ⟨b, 0, none⟩) N N))) w') : WO P ⟨dst, .buildSlice T N parts, ty, pos, aft, gd⟩ K Q n f w := by
  obtain ⟨i, z', ht, hi, hz', hs, hby, hzs, h0⟩ := rowTy_at hR
  have hl := Nat.eq_of_beq_eq_true hl
  have hsz := Nat.le_of_ble_eq_true hsz
  have hN : 0 < N := by simpa [Nat.blt_eq] using hN
  have hpos : 0 < N * size := Nat.mul_pos hN h0
  have hr : (execOp (ev n f) ⟨dst, .buildSlice T N parts, ty, pos, aft, gd⟩).run P w = .ok (.value (.slice (some ⟨w.heap.size, 0, none⟩) N N)) (w.alloc (.cells ⟨vs⟩ e (0, 0))) := by
    have hp2 : (parts.map fun q => (q.1, ev n f q.2)).toList = pvs := hp
    simp only [execOp, Instr.buildSlice]
    have hzv := run_zeroValue (P := P) (w := w) hz
    have h1 : ¬ 16777216 < N * size := by omega
    have h2 : ¬ N * size = 0 := by omega
    simp only [hp2]
    simp [run_underlying ht, sizeOf, typeInfo, hi, hs, Result.andThen, h1, h2, hzv, hf, newRow]
  refine d_val hd hr (kk _ _ (H.add ⟨rfl, rfl, rfl, by simp⟩ (fun b hb => Below.heap_alloc w _ b hb) ?_ (fun b hb => ?_)) (Gr.alloc _ _))
  · refine ⟨hl, .inr ⟨w.heap.size, N, ⟨vs⟩, rfl, Nat.zero_le _, heap_alloc_at w _, Nat.le_refl _, ?_, by simpa using hl, ?_⟩⟩
    · have := Nat.le_mul_of_pos_right N h0
      unfold maxLen; omega
    · rw [← hl]; simp
  · simp [rowC, Value.ownBlock] at hb; omega
end
end Go.Proofs.Ytenihpghfdcpkaa
namespace Go.Proofs.Ytenihpghfdcpkaa
open Go.RowKit

set_option maxRecDepth 100000 in
set_option maxHeartbeats 400000 in
theorem before_any (w : World) (a b c d : Int) :
    Calls Try.prog 26 #[(.agg ⟨([(.int .i64 (a)), (.int .i64 (b))] : List Value)⟩), (.agg ⟨([(.int .i64 (c)), (.int .i64 (d))] : List Value)⟩)] w fun e w' => e = .returned (.int .i64 (or2 (sgn3 a c) (sgn3 b d))) ∧ Upd [] w w' ∧ Gr w w' := by
  have H := Sat.start0 w
  refine calls_fr Try.func26 rfl 17 rfl (Nat.le_of_ble_eq_true rfl) ?_
  refine w_seq ?_
  refine w_lit ?_
  refine wl_do (wants0 rfl) (fun K1 hK1 => ?_)
  refine d_boxG (vs := ([(.int .i64 (a)), (.int .i64 (b))] : List Value)) rfl H rfl rfl ?_
  intro b2 w3 (H4 : Sat w [restC w (fun _ => False), cellC b2 35 ([(.int .i64 (a)), (.int .i64 (b))] : List Value)] w3) g5
  refine hK1 _ _ ?_
  clear hK1 K1
  refine wl_do (wants0 rfl) (fun K6 hK6 => ?_)
  refine d_boxG (vs := ([(.int .i64 (c)), (.int .i64 (d))] : List Value)) rfl H4 rfl rfl ?_
  intro b7 w8 (H9 : Sat w [restC w (fun _ => False), cellC b2 35 ([(.int .i64 (a)), (.int .i64 (b))] : List Value), cellC b7 35 ([(.int .i64 (c)), (.int .i64 (d))] : List Value)] w8) g10
  have gr11 := g5.trans g10
  refine hK6 _ _ ?_
  clear hK6 K6
  refine wl_pure (wants0 rfl) (d := 4) (v := (.int .i64 (0))) rfl (by kernel_rfl) ?_
  refine w_nil ?_
  refine then_normal ?_
  refine w_seq ?_
  refine h_startG H9 [restC w (fun _ => False), cellC b2 35 ([(.int .i64 (a)), (.int .i64 (b))] : List Value), cellC b7 35 ([(.int .i64 (c)), (.int .i64 (d))] : List Value)] 13 rfl (by kernel_rfl) (fun Hx => (Hx.pick [0, 1, 2] (by decide))) ?_
  intro w12 H13 S14 g15
  have gr16 := gr11.trans g15
  refine h_val 0 rfl (by kernel_rfl) (by kernel_rfl) (by kernel_rfl) (fun _ _ _ h => h) S14 (wants0 rfl) (d := 5) (v := (.pointer (some ⟨b2, 0, none⟩))) rfl (fun _ H' => (by kernel_rfl)) ?_
  refine h_val 1 rfl (by kernel_rfl) (by kernel_rfl) (by kernel_rfl) (fun _ _ _ h => h) S14 (wants0 rfl) (d := 6) (v := (.int .i64 (a))) rfl (fun _ H' => (e_load1 rfl (by kernel_rfl) (H'.cell 1 rfl rfl))) ?_
  refine h_val 2 rfl (by kernel_rfl) (by kernel_rfl) (by kernel_rfl) (fun _ _ _ h => h) S14 (wants0 rfl) (d := 7) (v := (.pointer (some ⟨b7, 0, none⟩))) rfl (fun _ H' => (by kernel_rfl)) ?_
  refine h_val 3 rfl (by kernel_rfl) (by kernel_rfl) (by kernel_rfl) (fun _ _ _ h => h) S14 (wants0 rfl) (d := 8) (v := (.int .i64 (c))) rfl (fun _ H' => (e_load1 rfl (by kernel_rfl) (H'.cell 2 rfl rfl))) ?_
  refine h_val 5 rfl (by kernel_rfl) (by kernel_rfl) (by kernel_rfl) (fun _ _ _ h => h) S14 (wants0 rfl) (d := 10) (v := (.pointer (some ⟨b2, 1, none⟩))) rfl (fun _ H' => (by kernel_rfl)) ?_
  refine h_val 6 rfl (by kernel_rfl) (by kernel_rfl) (by kernel_rfl) (fun _ _ _ h => h) S14 (wants0 rfl) (d := 11) (v := (.int .i64 (b))) rfl (fun _ H' => (e_load1 rfl (by kernel_rfl) (H'.cell 1 rfl rfl))) ?_
  refine h_val 7 rfl (by kernel_rfl) (by kernel_rfl) (by kernel_rfl) (fun _ _ _ h => h) S14 (wants0 rfl) (d := 12) (v := (.pointer (some ⟨b7, 1, none⟩))) rfl (fun _ H' => (by kernel_rfl)) ?_
  refine h_val 8 rfl (by kernel_rfl) (by kernel_rfl) (by kernel_rfl) (fun _ _ _ h => h) S14 (wants0 rfl) (d := 13) (v := (.int .i64 (d))) rfl (fun _ H' => (e_load1 rfl (by kernel_rfl) (H'.cell 2 rfl rfl))) ?_
  refine h_do 4 rfl (by kernel_rfl) (wants0 rfl) (fun K17 hK17 => ?_)
  refine d_call (d := 9) rfl (by kernel_rfl) (cmpi64_any a c w12) ?_
  rintro _ w18 ⟨rfl, hw18⟩
  obtain rfl := hw18.symm
  refine ⟨_, rfl, ?_⟩
  have S19 := H13.pick [0, 1, 2] (by decide)
  refine hK17 _ _ S19 ?_
  clear hK17 K17
  refine h_do 9 rfl (by kernel_rfl) (wants0 rfl) (fun K20 hK20 => ?_)
  refine d_call (d := 14) rfl (by kernel_rfl) (cmpi64_any b d w12) ?_
  rintro _ w21 ⟨rfl, hw21⟩
  obtain rfl := hw21.symm
  refine ⟨_, rfl, ?_⟩
  have S22 := H13.pick [0, 1, 2] (by decide)
  refine hK20 _ _ S22 ?_
  clear hK20 K20
  refine h_do 10 rfl (by kernel_rfl) (wants0 rfl) (fun K23 hK23 => ?_)
  refine d_buildSliceG (e := 3) (size := 1) (bytes := 8) (z := (.int .i64 (0))) (pvs := [(0, (.int .i64 (sgn3 a c))), (1, (.int .i64 (sgn3 b d)))]) (vs := ([(.int .i64 (sgn3 a c)), (.int .i64 (sgn3 b d))] : List Value)) rfl H13 (by kernel_rfl) (by kernel_rfl) (by kernel_rfl) (by kernel_rfl) (by kernel_rfl) rfl rfl ?_
  intro b24 w25 (H26 : Sat w [restC w (fun _ => False), cellC b2 35 ([(.int .i64 (a)), (.int .i64 (b))] : List Value), cellC b7 35 ([(.int .i64 (c)), (.int .i64 (d))] : List Value), rowC 3 1 (.slice (some ⟨b24, 0, none⟩) 2 2) 2 ([(.int .i64 (sgn3 a c)), (.int .i64 (sgn3 b d))] : List Value)] w25) g27
  have gr28 := gr16.trans g27
  have S29 := H26.pick [0, 1, 2] (by decide)
  refine hK23 _ _ S29 ?_
  clear hK23 K23
  refine h_do 11 rfl (by kernel_rfl) (wants0 rfl) (fun K30 hK30 => ?_)
  refine d_call (d := 16) rfl (by kernel_rfl) (or2_any (sgn3 a c) (sgn3 b d) b24 w25 (row_cell (H26.at 3 rfl) rfl rfl) (row_cell (H26.at 3 rfl) rfl rfl)) ?_
  rintro _ w31 ⟨rfl, hw31⟩
  obtain rfl := hw31.symm
  refine ⟨_, rfl, ?_⟩
  have S32 := H26.pick [0, 1, 2] (by decide)
  refine hK30 _ _ S32 ?_
  clear hK30 K30
  refine h_val 12 rfl (by kernel_rfl) (by kernel_rfl) (by kernel_rfl) (fun _ _ _ h => h) S32 (wants0 rfl) (d := 4) (v := (.int .i64 (or2 (sgn3 a c) (sgn3 b d)))) rfl (fun _ H' => (by kernel_rfl)) ?_
  refine h_fin (by kernel_rfl) ?_
  refine then_normal ?_
  refine w_ret ?_
  refine end1 rfl (res_tmp (v := (.int .i64 (or2 (sgn3 a c) (sgn3 b d)))) rfl) ?_
  exact ⟨rfl, H26.upd 0 rfl [] (fun _ h => h.elim), gr28⟩

set_option maxRecDepth 100000 in
set_option maxHeartbeats 400000 in
theorem closE_any (w : World) (x y : EntD) :
    Calls Try.prog 23 #[(.agg ⟨(([(.int .i64 (x.cl)), (.int .i64 (x.sq))] : List Value) ++ hc x.h ++ ([(.int .u64 (x.t))] : List Value))⟩), (.agg ⟨(([(.int .i64 (y.cl)), (.int .i64 (y.sq))] : List Value) ++ hc y.h ++ ([(.int .u64 (y.t))] : List Value))⟩)] w fun e w' => e = .returned (.int .i64 (or2 (sgn3 x.t y.t) (or2 (sgn3 x.cl y.cl) (sgn3 x.sq y.sq)))) ∧ Upd [] w w' ∧ Gr w w' := by
  have H := Sat.start0 w
  refine calls_fr Try.func23 rfl 17 rfl (Nat.le_of_ble_eq_true rfl) ?_
  refine w_seq ?_
  refine w_lit ?_
  refine wl_do (wants0 rfl) (fun K1 hK1 => ?_)
  refine d_boxG (vs := (([(.int .i64 (x.cl)), (.int .i64 (x.sq))] : List Value) ++ hc x.h ++ ([(.int .u64 (x.t))] : List Value))) rfl H rfl rfl ?_
  intro b2 w3 (H4 : Sat w [restC w (fun _ => False), cellC b2 50 (([(.int .i64 (x.cl)), (.int .i64 (x.sq))] : List Value) ++ hc x.h ++ ([(.int .u64 (x.t))] : List Value))] w3) g5
  refine hK1 _ _ ?_
  clear hK1 K1
  refine wl_do (wants0 rfl) (fun K6 hK6 => ?_)
  refine d_boxG (vs := (([(.int .i64 (y.cl)), (.int .i64 (y.sq))] : List Value) ++ hc y.h ++ ([(.int .u64 (y.t))] : List Value))) rfl H4 rfl rfl ?_
  intro b7 w8 (H9 : Sat w [restC w (fun _ => False), cellC b2 50 (([(.int .i64 (x.cl)), (.int .i64 (x.sq))] : List Value) ++ hc x.h ++ ([(.int .u64 (x.t))] : List Value)), cellC b7 50 (([(.int .i64 (y.cl)), (.int .i64 (y.sq))] : List Value) ++ hc y.h ++ ([(.int .u64 (y.t))] : List Value))] w8) g10
  have gr11 := g5.trans g10
  refine hK6 _ _ ?_
  clear hK6 K6
  refine wl_pure (wants0 rfl) (d := 4) (v := (.int .i64 (0))) rfl (by kernel_rfl) ?_
  refine w_nil ?_
  refine then_normal ?_
  refine w_seq ?_
  refine h_startG H9 [restC w (fun _ => False), cellC b2 50 (([(.int .i64 (x.cl)), (.int .i64 (x.sq))] : List Value) ++ hc x.h ++ ([(.int .u64 (x.t))] : List Value)), cellC b7 50 (([(.int .i64 (y.cl)), (.int .i64 (y.sq))] : List Value) ++ hc y.h ++ ([(.int .u64 (y.t))] : List Value))] 13 rfl (by kernel_rfl) (fun Hx => (Hx.pick [0, 1, 2] (by decide))) ?_
  intro w12 H13 S14 g15
  have gr16 := gr11.trans g15
  refine h_val 0 rfl (by kernel_rfl) (by kernel_rfl) (by kernel_rfl) (fun _ _ _ h => h) S14 (wants0 rfl) (d := 5) (v := (.pointer (some ⟨b2, 34, none⟩))) rfl (fun _ H' => (by kernel_rfl)) ?_
  refine h_val 1 rfl (by kernel_rfl) (by kernel_rfl) (by kernel_rfl) (fun _ _ _ h => h) S14 (wants0 rfl) (d := 6) (v := (.int .u64 (x.t))) rfl (fun _ H' => (e_load1 rfl (by kernel_rfl) (H'.cell 1 rfl (by kernel_rfl)))) ?_
  refine h_val 2 rfl (by kernel_rfl) (by kernel_rfl) (by kernel_rfl) (fun _ _ _ h => h) S14 (wants0 rfl) (d := 7) (v := (.pointer (some ⟨b7, 34, none⟩))) rfl (fun _ H' => (by kernel_rfl)) ?_
  refine h_val 3 rfl (by kernel_rfl) (by kernel_rfl) (by kernel_rfl) (fun _ _ _ h => h) S14 (wants0 rfl) (d := 8) (v := (.int .u64 (y.t))) rfl (fun _ H' => (e_load1 rfl (by kernel_rfl) (H'.cell 2 rfl (by kernel_rfl)))) ?_
  refine h_val 5 rfl (by kernel_rfl) (by kernel_rfl) (by kernel_rfl) (fun _ _ _ h => h) S14 (wants0 rfl) (d := 10) (v := (.pointer (some ⟨b2, 0, none⟩))) rfl (fun _ H' => (by kernel_rfl)) ?_
  refine h_val 6 rfl (by kernel_rfl) (by kernel_rfl) (by kernel_rfl) (fun _ _ _ h => h) S14 (wants0 rfl) (d := 11) (v := (.agg ⟨([(.int .i64 (x.cl)), (.int .i64 (x.sq))] : List Value)⟩)) rfl (fun _ H' => (e_loadN (vs := ([(.int .i64 (x.cl)), (.int .i64 (x.sq))] : List Value)) rfl (by kernel_rfl) (by kernel_rfl) (by exact Nat.le_of_ble_eq_true (by kernel_rfl)) (H'.at 1 rfl) (by kernel_rfl))) ?_
  refine h_val 7 rfl (by kernel_rfl) (by kernel_rfl) (by kernel_rfl) (fun _ _ _ h => h) S14 (wants0 rfl) (d := 12) (v := (.pointer (some ⟨b7, 0, none⟩))) rfl (fun _ H' => (by kernel_rfl)) ?_
  refine h_val 8 rfl (by kernel_rfl) (by kernel_rfl) (by kernel_rfl) (fun _ _ _ h => h) S14 (wants0 rfl) (d := 13) (v := (.agg ⟨([(.int .i64 (y.cl)), (.int .i64 (y.sq))] : List Value)⟩)) rfl (fun _ H' => (e_loadN (vs := ([(.int .i64 (y.cl)), (.int .i64 (y.sq))] : List Value)) rfl (by kernel_rfl) (by kernel_rfl) (by exact Nat.le_of_ble_eq_true (by kernel_rfl)) (H'.at 2 rfl) (by kernel_rfl))) ?_
  refine h_do 4 rfl (by kernel_rfl) (wants0 rfl) (fun K17 hK17 => ?_)
  refine d_call (d := 9) rfl (by kernel_rfl) (cmpu64_any x.t y.t w12) ?_
  rintro _ w18 ⟨rfl, hw18⟩
  obtain rfl := hw18.symm
  refine ⟨_, rfl, ?_⟩
  have S19 := H13.pick [0, 1, 2] (by decide)
  refine hK17 _ _ S19 ?_
  clear hK17 K17
  refine h_do 9 rfl (by kernel_rfl) (wants0 rfl) (fun K20 hK20 => ?_)
  refine d_call (d := 14) rfl (by kernel_rfl) (before_any w12 x.cl x.sq y.cl y.sq) ?_
  rintro _ w21 ⟨rfl, u23, g24⟩
  have H22 := H13.keepU u23
  refine ⟨_, rfl, ?_⟩
  have gr25 := gr16.trans g24
  have S26 := H22.pick [0, 1, 2] (by decide)
  refine hK20 _ _ S26 ?_
  clear hK20 K20
  refine h_do 10 rfl (by kernel_rfl) (wants0 rfl) (fun K27 hK27 => ?_)
  refine d_buildSliceG (e := 3) (size := 1) (bytes := 8) (z := (.int .i64 (0))) (pvs := [(0, (.int .i64 (sgn3 x.t y.t))), (1, (.int .i64 (or2 (sgn3 x.cl y.cl) (sgn3 x.sq y.sq))))]) (vs := ([(.int .i64 (sgn3 x.t y.t)), (.int .i64 (or2 (sgn3 x.cl y.cl) (sgn3 x.sq y.sq)))] : List Value)) rfl H22 (by kernel_rfl) (by kernel_rfl) (by kernel_rfl) (by kernel_rfl) (by kernel_rfl) rfl rfl ?_
  intro b28 w29 (H30 : Sat w [restC w (fun _ => False), cellC b2 50 (([(.int .i64 (x.cl)), (.int .i64 (x.sq))] : List Value) ++ hc x.h ++ ([(.int .u64 (x.t))] : List Value)), cellC b7 50 (([(.int .i64 (y.cl)), (.int .i64 (y.sq))] : List Value) ++ hc y.h ++ ([(.int .u64 (y.t))] : List Value)), rowC 3 1 (.slice (some ⟨b28, 0, none⟩) 2 2) 2 ([(.int .i64 (sgn3 x.t y.t)), (.int .i64 (or2 (sgn3 x.cl y.cl) (sgn3 x.sq y.sq)))] : List Value)] w29) g31
  have gr32 := gr25.trans g31
  have S33 := H30.pick [0, 1, 2] (by decide)
  refine hK27 _ _ S33 ?_
  clear hK27 K27
  refine h_do 11 rfl (by kernel_rfl) (wants0 rfl) (fun K34 hK34 => ?_)
  refine d_call (d := 16) rfl (by kernel_rfl) (or2_any (sgn3 x.t y.t) (or2 (sgn3 x.cl y.cl) (sgn3 x.sq y.sq)) b28 w29 (row_cell (H30.at 3 rfl) rfl rfl) (row_cell (H30.at 3 rfl) rfl rfl)) ?_
  rintro _ w35 ⟨rfl, hw35⟩
  obtain rfl := hw35.symm
  refine ⟨_, rfl, ?_⟩
  have S36 := H30.pick [0, 1, 2] (by decide)
  refine hK34 _ _ S36 ?_
  clear hK34 K34
  refine h_val 12 rfl (by kernel_rfl) (by kernel_rfl) (by kernel_rfl) (fun _ _ _ h => h) S36 (wants0 rfl) (d := 4) (v := (.int .i64 (or2 (sgn3 x.t y.t) (or2 (sgn3 x.cl y.cl) (sgn3 x.sq y.sq))))) rfl (fun _ H' => (by kernel_rfl)) ?_
  refine h_fin (by kernel_rfl) ?_
  refine then_normal ?_
  refine w_ret ?_
  refine end1 rfl (res_tmp (v := (.int .i64 (or2 (sgn3 x.t y.t) (or2 (sgn3 x.cl y.cl) (sgn3 x.sq y.sq))))) rfl) ?_
  exact ⟨rfl, H30.upd 0 rfl [] (fun _ h => h.elim), gr32⟩

end Go.Proofs.Ytenihpghfdcpkaa
namespace Go.Proofs.Ytenihpghfdcpkaa
open Go.RowKit Go.Shelf Go.Sort
instance : Inhabited EntD := ⟨ent0⟩
def cmpEn (x y : EntD) : Int := or2 (sgn3 x.t y.t) (or2 (sgn3 x.cl y.cl) (sgn3 x.sq y.sq))
def ltEn (x y : EntD) : Prop := x.t < y.t ∨ (x.t = y.t ∧ (x.cl < y.cl ∨ (x.cl = y.cl ∧ x.sq < y.sq)))
instance (x y : EntD) : Decidable (ltEn x y) := by unfold ltEn; exact inferInstance
theorem sgn3_cases (a b : Int) : (a < b ∧ sgn3 a b = -1) ∨ (a = b ∧ sgn3 a b = 0) ∨ (a > b ∧ sgn3 a b = 1) := by
  unfold sgn3
  rcases Int.lt_trichotomy a b with h | h | h
  · exact .inl ⟨h, if_pos h⟩
  · exact .inr (.inl ⟨h, by rw [if_neg (by omega), if_neg (by omega)]⟩)
  · exact .inr (.inr ⟨h, by rw [if_neg (by omega), if_pos h]⟩)
theorem ltOf_cmpEn (x y : EntD) : ltOf cmpEn x y = decide (ltEn x y) := by
  unfold ltOf
  refine decide_eq_decide.2 ?_
  unfold cmpEn ltEn
  rcases sgn3_cases x.t y.t with ⟨h1, e1⟩ | ⟨h1, e1⟩ | ⟨h1, e1⟩ <;> rcases sgn3_cases x.cl y.cl with ⟨h2, e2⟩ | ⟨h2, e2⟩ | ⟨h2, e2⟩ <;> rcases sgn3_cases x.sq y.sq with ⟨h3, e3⟩ | ⟨h3, e3⟩ | ⟨h3, e3⟩ <;> rw [e1, e2, e3] <;>
    first | exact iff_of_true (by decide) (by omega) | exact iff_of_false (by decide) (by omega)
theorem cmpEn_swo : SWO (ltOf cmpEn) := by
  refine ⟨fun x => ?_, fun x y z h1 h2 => ?_, fun x y z h1 h2 => ?_⟩
  · rw [ltOf_cmpEn]; exact decide_eq_false (by unfold ltEn; omega)
  · rw [ltOf_cmpEn] at *
    have := of_decide_eq_true h1; have := of_decide_eq_true h2
    unfold ltEn at *
    exact decide_eq_true (by omega)
  · rw [ltOf_cmpEn] at *
    have := of_decide_eq_false h1; have := of_decide_eq_false h2
    unfold ltEn at *
    exact decide_eq_false (by omega)
theorem closE_lays (blk off size : Nat) (w : World) : CmpLays Try.prog 23 #[] encEn 35 cmpEn blk off size w := fun m os dk _ x y =>
  (closE_any (sortWorldK encEn 35 w blk off m dk os) x y).mono fun _ _ h => ⟨h.1, h.2.2⟩
theorem sorted_block {α : Type} [Inhabited α] (enc : α → List Value) (k : Nat) (hk : ∀ x, (enc x).length = k) (k0 : 0 < k) (d : Array α) (cur : Array Value) (h : d.size * k ≤ cur.size) : (putCells id 0 (flatK enc k d) cur).size = cur.size ∧ (putCells id 0 (flatK enc k d) cur).toList.take (d.size * k) = d.toList.flatMap enc := by
  refine ⟨by simp [putCells], ?_⟩
  refine List.ext_getElem? fun t => ?_
  rw [List.getElem?_take]
  split
  · rename_i ht
    have hj : t / k < d.size := (Nat.div_lt_iff_lt_mul k0).2 ht
    have hm : t % k < k := Nat.mod_lt _ k0
    have e : t = t / k * k + t % k := by rw [Nat.mul_comm]; exact (Nat.div_add_mod t k).symm
    have hr : (d.toList.flatMap enc)[t]? = (enc d[t / k]!)[t % k]? := by
      conv => lhs; rw [e]
      exact flat_get enc k hk d.toList (t / k) (t % k) d[t / k]! (by rw [getElem!_pos d _ hj]; simp [hj]) hm
    rw [hr, Array.getElem?_toList]
    have ht' : t < (flatK enc k d).size := by rw [size_flatK]; exact ht
    have hl : (putCells id 0 (flatK enc k d) cur)[t]? = some (flatK enc k d)[t]! := by
      unfold putCells
      rw [Array.getElem?_mapIdx, Array.getElem?_eq_getElem (by omega)]
      simp only [Option.map_some]
      rw [if_pos ⟨Nat.zero_le _, by omega⟩]; rfl
    rw [hl, get_flatK enc k d t ht, getElem!_pos (enc d[t / k]!) _ (by rw [hk]; exact hm), List.getElem?_eq_getElem (by rw [hk]; exact hm)]
  · rename_i ht
    rw [List.getElem?_eq_none]
    rw [flat_len enc k hk]; simp; omega
/-- slices.SortFunc over at most 12 entries of a row of the call's own -/
theorem sortE_any (w : World) (g c : Nat) (D : List EntD) (hv : (rowC 50 35 (.slice (some ⟨g, 0, none⟩) D.length c) D.length (D.flatMap encEn)).ok w) (h12 : D.length ≤ 12) :
    Calls Try.prog 22 #[.slice (some ⟨g, 0, none⟩) D.length c, .func (.func 23) #[] #[]] w fun e w' => e = .returned (.tuple #[]) ∧ ∃ D' : List EntD, D'.Perm D ∧ (D'.Pairwise fun a b => ¬ ltEn b a) ∧ (rowC 50 35 (.slice (some ⟨g, 0, none⟩) D.length c) D.length (D'.flatMap encEn)).ok w' ∧ Upd [g] w w' := by
  obtain ⟨A, rfl⟩ : ∃ A : List EntD, A = D := ⟨D, rfl⟩
  have hg : g < w.heap.size := (rowC _ _ _ _ _).lt hv g rfl
  obtain ⟨cur, hb, hnc, hcm, hcs, htk⟩ : ∃ cur, w.heap[g]? = some (.cells cur 50 (0, 0)) ∧ A.length ≤ c ∧ c ≤ maxLen ∧ cur.size = c * 35 ∧ cur.toList.take (A.length * 35) = A.flatMap encEn := by
    rcases hv.2 with ⟨h, _⟩ | ⟨g', c', cur, h, _, h1, h2, h3, h4, h5⟩
    · cases h
    · simp only [Value.slice.injEq, Option.some.injEq, Addr.mk.injEq] at h
      obtain ⟨⟨rfl, _⟩, _, rfl⟩ := h
      exact ⟨cur, h1, h2, h3, h4, h5⟩
  have hH : HoldsK encEn 35 w g 0 A.toArray := fun j hj => by
    have hj' : j < A.length * 35 := by simpa using hj
    have hq : j / 35 < A.length := (Nat.div_lt_iff_lt_mul (by omega)).2 hj'
    refine ⟨?_, ?_⟩
    · rw [get_flatK _ _ _ _ (by simpa using hj')]
      have hx : A.toArray[j / 35]! = A[j / 35] := by rw [getElem!_pos A.toArray (j / 35) (by simpa using hq)]; simp
      rw [hx]
      refine rows_cell (enc := encEn) hv rfl encEn_len (i := j / 35) (x := A[j / 35]) (List.getElem?_eq_getElem hq) (j % 35) (by have := Nat.mod_lt j (show 0 < 35 by omega); simp [Nat.blt_eq, this]) (by omega) ?_
      have hm : j % 35 < (encEn A[j / 35]).length := by rw [encEn_len]; omega
      rw [List.getElem?_eq_getElem hm, getElem!_pos (encEn A[j / 35]) _ hm]; rfl
    · unfold World.frozen?
      rw [hb]; simp
  have hbl : ∀ (n : Nat) (W : World), n ≤ 12 → Calls Try.prog (sortL_ren.f 15) #[.int .u64 n] W fun e w' => (∃ l : Int, e = .returned (.int .i64 l)) ∧ w' = W := fun n W hn =>
    (Any.bits_Len bitsL n W (by omega) (by omega)).mono fun _ _ ⟨he, hw⟩ => ⟨⟨_, he⟩, hw⟩
  have h := AnyQ.slices_SortFunc_small_sorted (P := Try.prog) sortL 35 Try.isAgg50 Try.sizeOf50 encEn encEn_len (fun x v hv => List.all_eq_true.1 (encEn_one x) v hv) cmpEn 23 #[] cmpEn_swo g 0 c A.toArray w (enters_of Try.func23 (by kernel_rfl) rfl) (closE_lays g 0 _ w) hH hg (by simpa using h12) hbl
  rw [show A.toArray.size = A.length from List.size_toArray ..] at h
  refine h.mono fun e w' ⟨he, d', n, os, hp, hs, hw⟩ => ?_
  have hsz : d'.size = A.length := by simpa using hp.1
  have hp2 : d'.toList.Perm A := by
    have := hp.2.2
    have e1 : d'.extract 0 A.length = d' := by rw [← hsz]; exact Array.extract_size
    have e2 : A.toArray.extract 0 A.length = A.toArray := Array.extract_size (xs := A.toArray)
    rw [e1, e2] at this
    exact this
  refine ⟨he, d'.toList, hp2, ?_, ?_, ?_⟩
  · rw [List.pairwise_iff_getElem]
    intro i j hi hj hij
    have hi' : i < d'.size := by simpa using hi
    have hj' : j < d'.size := by simpa using hj
    have := hs i j (Nat.zero_le _) hij (by omega)
    rw [getElem!_pos d' i hi', getElem!_pos d' j hj'] at this
    rw [ltOf_cmpEn] at this
    have h5 := of_decide_eq_false this
    rwa [Array.getElem_toList, Array.getElem_toList]
  · obtain ⟨q1, q2⟩ := sorted_block encEn 35 encEn_len (by omega) d' cur (by rw [hsz, hcs]; exact Nat.mul_le_mul_right _ hnc)
    refine ⟨by rw [flat_len encEn 35 encEn_len]; simp [hsz], .inr ⟨g, c, putCells id 0 (flatK encEn 35 d') cur, rfl, Nat.zero_le _, ?_, hnc, hcm, by rw [q1, hcs], by rw [← hsz]; exact q2⟩⟩
    rw [hw]
    unfold sortWorldK putRowK putRow mapBlock grow Sort.ahead
    simp only [Array.getElem?_append, Array.size_modify, hg, if_true, Array.getElem?_modify]
    rw [hb]; rfl
  · subst hw
    refine ⟨rfl, rfl, rfl, size_sortWorldK_c _ _ _ _ _ _ _ _, fun k hk hne => ?_⟩
    have hne : g ≠ k := fun e => hne (by simp [e])
    unfold sortWorldK putRowK putRow mapBlock grow Sort.ahead
    simp only [Array.getElem?_append, Array.size_modify, hk, if_true, Array.getElem?_modify, if_neg hne]
def rowEn (a : Option Addr) (c : Nat) (n : Nat) (D : List EntD) : Ck := rowC 50 35 (.slice a n c) n (D.flatMap encEn)
/-- slices.SortFunc over at most 12 entries of a row of the call's own, none too -/
theorem sortRow_any (w : World) (a : Option Addr) (c : Nat) (D : List EntD) (hv : (sepC [rowC 50 35 (.slice a D.length c) D.length (D.flatMap encEn)]).ok w) (h12 : D.length ≤ 12) :
    Calls Try.prog 22 #[.slice a D.length c, .func (.func 23) #[] #[]] w fun e w' => ∃ D' : List EntD, e = .returned (.tuple #[]) ∧ D'.Perm D ∧ (D'.Pairwise fun a b => ¬ ltEn b a) ∧ Sat w [rowC 50 35 (.slice a D'.length c) D'.length (D'.flatMap encEn), restC w (sepC [rowC 50 35 (.slice a D.length c) D.length (D.flatMap encEn)]).fp] w' := by
  have H := Sat.start _ hv
  cases hD : D with
  | nil =>
    subst hD
    refine (sort0_any a c (.func (.func 23) #[] #[]) w).mono fun e w' ⟨he, hw⟩ => ?_
    subst hw
    exact ⟨[], he, List.Perm.refl _, List.Pairwise.nil, H⟩
  | cons x D0 =>
    rw [← hD]
    have hv0 := hv.1 _ (List.mem_singleton.2 rfl)
    obtain ⟨g, c', hs⟩ := row_shape hv0 (by rw [hD]; simp)
    simp only [Value.slice.injEq] at hs
    obtain ⟨rfl, _, rfl⟩ := hs
    refine (sortE_any w g c D hv0 h12).mono fun e w' ⟨he, D', hp, hs, hok, hu⟩ => ?_
    have hl := hp.length_eq
    refine ⟨D', he, hp, hs, ?_⟩
    rw [hl]
    exact H.setU hu 0 rfl (by rintro b' hb; rw [List.mem_singleton.1 hb]; rfl) hok (fun b hb => .inl hb)
end Go.Proofs.Ytenihpghfdcpkaa
