/- WHAT IS PROVED: contracts and plain laws of CmpE, Grow, CmpF, Small, Less, Sort12N, Sort12. Conditions: stated with each. -/
import Derived.Sort.Grow
import Derived.Deep.Draws
import Derived.Test.YtenihpghfdcpkaaGreatPO02
import Derived.Test.YtenihpghfdcpkaaGreatPO04
import Derived.Test.YtenihpghfdcpkaaGreatPO05
import Derived.Test.YtenihpghfdcpkaaGreatPO07
import Derived.Test.YtenihpghfdcpkaaGreatPO13
import Derived.Test.YtenihpghfdcpkaaGreatPO17
set_option maxHeartbeats 4000000
set_option maxRecDepth 100000
namespace Go.Proofs.YtenihpghfdcpkaaGreat
open Go.RowKit Go.Sort
def Z2S (a b : Int) : Int := if a < b then -1 else if a > b then 1 else 0
theorem ZbC (a : Int) (W : World) : Calls Tryz.prog 103 #[u6 a] W fun e w' => e = .returned (.bool false) ∧ w' = W := by
 go_enter Tryz.func103, Tryz.ntmps103
 go_wp2
 go_ret
 exact ⟨by simp, rfl⟩
theorem Zby (a b : Int) (W : World) : Calls Tryz.prog 62 #[u6 a, u6 b] W fun e w' => e = .returned (i6 (Z2S a b)) ∧ w' = W := by
 have hn := fun a W => ZbC a W
 go_enter Tryz.func62, Tryz.ntmps62
 go_wp2_with (go_at_call 103; refine (hn _ _).mono ?_; rintro e w' ⟨rfl, rfl⟩)
 all_goals (go_ret; exact ⟨by unfold Z2S; split <;> first | rfl | (split <;> first | rfl | omega) | omega, rfl⟩)
theorem Zc4 (a : Int) (W : World) : Calls Tryz.prog 120 #[i6 a] W fun e w' => e = .returned (.bool false) ∧ w' = W := by
 go_enter Tryz.func120, Tryz.ntmps120
 go_wp2
 go_ret
 exact ⟨by simp, rfl⟩
theorem Z3S (a b : Int) (W : World) : Calls Tryz.prog 92 #[i6 a, i6 b] W fun e w' => e = .returned (i6 (Z2S a b)) ∧ w' = W := by
 have hn := fun a W => Zc4 a W
 go_enter Tryz.func92, Tryz.ntmps92
 go_wp2_with (go_at_call 120; refine (hn _ _).mono ?_; rintro e w' ⟨rfl, rfl⟩)
 all_goals (go_ret; exact ⟨by unfold Z2S; split <;> first | rfl | (split <;> first | rfl | omega) | omega, rfl⟩)
def or2 (a b : Int) : Int := if a = 0 then b else a
theorem Zek (a b : Int) (B : Nat) (W : World) (h0 : W.cell? ⟨B, 0, none⟩ = some (i6 a)) (h1 : W.cell? ⟨B, 1, none⟩ = some (i6 b)) : Calls Tryz.prog 61 #[.slice (some ⟨B, 0, none⟩) 2 2] W fun e w' => e = .returned (i6 (or2 a b)) ∧ w' = W := by
 go_enter Tryz.func61, Tryz.ntmps61
 go_wp2
 refine wp_loop_rounds 3 ?_
 rw [rounds_succ]
 go_wp2
 ·go_ret
  exact ⟨by unfold or2; simp_all, rfl⟩
 ·rw [rounds_succ]
  go_wp2
  ·go_ret
   exact ⟨by unfold or2; simp_all, rfl⟩
  ·rw [rounds_succ]
   go_wp2
   go_ret
   exact ⟨by unfold or2; simp_all, rfl⟩
end Go.Proofs.YtenihpghfdcpkaaGreat
namespace Go.Proofs.YtenihpghfdcpkaaGreat
open Go.RowKit
def Gr (w w' : World) : Prop := ∃ q os', w' = Sort.grow (w.drewN q) os'
theorem Gr.refl (w : World) : Gr w w := ⟨0, #[], by simp [Sort.grow, World.drewN]⟩
theorem Gr.alloc (w : World) (o : Obj) : Gr w (w.alloc o) := ⟨0, #[o], by rw [Sort.alloc_eq_grow]; rfl⟩
theorem Gr.drew (w : World) : Gr w w.drew := ⟨1, #[], by rw [Sort.grow_empty]; rfl⟩
theorem Gr.trans {a b c : World} (h : Gr a b) (k : Gr b c) : Gr a c := by
 obtain ⟨q, os, rfl⟩ := h
 obtain ⟨q2, os2, rfl⟩ := k
 exact ⟨q + q2, os ++ os2, by simp [Sort.grow, World.drewN, Array.append_assoc, Nat.add_assoc]⟩
section
variable {P : Program} {ops : Array Oper} {n : Nat} {f : Nat → Value} {w w0 : World} {dst : Option Tmp} {ty : TypeId} {pos : String} {aft : Array Edge} {gd : Option (Nat × Bool)} {K : Act → World → Prop} {Q : Exit → Act → World → Prop} {G : List Ck}
theorem Z3P {T : TypeId} {x : Operand} {v : Value} {vs : List Value} {d : Nat} (hd : dst = some d) (H : Sat w0 G w) (hx : ev n f x = v) (hvs : v.cells = ⟨vs⟩)
  (k : ∀ b w', Sat w0 (G ++ [Z0 b T vs]) w' → Gr w w' → K (fr n (upd f d (zp b))) w') : WO P ⟨dst, .box T x, ty, pos, aft, gd⟩ K Q n f w := by
 refine Z4s hd (e_box hx) (k _ _ ?_ (Gr.alloc _ _))
 rw [hvs]
 exact H.add ⟨rfl, rfl, rfl, by simp⟩ (fun b hb => Below.heap_alloc w _ b hb) (Z1C w _) (fun b hb => Nat.le_of_eq hb.symm)
theorem Z5u {id : Nat} {l : List Oper} (H : Sat w0 G w) (Gs : List Ck) (m : Nat) (hl : l.length = m) (hm : P.follows .mixedOrders = true) (hs : Sat w0 G w.drew → Sat w0 Gs w.drew) (k : ∀ w1, Sat w0 G w1 → Sat w0 Gs w1 → Gr w w1 → WH P l.toArray Q (Sat w0 Gs) m (Array.replicate m false) n f w1) :
  WC P (Code.region id l.toArray true) Q n f w := by
 subst hl
 exact ⟨wp_region_held (S := Sat w0 Gs) hm (by simpa using (k w.drew H.drew (hs H.drew) (Gr.drew _)).h)⟩
theorem Z5F {T e : TypeId} {size bytes N : Nat} {parts : Array (Nat × Operand)} {d : Nat} (hd : dst = some d) (H : Sat w0 G w) (hR : Z5V P T e size bytes = true) {z : Value} (hz : (P.info? e).bind (·.zero) = some z) {pvs : List (Nat × Value)} {vs : List Value}
  (hp : (parts.map fun q => (q.1, ev n f q.2)).toList = pvs) (hf : Instr.fill (fun j => some (j * size, size)) ((Array.range (N * size)).map fun q => z.cells[q % z.cells.size]!) pvs = some ⟨vs⟩) (hl : Nat.beq vs.length (N * size) = true) (hN : Nat.blt 0 N = true) (hsz : Nat.ble (N * size) 16777216 = true)
  (kk : ∀ b w', Sat w0 (G ++ [Zh e size (.slice (some ⟨b, 0, none⟩) N N) N vs]) w' → Gr w w' → K (fr n (upd f d (.slice (some ⟨b, 0, none⟩) N N))) w') : WO P ⟨dst, .buildSlice T N parts, ty, pos, aft, gd⟩ K Q n f w := by
 obtain ⟨i, z', ht, hi, hz', hs, hby, hzs, h0⟩ := Z3z hR
 have hl := Nat.eq_of_beq_eq_true hl
 have hsz := Nat.le_of_ble_eq_true hsz
 have hN : 0 < N := by simpa [Nat.blt_eq] using hN
 have hpos : 0 < N * size := Nat.mul_pos hN h0
 have hr : (execOp (ev n f) ⟨dst, .buildSlice T N parts, ty, pos, aft, gd⟩).run P w = .ok (.value (.slice (some ⟨w.heap.size, 0, none⟩) N N)) (w.alloc (.cells ⟨vs⟩ e (0, 0))) := by
  have hp2 : (parts.map fun q => (q.1, ev n f q.2)).toList = pvs := hp
  simp only [execOp, Instr.buildSlice]
  have hzv := Z41 (P := P) (w := w) hz
  have h1 : ¬ 16777216 < N * size := by omega
  have h2 : ¬ N * size = 0 := by omega
  simp only [hp2]
  simp [run_underlying ht, sizeOf, typeInfo, hi, hs, Result.andThen, h1, h2, hzv, hf, newRow]
 refine Z4s hd hr (kk _ _ (H.add ⟨rfl, rfl, rfl, by simp⟩ (fun b hb => Below.heap_alloc w _ b hb) ?_ (fun b hb => ?_)) (Gr.alloc _ _))
 ·refine ⟨hl, .inr ⟨w.heap.size, N, ⟨vs⟩, rfl, Nat.zero_le _, Z1C w _, Nat.le_refl _, ?_, by simpa using hl, ?_⟩⟩
  ·have := Nat.le_mul_of_pos_right N h0
   unfold maxLen; omega
  ·rw [← hl]; simp
 ·simp [Zh, Value.ownBlock] at hb; omega
end
abbrev Z3I (p0 : Int) (p1 : Int) : List Value := ([i6 p0, i6 p1] : LV)
abbrev Z8y (p0 : Z1q) : List Value := ([i6 p0.cl, i6 p0.sq] : LV) ++ hc p0.h ++ ([u6 p0.t] : LV)
theorem Z7U (w : World) (a b c d : Int) :
  Calls Tryz.prog 63 #[(.agg ⟨([i6 a, i6 b] : LV)⟩), (.agg ⟨([i6 c, i6 d] : LV)⟩)] w fun e w' => e = .returned (i6 (or2 (Z2S a c) (Z2S b d))) ∧ Upd [] w w' ∧ Gr w w' := by
 have H := Sat.start0 w
 refine Za Tryz.func63 rfl 17 rfl kn ?_
 refine zsl <| zy <| Z3P (vs := (Z3I a b)) rfl H rfl rfl fun b2 w3 H4 g5 => ?_
 refine kk <| zy <| Z3P (vs := (Z3I c d)) rfl H4 rfl rfl fun b7 w8 H9 g10 => ?_
 have gr11 := g5.trans g10
 refine kk <| wv 4 (vi 0) <| znt <| Z7 <| Z5u H9 [zR w, Z0 b2 59 (Z3I a b), Z0 b7 59 (Z3I c d)] 13 rfl kr (fun Hx => (Hx.pk [0, 1, 2])) fun w12 H13 S14 g15 => ?_
 have gr16 := gr11.trans g15
 refine hv0 0 S14 5 (pt b2 0) <| hv0 1 S14 6 (vi a) ?_ (he := fun _ H' => (zl1 (H'.cell 1 rfl rfl)))
 refine hv0 2 S14 7 (pt b7 0) <| hv0 3 S14 8 (vi c) ?_ (he := fun _ H' => (zl1 (H'.cell 2 rfl rfl)))
 refine hv0 5 S14 10 (pt b2 1) <| hv0 6 S14 11 (vi b) ?_ (he := fun _ H' => (zl1 (H'.cell 1 rfl rfl)))
 refine hv0 7 S14 12 (pt b7 1) <| hv0 8 S14 13 (vi d) ?_ (he := fun _ H' => (zl1 (H'.cell 2 rfl rfl)))
 refine zhy 4 ?_
 refine zdc 9 (Z3S a c w12) ?_
 rintro _ w18 ⟨rfl, hw18⟩
 obtain rfl := hw18.symm
 refine ⟨_, rfl, ?_⟩
 have S19 := H13.pk [0, 1, 2]
 refine kh S19 <| zhy 9 ?_
 refine zdc 14 (Z3S b d w12) ?_
 rintro _ w21 ⟨rfl, hw21⟩
 obtain rfl := hw21.symm
 refine ⟨_, rfl, ?_⟩
 have S22 := H13.pk [0, 1, 2]
 refine kh S22 <| zhy 10 ?_
 refine Z5F (e := 3) (size := 1) (bytes := 8) (z := (vi 0)) (pvs := [(0, (vi (Z2S a c))), (1, (vi (Z2S b d)))]) (vs := (Z3I (Z2S a c) (Z2S b d))) rfl H13 kr kr kr kr kr rfl rfl ?_
 intro b24 w25 H26 g27
 have gr28 := gr16.trans g27
 have S29 := H26.pk [0, 1, 2]
 refine kh S29 <| zhy 11 ?_
 refine zdc 16 (Zek (Z2S a c) (Z2S b d) b24 w25 (Z2R (H26.at 3 rfl) rfl rfl) (Z2R (H26.at 3 rfl) rfl rfl)) ?_
 rintro _ w31 ⟨rfl, hw31⟩
 obtain rfl := hw31.symm
 refine ⟨_, rfl, ?_⟩
 have S32 := H26.pk [0, 1, 2]
 let A0 := or2 (Z2S a c) (Z2S b d)
 refine kh S32 <| hv0 12 S32 4 (vi A0) <| zhf <| ztn <| Zk <| ze1 (vi A0) ?_
 exact ⟨rfl, H26.upd 0 rfl [] ne, gr28⟩
theorem Ze2 (w : World) (x y : Z1q) :
  Calls Tryz.prog 60 #[(.agg ⟨(([i6 x.cl, i6 x.sq] : LV) ++ hc x.h ++ ([u6 x.t] : LV))⟩), (.agg ⟨(([i6 y.cl, i6 y.sq] : LV) ++ hc y.h ++ ([u6 y.t] : LV))⟩)] w fun e w' => e = .returned (i6 (or2 (Z2S x.t y.t) (or2 (Z2S x.cl y.cl) (Z2S x.sq y.sq)))) ∧ Upd [] w w' ∧ Gr w w' := by
 have H := Sat.start0 w
 refine Za Tryz.func60 rfl 17 rfl kn ?_
 refine zsl <| zy <| Z3P (vs := (Z8y x)) rfl H rfl rfl fun b2 w3 H4 g5 => ?_
 refine kk <| zy <| Z3P (vs := (Z8y y)) rfl H4 rfl rfl fun b7 w8 H9 g10 => ?_
 have gr11 := g5.trans g10
 refine kk <| wv 4 (vi 0) <| znt <| Z7 <| Z5u H9 [zR w, Z0 b2 63 (Z8y x), Z0 b7 63 (Z8y y)] 13 rfl kr (fun Hx => (Hx.pk [0, 1, 2])) fun w12 H13 S14 g15 => ?_
 have gr16 := gr11.trans g15
 refine hv0 0 S14 5 (pt b2 34) <| hv0 1 S14 6 (vu x.t) ?_ (he := fun _ H' => (zl1 (H'.cell 1 rfl kr)))
 refine hv0 2 S14 7 (pt b7 34) <| hv0 3 S14 8 (vu y.t) ?_ (he := fun _ H' => (zl1 (H'.cell 2 rfl kr)))
 refine hv0 5 S14 10 (pt b2 0) <| hv0 6 S14 11 (.agg ⟨(Z3I x.cl x.sq)⟩) ?_ (he := fun _ H' => (zlN (vs := (Z3I x.cl x.sq)) (H'.at 1 rfl)))
 refine hv0 7 S14 12 (pt b7 0) <| hv0 8 S14 13 (.agg ⟨(Z3I y.cl y.sq)⟩) ?_ (he := fun _ H' => (zlN (vs := (Z3I y.cl y.sq)) (H'.at 2 rfl)))
 refine zhy 4 ?_
 refine zdc 9 (Zby x.t y.t w12) ?_
 rintro _ w18 ⟨rfl, hw18⟩
 obtain rfl := hw18.symm
 refine ⟨_, rfl, ?_⟩
 have S19 := H13.pk [0, 1, 2]
 refine kh S19 <| zhy 9 ?_
 refine zdc 14 (Z7U w12 x.cl x.sq y.cl y.sq) ?_
 rintro _ w21 ⟨rfl, u23, g24⟩
 have H22 := H13.keepU u23
 refine ⟨_, rfl, ?_⟩
 have gr25 := gr16.trans g24
 have S26 := H22.pk [0, 1, 2]
 refine kh S26 <| zhy 10 ?_
 let A0 := or2 (Z2S x.cl y.cl) (Z2S x.sq y.sq)
 refine Z5F (e := 3) (size := 1) (bytes := 8) (z := (vi 0)) (pvs := [(0, (vi (Z2S x.t y.t))), (1, (vi A0))]) (vs := (Z3I (Z2S x.t y.t) A0)) rfl H22 kr kr kr kr kr rfl rfl ?_
 intro b28 w29 H30 g31
 have gr32 := gr25.trans g31
 have S33 := H30.pk [0, 1, 2]
 refine kh S33 <| zhy 11 ?_
 refine zdc 16 (Zek (Z2S x.t y.t) A0 b28 w29 (Z2R (H30.at 3 rfl) rfl rfl) (Z2R (H30.at 3 rfl) rfl rfl)) ?_
 rintro _ w35 ⟨rfl, hw35⟩
 obtain rfl := hw35.symm
 refine ⟨_, rfl, ?_⟩
 have S36 := H30.pk [0, 1, 2]
 refine kh S36 <| hv0 12 S36 4 (vi (or2 (Z2S x.t y.t) A0)) <| zhf <| ztn <| Zk <| ze1 (vi (or2 (Z2S x.t y.t) A0)) ?_
 exact ⟨rfl, H30.upd 0 rfl [] ne, gr32⟩
end Go.Proofs.YtenihpghfdcpkaaGreat
namespace Go.Proofs.YtenihpghfdcpkaaGreat
end Go.Proofs.YtenihpghfdcpkaaGreat
namespace Go.Proofs.YtenihpghfdcpkaaGreat
open Go.RowKit
def Hash.at (a : Hash) (i : Nat) : UInt8 := a.l.getD i 0
def LessH (a b : Hash) : Prop := ∃ i, i < 32 ∧ a.at i < b.at i ∧ ∀ j, j < i → a.at j = b.at j
def Zcr (a b : Hash) : Bool := decide (Extern.BytealgCompare.cmp ⟨a.l.toArray⟩ ⟨b.l.toArray⟩ < 0)
theorem LessH.trans {a b c : Hash} (h : LessH a b) (k : LessH b c) : LessH a c := by
 obtain ⟨i, hi, h1, h2⟩ := h
 obtain ⟨j, hj, k1, k2⟩ := k
 rcases Nat.lt_trichotomy i j with e | e | e
 ·exact ⟨i, hi, by rw [← k2 i e]; exact h1, fun q hq => (h2 q hq).trans (k2 q (by omega))⟩
 ·subst e; exact ⟨i, hi, UInt8.lt_trans h1 k1, fun q hq => (h2 q hq).trans (k2 q hq)⟩
 ·exact ⟨j, hj, by rw [h2 j e]; exact k1, fun q hq => (h2 q (by omega)).trans (k2 q hq)⟩
section
variable {P : Program} {w : World}
theorem Z3X (b : Nat) : ∀ (l : List UInt8) (o : Nat) (acc : ByteArray), (∀ i, i < l.length → w.cell? ⟨b, o + i, none⟩ = some (Z45 (l.getD i 0))) → (Extern.Bytes.loadBytes ⟨b, o, none⟩ l.length acc).run P w = .ok ⟨(acc.data.toList ++ l).toArray⟩ w
 | [], o, acc, _ => by simp [Extern.Bytes.loadBytes]
 | x :: l, o, acc, h => by
  have h0 := h 0 (by simp)
  simp only [Nat.add_zero, List.getD_cons_zero] at h0
  have ih := Z3X b l (o + 1) (acc.push x) (fun i hi => by
   have := h (i + 1) (by simpa using hi)
   simpa [Nat.add_assoc, Nat.add_comm 1 i] using this)
  have e : ((x.toNat : Int).toNat.toUInt8) = x := by simp
  simp only [Extern.Bytes.loadBytes, List.length_cons, Sem.run_bind, run_load, h0, Result.andThen, Z45, Addr.add_lit, e]
  rw [ih]
  simp [ByteArray.push]
theorem ZaD {b1 b2 : Nat} {T1 T2 : TypeId} (x y : Hash) (h1 : w.heap[b1]? = some (.cells ⟨hc x⟩ T1 (0, 0))) (h2 : w.heap[b2]? = some (.cells ⟨hc y⟩ T2 (0, 0))) :
  (Extern.BytealgCompare.compare #[.slice (some ⟨b1, 0, none⟩) 32 32, .slice (some ⟨b2, 0, none⟩) 32 32]).run P w = .ok (i6 (Extern.BytealgCompare.cmp ⟨x.l.toArray⟩ ⟨y.l.toArray⟩)) w := by
 have cell : ∀ (b : Nat) (T : TypeId) (z : Hash), w.heap[b]? = some (.cells ⟨hc z⟩ T (0, 0)) → ∀ i, i < z.l.length → w.cell? ⟨b, 0 + i, none⟩ = some (Z45 (z.l.getD i 0)) := fun b T z hz i hi => by
  rw [Z19 hz, Nat.zero_add]
  have : i < 32 := by have := z.len; omega
  simp [hc, this]
 have e1 := Z3X (P := P) b1 x.l 0 .empty (cell b1 T1 x h1)
 have e2 := Z3X (P := P) b2 y.l 0 .empty (cell b2 T2 y h2)
 rw [x.len] at e1
 rw [y.len] at e2
 have ed : ∀ u v : Value, Extern.BytealgCompare.compare #[u, v] = (do pure (goInt (Extern.BytealgCompare.cmp (← Extern.Bytes.bytesOf u) (← Extern.Bytes.bytesOf v)))) := fun _ _ => rfl
 rw [ed]
 simp only [Extern.Bytes.bytesOf, Sem.run_bind, e1, e2, Result.andThen_ok, Sem.run_pure, goInt]
 rfl
end
section
variable {P : Program} {n : Nat} {f : Nat → Value} {w : World}
theorem Zfj {o : Oper} {F : FuncId} {args : Array Value} {v : Value} (hr : (execOp (ev n f) o).run P w = (callFunc F args).run P w) (hc : (callFunc F args).run P w = .ok (.value v) w) : (execOp (ev n f) o).run P w = .ok (.value v) w := hr.trans hc
end
theorem Zah {w : World} {b1 b2 : Nat} {T1 T2 : TypeId} (x y : Hash) (h1 : w.heap[b1]? = some (.cells ⟨hc x⟩ T1 (0, 0))) (h2 : w.heap[b2]? = some (.cells ⟨hc y⟩ T2 (0, 0))) :
  (callFunc 180 #[.slice (some ⟨b1, 0, none⟩) 32 32, .slice (some ⟨b2, 0, none⟩) 32 32]).run Tryz.prog w = .ok (.value (i6 (Extern.BytealgCompare.cmp ⟨x.l.toArray⟩ ⟨y.l.toArray⟩))) w := by
 rw [run_callFunc_extern Tryz.func180 (by kernel_rfl) (by kernel_rfl) (by kernel_rfl) (e := Extern.BytealgCompare.compare) (by kernel_rfl), ZaD x y h1 h2]
 rfl
end Go.Proofs.YtenihpghfdcpkaaGreat
namespace Go.Proofs.YtenihpghfdcpkaaGreat
open Go.RowKit Go.Shelf Go.Sort
theorem Zf5 (p : Option Addr) (cap : Nat) (fv : Value) (w : World) : Calls Tryz.prog 128 #[.slice p 0 cap, i6 0, i6 0, fv] w fun e w' => e = .returned (.tuple #[]) ∧ w' = w := by
 go_enter Tryz.func128, Tryz.ntmps128
 go_wp2
 refine wp_loop_rounds 1 ?_
 rw [rounds_succ]
 go_wp2
 go_end0
 exact ⟨rfl, rfl⟩
theorem ZeM (p : Option Addr) (cap : Nat) (lim : Int) (fv : Value) (w : World) : Calls Tryz.prog 101 #[.slice p 0 cap, i6 0, i6 0, i6 lim, fv] w fun e w' => e = .returned (.tuple #[]) ∧ w' = w := by
 have hi := fun W => Zf5 p cap fv W
 go_enter Tryz.func101, Tryz.ntmps101
 go_wp2
 refine wp_loop_rounds 1 ?_
 rw [rounds_succ]
 go_wp2_with (go_at_call 128; refine (hi _).mono ?_; rintro e w' ⟨rfl, rfl⟩)
 (try simp only [Exit.inBlock, Exit.then]); refine bodyPost_ret (results_none rfl _ _ _) rfl ?_
 exact ⟨rfl, rfl⟩
theorem Z9a (p : Option Addr) (cap : Nat) (fv : Value) (w : World) : Calls Tryz.prog 59 #[.slice p 0 cap, fv] w fun e w' => e = .returned (.tuple #[]) ∧ w' = w := by
 have hp := fun lim W => ZeM p cap lim fv W
 have hl : ∀ W, Calls Tryz.prog 102 #[u6 0] W fun e w' => e = .returned (i6 (Lib.bitLen 0 : Nat)) ∧ w' = W := fun W => Any.bits_Len Z8v 0 W (by omega) (by omega)
 go_enter Tryz.func59, Tryz.ntmps59
 go_wp2_with (first | (go_at_call 102; refine (hl _).mono ?_; rintro e w' ⟨rfl, rfl⟩) | (go_at_call 101; refine (hp _ _).mono ?_; rintro e w' ⟨rfl, rfl⟩))
 go_end0
 exact ⟨rfl, rfl⟩
instance : Inhabited Z1q := ⟨Z1K⟩
def ZdZ (x y : Z1q) : Int := or2 (Z2S x.t y.t) (or2 (Z2S x.cl y.cl) (Z2S x.sq y.sq))
def Zbd (x y : Z1q) : Prop := x.t < y.t ∨ (x.t = y.t ∧ (x.cl < y.cl ∨ (x.cl = y.cl ∧ x.sq < y.sq)))
instance (x y : Z1q) : Decidable (Zbd x y) := by unfold Zbd; exact inferInstance
theorem Z3e (a b : Int) : (a < b ∧ Z2S a b = -1) ∨ (a = b ∧ Z2S a b = 0) ∨ (a > b ∧ Z2S a b = 1) := by
 unfold Z2S
 rcases Int.lt_trichotomy a b with h | h | h
 ·exact .inl ⟨h, if_pos h⟩
 ·exact .inr (.inl ⟨h, by rw [if_neg (by omega), if_neg (by omega)]⟩)
 ·exact .inr (.inr ⟨h, by rw [if_neg (by omega), if_pos h]⟩)
theorem Z4U (x y : Z1q) : ltOf ZdZ x y = decide (Zbd x y) := by
 unfold ltOf
 refine decide_eq_decide.2 ?_
 unfold ZdZ Zbd
 rcases Z3e x.t y.t with ⟨h1, e1⟩ | ⟨h1, e1⟩ | ⟨h1, e1⟩ <;> rcases Z3e x.cl y.cl with ⟨h2, e2⟩ | ⟨h2, e2⟩ | ⟨h2, e2⟩ <;> rcases Z3e x.sq y.sq with ⟨h3, e3⟩ | ⟨h3, e3⟩ | ⟨h3, e3⟩ <;> rw [e1, e2, e3] <;>
  first | exact iff_of_true (by decide) (by omega) | exact iff_of_false (by decide) (by omega)
theorem ZdU : SWO (ltOf ZdZ) := by
 refine ⟨fun x => ?_, fun x y z h1 h2 => ?_, fun x y z h1 h2 => ?_⟩
 ·rw [Z4U]; exact decide_eq_false (by unfold Zbd; omega)
 ·rw [Z4U] at *
  have := of_decide_eq_true h1; have := of_decide_eq_true h2
  unfold Zbd at *
  exact decide_eq_true (by omega)
 ·rw [Z4U] at *
  have := of_decide_eq_false h1; have := of_decide_eq_false h2
  unfold Zbd at *
  exact decide_eq_false (by omega)
theorem Zc2 (blk off size : Nat) (w : World) : CmpLays Tryz.prog 60 #[] Z2F 35 ZdZ blk off size w := fun m os dk _ x y =>
 (Ze2 (sortWorldK Z2F 35 w blk off m dk os) x y).mono fun _ _ h => ⟨h.1, h.2.2⟩
theorem Z3y {α : Type} [Inhabited α] (enc : α → List Value) (k : Nat) (hk : ∀ x, (enc x).length = k) (k0 : 0 < k) (d : Array α) (cur : Array Value) (h : d.size * k ≤ cur.size) : (putCells id 0 (flatK enc k d) cur).size = cur.size ∧ (putCells id 0 (flatK enc k d) cur).toList.take (d.size * k) = d.toList.flatMap enc := by
 refine ⟨by simp [putCells], ?_⟩
 refine List.ext_getElem? fun t => ?_
 rw [List.getElem?_take]
 split
 ·rename_i ht
  have hj : t / k < d.size := (Nat.div_lt_iff_lt_mul k0).2 ht
  have hm : t % k < k := Nat.mod_lt _ k0
  have e : t = t / k * k + t % k := by rw [Nat.mul_comm]; exact (Nat.div_add_mod t k).symm
  have hr : (d.toList.flatMap enc)[t]? = (enc d[t / k]!)[t % k]? := by
   conv => lhs; rw [e]
   exact Z4P enc k hk d.toList (t / k) (t % k) d[t / k]! (by rw [getElem!_pos d _ hj]; simp [hj]) hm
  rw [hr, Array.getElem?_toList]
  have ht' : t < (flatK enc k d).size := by rw [size_flatK]; exact ht
  have hl : (putCells id 0 (flatK enc k d) cur)[t]? = some (flatK enc k d)[t]! := by
   unfold putCells
   rw [Array.getElem?_mapIdx, Array.getElem?_eq_getElem (by omega)]
   simp only [Option.map_some]
   rw [if_pos ⟨Nat.zero_le _, by omega⟩]; rfl
  rw [hl, get_flatK enc k d t ht, getElem!_pos (enc d[t / k]!) _ (by rw [hk]; exact hm), List.getElem?_eq_getElem (by rw [hk]; exact hm)]
 ·rename_i ht
  rw [List.getElem?_eq_none]
  rw [Z0T enc k hk]; simp; omega
theorem Zd3 (w : World) (g c : Nat) (D : List Z1q) (hv : (Zh 63 35 (.slice (some ⟨g, 0, none⟩) D.length c) D.length (D.flatMap Z2F)).ok w) (h12 : D.length ≤ 12) :
  Calls Tryz.prog 59 #[.slice (some ⟨g, 0, none⟩) D.length c, .func (.func 60) #[] #[]] w fun e w' => e = .returned (.tuple #[]) ∧ ∃ D' : List Z1q, D'.Perm D ∧ (D'.Pairwise fun a b => ¬ Zbd b a) ∧ (Zh 63 35 (.slice (some ⟨g, 0, none⟩) D.length c) D.length (D'.flatMap Z2F)).ok w' ∧ Upd [g] w w' := by
 obtain ⟨A, rfl⟩ : ∃ A : List Z1q, A = D := ⟨D, rfl⟩
 have hg : g < w.heap.size := (Zh _ _ _ _ _).lt hv g rfl
 obtain ⟨cur, hb, hnc, hcm, hcs, htk⟩ : ∃ cur, w.heap[g]? = some (.cells cur 63 (0, 0)) ∧ A.length ≤ c ∧ c ≤ maxLen ∧ cur.size = c * 35 ∧ cur.toList.take (A.length * 35) = A.flatMap Z2F := by
  rcases hv.2 with ⟨h, _⟩ | ⟨g', c', cur, h, _, h1, h2, h3, h4, h5⟩
  ·cases h
  ·simp only [Value.slice.injEq, Option.some.injEq, Addr.mk.injEq] at h
   obtain ⟨⟨rfl, _⟩, _, rfl⟩ := h
   exact ⟨cur, h1, h2, h3, h4, h5⟩
 have hH : HoldsK Z2F 35 w g 0 A.toArray := fun j hj => by
  have hj' : j < A.length * 35 := by simpa using hj
  have hq : j / 35 < A.length := (Nat.div_lt_iff_lt_mul (by omega)).2 hj'
  refine ⟨?_, ?_⟩
  ·rw [get_flatK _ _ _ _ (by simpa using hj')]
   have hx : A.toArray[j / 35]! = A[j / 35] := by rw [getElem!_pos A.toArray (j / 35) (by simpa using hq)]; simp
   rw [hx]
   refine Z0L (enc := Z2F) hv rfl Z0b (i := j / 35) (x := A[j / 35]) (List.getElem?_eq_getElem hq) (j % 35) (by have := Nat.mod_lt j (show 0 < 35 by omega); simp [Nat.blt_eq, this]) (by omega) ?_
   have hm : j % 35 < (Z2F A[j / 35]).length := by rw [Z0b]; omega
   rw [List.getElem?_eq_getElem hm, getElem!_pos (Z2F A[j / 35]) _ hm]; rfl
  ·unfold World.frozen?
   rw [hb]; simp
 have hbl : ∀ (n : Nat) (W : World), n ≤ 12 → Calls Tryz.prog (sortL_ren.f 15) #[u6 n] W fun e w' => (∃ l : Int, e = .returned (i6 l)) ∧ w' = W := fun n W hn =>
  (Any.bits_Len Z8v n W (by omega) (by omega)).mono fun _ _ ⟨he, hw⟩ => ⟨⟨_, he⟩, hw⟩
 have h := AnyQ.slices_SortFunc_small_sorted (P := Tryz.prog) sortL 35 Tryz.isAgg63 Tryz.sizeOf63 Z2F Z0b (fun x v hv => List.all_eq_true.1 (Z8R x) v hv) ZdZ 60 #[] ZdU g 0 c A.toArray w (enters_of Tryz.func60 (by kernel_rfl) rfl) (Zc2 g 0 _ w) hH hg (by simpa using h12) hbl
 rw [show A.toArray.size = A.length from List.size_toArray ..] at h
 refine h.mono fun e w' ⟨he, d', n, os, hp, hs, hw⟩ => ?_
 have hsz : d'.size = A.length := by simpa using hp.1
 have hp2 : d'.toList.Perm A := by
  have := hp.2.2
  have e1 : d'.extract 0 A.length = d' := by rw [← hsz]; exact Array.extract_size
  have e2 : A.toArray.extract 0 A.length = A.toArray := Array.extract_size (xs := A.toArray)
  rw [e1, e2] at this
  exact this
 refine ⟨he, d'.toList, hp2, ?_, ?_, ?_⟩
 ·rw [List.pairwise_iff_getElem]
  intro i j hi hj hij
  have hi' : i < d'.size := by simpa using hi
  have hj' : j < d'.size := by simpa using hj
  have := hs i j (Nat.zero_le _) hij (by omega)
  rw [getElem!_pos d' i hi', getElem!_pos d' j hj'] at this
  rw [Z4U] at this
  have h5 := of_decide_eq_false this
  rwa [Array.getElem_toList, Array.getElem_toList]
 ·obtain ⟨q1, q2⟩ := Z3y Z2F 35 Z0b (by omega) d' cur (by rw [hsz, hcs]; exact Nat.mul_le_mul_right _ hnc)
  refine ⟨by rw [Z0T Z2F 35 Z0b]; simp [hsz], .inr ⟨g, c, putCells id 0 (flatK Z2F 35 d') cur, rfl, Nat.zero_le _, ?_, hnc, hcm, by rw [q1, hcs], by rw [← hsz]; exact q2⟩⟩
  rw [hw]
  unfold sortWorldK putRowK putRow mapBlock grow Sort.ahead
  simp only [Array.getElem?_append, Array.size_modify, hg, if_true, Array.getElem?_modify]
  rw [hb]; rfl
 ·subst hw
  refine ⟨rfl, rfl, rfl, size_sortWorldK_c _ _ _ _ _ _ _ _, fun k hk hne => ?_⟩
  have hne : g ≠ k := fun e => hne (by simp [e])
  unfold sortWorldK putRowK putRow mapBlock grow Sort.ahead
  simp only [Array.getElem?_append, Array.size_modify, hk, if_true, Array.getElem?_modify, if_neg hne]
theorem Za2 (w : World) (a : Option Addr) (c : Nat) (D : List Z1q) (hv : (Z04 [Zh 63 35 (.slice a D.length c) D.length (D.flatMap Z2F)]).ok w) (h12 : D.length ≤ 12) :
  Calls Tryz.prog 59 #[.slice a D.length c, .func (.func 60) #[] #[]] w fun e w' => ∃ D' : List Z1q, e = .returned (.tuple #[]) ∧ D'.Perm D ∧ (D'.Pairwise fun a b => ¬ Zbd b a) ∧ Sat w [Zh 63 35 (.slice a D'.length c) D'.length (D'.flatMap Z2F), ZF w (Z04 [Zh 63 35 (.slice a D.length c) D.length (D.flatMap Z2F)]).fp] w' := by
 have H := Sat.start _ hv
 cases hD : D with
 | nil =>
  subst hD
  refine (Z9a a c (.func (.func 60) #[] #[]) w).mono fun e w' ⟨he, hw⟩ => ?_
  subst hw
  exact ⟨[], he, List.Perm.refl _, List.Pairwise.nil, H⟩
 | cons x D0 =>
  rw [← hD]
  have hv0 := hv.1 _ (List.mem_singleton.2 rfl)
  obtain ⟨g, c', hs⟩ := Z0w hv0 (by rw [hD]; simp)
  simp only [Value.slice.injEq] at hs
  obtain ⟨rfl, _, rfl⟩ := hs
  refine (Zd3 w g c D hv0 h12).mono fun e w' ⟨he, D', hp, hs, hok, hu⟩ => ?_
  have hl := hp.length_eq
  refine ⟨D', he, hp, hs, ?_⟩
  rw [hl]
  exact H.setU hu 0 rfl (by rintro b' hb; rw [List.mem_singleton.1 hb]; rfl) hok (fun b hb => .inl hb)
end Go.Proofs.YtenihpghfdcpkaaGreat
