/- WHAT IS PROVED: contracts and plain laws of CmpE, Grow, CmpF, Small, Less, Sort12N, Sort12, TimeE, StrMap, EntM, Eqs, Strs, EntE, EnA. Conditions: stated with each. -/
import Derived.Sort.Grow
import Derived.Deep.Draws
import Derived.ChangeKeysEq
import Derived.Laws.IdiomStrings
import Derived.Test.YtenihpghfdcpkaaGreatPV02
import Derived.Test.YtenihpghfdcpkaaGreatPV03
import Derived.Test.YtenihpghfdcpkaaGreatPV04
import Derived.Test.YtenihpghfdcpkaaGreatPV05
import Derived.Test.YtenihpghfdcpkaaGreatPV06
import Derived.Test.YtenihpghfdcpkaaGreatPV07
import Derived.Test.YtenihpghfdcpkaaGreatPV13
import Derived.Test.YtenihpghfdcpkaaGreatPV14
import Derived.Test.YtenihpghfdcpkaaGreatPV17
import Derived.Test.YtenihpghfdcpkaaGreatPV18
import Derived.Test.YtenihpghfdcpkaaGreatPV20
set_option maxHeartbeats 4000000
set_option maxRecDepth 100000
namespace Go.Proofs.YtenihpghfdcpkaaGreat
open Go.RowKit Go.Sort
def Z71 (a b : Int) : Int := if a < b then -1 else if a > b then 1 else 0
theorem Zbe (a : Int) (W : World) : Calls Tryz.prog 120 #[i6 a] W fun e w' => e = .returned (.bool false) ∧ w' = W := by
 go_enter Tryz.func120, Tryz.ntmps120
 go_wp2
 go_ret
 exact ⟨by simp, rfl⟩
theorem Z7j (a b : Int) (W : World) : Calls Tryz.prog 92 #[i6 a, i6 b] W fun e w' => e = .returned (i6 (Z71 a b)) ∧ w' = W := by
 have hn := fun a W => Zbe a W
 go_enter Tryz.func92, Tryz.ntmps92
 go_wp2_with (go_at_call 120; refine (hn _ _).mono ?_; rintro e w' ⟨rfl, rfl⟩)
 all_goals (go_ret; exact ⟨by unfold Z71; split <;> first | rfl | (split <;> first | rfl | omega) | omega, rfl⟩)
def or2 (a b : Int) : Int := if a = 0 then b else a
theorem Zf0 (a b : Int) (B : Nat) (W : World) (h0 : W.cell? ⟨B, 0, none⟩ = some (i6 a)) (h1 : W.cell? ⟨B, 1, none⟩ = some (i6 b)) : Calls Tryz.prog 61 #[.slice (some ⟨B, 0, none⟩) 2 2] W fun e w' => e = .returned (i6 (or2 a b)) ∧ w' = W := by
 go_enter Tryz.func61, Tryz.ntmps61
 go_wp2
 refine wp_loop_rounds 3 ?_
 rw [rounds_succ]
 go_wp2
 ·go_ret
  exact ⟨by unfold or2; simp_all, rfl⟩
 ·rw [rounds_succ]
  go_wp2
  ·go_ret
   exact ⟨by unfold or2; simp_all, rfl⟩
  ·rw [rounds_succ]
   go_wp2
   go_ret
   exact ⟨by unfold or2; simp_all, rfl⟩
end Go.Proofs.YtenihpghfdcpkaaGreat
namespace Go.Proofs.YtenihpghfdcpkaaGreat
open Go.RowKit
def Gr (w w' : World) : Prop := ∃ q os', w' = Sort.grow (w.drewN q) os'
theorem Gr.refl (w : World) : Gr w w := ⟨0, #[], by simp [Sort.grow, World.drewN]⟩
theorem Gr.alloc (w : World) (o : Obj) : Gr w (w.alloc o) := ⟨0, #[o], by rw [Sort.alloc_eq_grow]; rfl⟩
theorem Gr.drew (w : World) : Gr w w.drew := ⟨1, #[], by rw [Sort.grow_empty]; rfl⟩
theorem Gr.trans {a b c : World} (h : Gr a b) (k : Gr b c) : Gr a c := by
 obtain ⟨q, os, rfl⟩ := h
 obtain ⟨q2, os2, rfl⟩ := k
 exact ⟨q + q2, os ++ os2, by simp [Sort.grow, World.drewN, Array.append_assoc, Nat.add_assoc]⟩
section
variable {P : Program} {ops : Array Oper} {n : Nat} {f : Nat → Value} {w w0 : World} {dst : Option Tmp} {ty : TypeId} {pos : String} {aft : Array Edge} {gd : Option (Nat × Bool)} {K : Act → World → Prop} {Q : Exit → Act → World → Prop} {G : List Ck}
theorem Ze8 {T : TypeId} {x : Operand} {v : Value} {vs : List Value} {d : Nat} (hd : dst = some d) (H : Sat w0 G w) (hx : ev n f x = v) (hvs : v.cells = ⟨vs⟩)
  (k : ∀ b w', Sat w0 (G ++ [Z0 b T vs]) w' → Gr w w' → K (fr n (upd f d (zp b))) w') : WO P ⟨dst, .box T x, ty, pos, aft, gd⟩ K Q n f w := by
 refine Z4p hd (e_box hx) (k _ _ ?_ (Gr.alloc _ _))
 rw [hvs]
 exact H.add ⟨rfl, rfl, rfl, by simp⟩ (fun b hb => Below.heap_alloc w _ b hb) (Z1D w _) (fun b hb => Nat.le_of_eq hb.symm)
theorem ZcX {id : Nat} {l : List Oper} (H : Sat w0 G w) (Gs : List Ck) (m : Nat) (hl : l.length = m) (hm : P.follows .mixedOrders = true) (hs : Sat w0 G w.drew → Sat w0 Gs w.drew) (k : ∀ w1, Sat w0 G w1 → Sat w0 Gs w1 → Gr w w1 → WH P l.toArray Q (Sat w0 Gs) m (Array.replicate m false) n f w1) :
  WC P (Code.region id l.toArray true) Q n f w := by
 subst hl
 exact ⟨wp_region_held (S := Sat w0 Gs) hm (by simpa using (k w.drew H.drew (hs H.drew) (Gr.drew _)).h)⟩
theorem Z7J {T e : TypeId} {size bytes N : Nat} {parts : Array (Nat × Operand)} {d : Nat} (hd : dst = some d) (H : Sat w0 G w) (hR : Z5C P T e size bytes = true) {z : Value} (hz : (P.info? e).bind (·.zero) = some z) {pvs : List (Nat × Value)} {vs : List Value}
  (hp : (parts.map fun q => (q.1, ev n f q.2)).toList = pvs) (hf : Instr.fill (fun j => some (j * size, size)) ((Array.range (N * size)).map fun q => z.cells[q % z.cells.size]!) pvs = some ⟨vs⟩) (hl : Nat.beq vs.length (N * size) = true) (hN : Nat.blt 0 N = true) (hsz : Nat.ble (N * size) 16777216 = true)
  (kk : ∀ b w', Sat w0 (G ++ [Zo e size (.slice (some ⟨b, 0, none⟩) N N) N vs]) w' → Gr w w' → K (fr n (upd f d (.slice (some ⟨b, 0, none⟩) N N))) w') : WO P ⟨dst, .buildSlice T N parts, ty, pos, aft, gd⟩ K Q n f w := by
 obtain ⟨i, z', ht, hi, hz', hs, hby, hzs, h0⟩ := Z5r hR
 have hl := Nat.eq_of_beq_eq_true hl
 have hsz := Nat.le_of_ble_eq_true hsz
 have hN : 0 < N := by simpa [Nat.blt_eq] using hN
 have hpos : 0 < N * size := Nat.mul_pos hN h0
 have hr : (execOp (ev n f) ⟨dst, .buildSlice T N parts, ty, pos, aft, gd⟩).run P w = .ok (.value (.slice (some ⟨w.heap.size, 0, none⟩) N N)) (w.alloc (.cells ⟨vs⟩ e (0, 0))) := by
  have hp2 : (parts.map fun q => (q.1, ev n f q.2)).toList = pvs := hp
  simp only [execOp, Instr.buildSlice]
  have hzv := Z43 (P := P) (w := w) hz
  have h1 : ¬ 16777216 < N * size := by omega
  have h2 : ¬ N * size = 0 := by omega
  simp only [hp2]
  simp [run_underlying ht, sizeOf, typeInfo, hi, hs, Result.andThen, h1, h2, hzv, hf, newRow]
 refine Z4p hd hr (kk _ _ (H.add ⟨rfl, rfl, rfl, by simp⟩ (fun b hb => Below.heap_alloc w _ b hb) ?_ (fun b hb => ?_)) (Gr.alloc _ _))
 ·refine ⟨hl, .inr ⟨w.heap.size, N, ⟨vs⟩, rfl, Nat.zero_le _, Z1D w _, Nat.le_refl _, ?_, by simpa using hl, ?_⟩⟩
  ·have := Nat.le_mul_of_pos_right N h0
   unfold maxLen; omega
  ·rw [← hl]; simp
 ·simp [Zo, Value.ownBlock] at hb; omega
end
abbrev Z6p (p0 : Int) (p1 : Int) : List Value := ([i6 p0, i6 p1] : LV)
theorem Zb8 (w : World) (a b c d : Int) :
  Calls Tryz.prog 63 #[(.agg ⟨([i6 a, i6 b] : LV)⟩), (.agg ⟨([i6 c, i6 d] : LV)⟩)] w fun e w' => e = .returned (i6 (or2 (Z71 a c) (Z71 b d))) ∧ Upd [] w w' ∧ Gr w w' := by
 have H := Sat.start0 w
 refine Zg Tryz.func63 rfl 17 rfl kn ?_
 refine zsl <| zy <| Ze8 (vs := (Z6p a b)) rfl H rfl rfl fun b2 w3 H4 g5 => ?_
 refine kk <| zy <| Ze8 (vs := (Z6p c d)) rfl H4 rfl rfl fun b7 w8 H9 g10 => ?_
 have gr11 := g5.trans g10
 refine kk <| wv 4 (vi 0) <| znt <| Z9 <| ZcX H9 [zR w, Z0 b2 59 (Z6p a b), Z0 b7 59 (Z6p c d)] 13 rfl kr (fun Hx => (Hx.pk [0, 1, 2])) fun w12 H13 S14 g15 => ?_
 have gr16 := gr11.trans g15
 refine hv0 0 S14 5 (pt b2 0) <| hv0 1 S14 6 (vi a) ?_ (he := fun _ H' => (zl1 (H'.cell 1 rfl rfl)))
 refine hv0 2 S14 7 (pt b7 0) <| hv0 3 S14 8 (vi c) ?_ (he := fun _ H' => (zl1 (H'.cell 2 rfl rfl)))
 refine hv0 5 S14 10 (pt b2 1) <| hv0 6 S14 11 (vi b) ?_ (he := fun _ H' => (zl1 (H'.cell 1 rfl rfl)))
 refine hv0 7 S14 12 (pt b7 1) <| hv0 8 S14 13 (vi d) ?_ (he := fun _ H' => (zl1 (H'.cell 2 rfl rfl)))
 refine zhy 4 ?_
 refine zdc 9 (Z7j a c w12) ?_
 rintro _ w18 ⟨rfl, hw18⟩
 obtain rfl := hw18.symm
 refine ⟨_, rfl, ?_⟩
 have S19 := H13.pk [0, 1, 2]
 refine kh S19 <| zhy 9 ?_
 refine zdc 14 (Z7j b d w12) ?_
 rintro _ w21 ⟨rfl, hw21⟩
 obtain rfl := hw21.symm
 refine ⟨_, rfl, ?_⟩
 have S22 := H13.pk [0, 1, 2]
 refine kh S22 <| zhy 10 ?_
 refine Z7J (e := 3) (size := 1) (bytes := 8) (z := (vi 0)) (pvs := [(0, (vi (Z71 a c))), (1, (vi (Z71 b d)))]) (vs := (Z6p (Z71 a c) (Z71 b d))) rfl H13 kr kr kr kr kr rfl rfl ?_
 intro b24 w25 H26 g27
 have gr28 := gr16.trans g27
 have S29 := H26.pk [0, 1, 2]
 refine kh S29 <| zhy 11 ?_
 refine zdc 16 (Zf0 (Z71 a c) (Z71 b d) b24 w25 (Z5c (H26.at 3 rfl) rfl rfl) (Z5c (H26.at 3 rfl) rfl rfl)) ?_
 rintro _ w31 ⟨rfl, hw31⟩
 obtain rfl := hw31.symm
 refine ⟨_, rfl, ?_⟩
 have S32 := H26.pk [0, 1, 2]
 let A0 := or2 (Z71 a c) (Z71 b d)
 refine kh S32 <| hv0 12 S32 4 (vi A0) <| zhf <| ztn <| Zk <| ze1 (vi A0) ?_
 exact ⟨rfl, H26.upd 0 rfl [] ne, gr28⟩
end Go.Proofs.YtenihpghfdcpkaaGreat
namespace Go.Proofs.YtenihpghfdcpkaaGreat
end Go.Proofs.YtenihpghfdcpkaaGreat
namespace Go.Proofs.YtenihpghfdcpkaaGreat
open Go.RowKit
def Hash.at (a : Hash) (i : Nat) : UInt8 := a.l.getD i 0
def LessH (a b : Hash) : Prop := ∃ i, i < 32 ∧ a.at i < b.at i ∧ ∀ j, j < i → a.at j = b.at j
def lessB (a b : Hash) : Bool := decide (Extern.BytealgCompare.cmp ⟨a.l.toArray⟩ ⟨b.l.toArray⟩ < 0)
theorem LessH.trans {a b c : Hash} (h : LessH a b) (k : LessH b c) : LessH a c := by
 obtain ⟨i, hi, h1, h2⟩ := h
 obtain ⟨j, hj, k1, k2⟩ := k
 rcases Nat.lt_trichotomy i j with e | e | e
 ·exact ⟨i, hi, by rw [← k2 i e]; exact h1, fun q hq => (h2 q hq).trans (k2 q (by omega))⟩
 ·subst e; exact ⟨i, hi, UInt8.lt_trans h1 k1, fun q hq => (h2 q hq).trans (k2 q hq)⟩
 ·exact ⟨j, hj, by rw [h2 j e]; exact k1, fun q hq => (h2 q (by omega)).trans (k2 q hq)⟩
section
variable {P : Program} {w : World}
end
section
variable {P : Program} {n : Nat} {f : Nat → Value} {w : World}
end
end Go.Proofs.YtenihpghfdcpkaaGreat
namespace Go.Proofs.YtenihpghfdcpkaaGreat
open Go.RowKit Go.Shelf Go.Sort
theorem Zdg (p : Option Addr) (cap : Nat) (fv : Value) (w : World) : Calls Tryz.prog 128 #[.slice p 0 cap, i6 0, i6 0, fv] w fun e w' => e = .returned (.tuple #[]) ∧ w' = w := by
 go_enter Tryz.func128, Tryz.ntmps128
 go_wp2
 refine wp_loop_rounds 1 ?_
 rw [rounds_succ]
 go_wp2
 go_end0
 exact ⟨rfl, rfl⟩
theorem Zdr (p : Option Addr) (cap : Nat) (lim : Int) (fv : Value) (w : World) : Calls Tryz.prog 101 #[.slice p 0 cap, i6 0, i6 0, i6 lim, fv] w fun e w' => e = .returned (.tuple #[]) ∧ w' = w := by
 have hi := fun W => Zdg p cap fv W
 go_enter Tryz.func101, Tryz.ntmps101
 go_wp2
 refine wp_loop_rounds 1 ?_
 rw [rounds_succ]
 go_wp2_with (go_at_call 128; refine (hi _).mono ?_; rintro e w' ⟨rfl, rfl⟩)
 (try simp only [Exit.inBlock, Exit.then]); refine bodyPost_ret (results_none rfl _ _ _) rfl ?_
 exact ⟨rfl, rfl⟩
theorem Zbz (p : Option Addr) (cap : Nat) (fv : Value) (w : World) : Calls Tryz.prog 59 #[.slice p 0 cap, fv] w fun e w' => e = .returned (.tuple #[]) ∧ w' = w := by
 have hp := fun lim W => Zdr p cap lim fv W
 have hl : ∀ W, Calls Tryz.prog 102 #[u6 0] W fun e w' => e = .returned (i6 (Lib.bitLen 0 : Nat)) ∧ w' = W := fun W => Any.bits_Len bitsL 0 W (by omega) (by omega)
 go_enter Tryz.func59, Tryz.ntmps59
 go_wp2_with (first | (go_at_call 102; refine (hl _).mono ?_; rintro e w' ⟨rfl, rfl⟩) | (go_at_call 101; refine (hp _ _).mono ?_; rintro e w' ⟨rfl, rfl⟩))
 go_end0
 exact ⟨rfl, rfl⟩
instance : Inhabited Z3x := ⟨Z1t⟩
def ltEn (x y : Z3x) : Prop := x.t < y.t ∨ (x.t = y.t ∧ (x.cl < y.cl ∨ (x.cl = y.cl ∧ x.sq < y.sq)))
instance (x y : Z3x) : Decidable (ltEn x y) := by unfold ltEn; exact inferInstance
end Go.Proofs.YtenihpghfdcpkaaGreat
namespace Go.Proofs.YtenihpghfdcpkaaGreat
open Go.RowKit
abbrev ZaB (p0 : Zj) (p1 : Option Addr) (p2 : Nat) (p3 : Nat) : List Value := ([i6 p0.cl, i6 p0.seq] : LV) ++ hc p0.h ++ ([i6 p0.len, i6 p0.sb, i6 p0.sm, (.slice p1 p2 p3)] : LV)
abbrev Zaw (p0 : Option Addr) (p1 : List Int) (p2 : Nat) : Ck := Zo 25 1 (.slice p0 p1.length p2) p1.length (p1.flatMap Z4b)
abbrev Zdc (p0 : Zb) : List Value := ([i6 p0.r, i6 p0.cl, i6 p0.seq] : LV) ++ hc p0.h ++ ([u6 p0.t, i6 p0.sb, i6 p0.sm] : LV)
abbrev Zd2 : List Value := ([i6 0, i6 0, i6 0] : LV) ++ hc Zz ++ ([u6 0, i6 0, i6 0] : LV)
theorem Z93 (w : World) (x : Zj) (sa : Option Addr) (sc : Nat) (S : List Zb) (hS : ListAt Z2O 38 w (.slice sa S.length sc) S) (hlS : S.length ≤ 12) :
  Calls Tryz.prog 57 #[(.agg ⟨(([i6 x.cl, i6 x.seq] : LV) ++ hc x.h ++ ([i6 x.len, i6 x.sb, i6 x.sm, (.slice sa S.length sc)] : LV))⟩)] w fun e w' => e = .returned (u6 (ZZ S)) ∧ Upd [] w w' := by
 have H := Sat.start0 w
 refine Zg Tryz.func57 rfl 27 rfl kn ?_
 let A5 := ZaB x sa S.length sc
 refine zsl <| zy <| zdb A5 H fun b2 w3 H4 => ?_
 refine kk <| wv 2 (vu 0) <| Z1a <| wv 3 (.slice none 0 0) <| znt <| Z9 <| zsl <| wv 8 (pt b2 37) <| zw1 9 (.slice sa S.length sc) (H4.cell 1 rfl kr) <| wv 10 (vi S.length) ?_
 refine wv 11 (vi 0) <| znt <| Zh ?_
 have H5 := H4.addNil 25 1
 refine ZB ([3, 5] ++ List.range' 11 10) (fun F_ W_ m_ => ∃ (i : Nat) (a : Option Addr) (c : Nat) (D : List Int), F_ 11 = (vi i) ∧ F_ 3 = (.slice a D.length c) ∧ (i ≤ S.length) ∧ (D = Z3C (S.take i)) ∧ Sat w [zR w, Z0 b2 76 A5, (Zaw a D c)] W_ ∧ m_ = S.length - i) _ ⟨0, none, 0, [], (show ((vi 0) : Value) = _ by first | rfl | go_num), (by first | rfl | go_num), (Nat.zero_le _), rfl, H5, rfl⟩ ?_
 rintro g6 w7 _ ⟨i, a, c, D, v9, v10, hi, hD, H8, rfl⟩
 refine Zn 11 _ v9 ?_
 refine Zn 3 _ v10 ?_
 have hDl : D.length = i := by rw [hD, Z5p, List.length_take]; omega
 refine zsl <| wv 12 (.bool (decide ((i : Int) < S.length))) <| znt <| Z9 ?_
 refine zid (fun b12 g13 => ?_) fun b12 g41 => ?_
 ·refine Zp <| ztn <| Z9 <| Zh <| zsl ?_
  obtain ⟨g15, o16, c17, e18, R19⟩ := SliceOf.atD hS Zl (show i < S.length by omega)
  refine wv 13 (.pointer (some ⟨g15, o16 + ((i : Int)).toNat * 38, none⟩)) ?_ (hr := Z8 (E := 149) kr kr kn rfl e18 rfl om om)
  let A2 := Zdc (S.getD i Zl)
  refine wv 14 (.agg ⟨A2⟩) ?_ (hr := ZX (vs := A2) rfl kr kr kn (H8.runR 0 rfl (Z08 R19 0 kr (show o16 + ((i : Int)).toNat * 38 = o16 + i * 38 + 0 by omega)) (fun h => h)))
  refine zy <| zda (Zd2) H8 fun b21 w22 H23 => ?_
  refine kk <| zy <| Z1S A2 H23 3 fun w25 H26 => ?_
  let A0 : Value := vu ((S.getD i Zl).t)
  refine kk <| znt <| ZG <| wv 15 (.slice a D.length c) <| wv 16 (pt b21 35) <| zw1 17 A0 (H26.cell 3 rfl kr) <| zy <| Z2z 25 1 8 (vu 0) [(0, A0)] ([A0] : LV) H26 fun b29 w30 H31 => ?_
  have H32 := H31.ct 4 rfl (Zo 25 1 (.slice (some ⟨b29, 0, none⟩) 1 1) 1 ([(S.getD i Zl).t].flatMap Z4b)) (by rw [show (([A0] : LV) : LV) = [(S.getD i Zl).t].flatMap Z4b from rfl])
  refine kk <| zy <| Z0t (T := 109) (e := 25) (size := 1) (bytes := 8) rfl H32 kr 2 4 rfl rfl rfl rfl (Z0q Z4b Zao [(S.getD i Zl).t]) om om fun v34 w35 H36 => ?_
  have H39 := H36.ct 2 rfl (Zo 25 1 v34 ((D ++ [(S.getD i Zl).t]).length) ((D ++ [(S.getD i Zl).t]).flatMap Z4b)) ja
  obtain ⟨a37, c38, rfl⟩ := Z3 (H39.at 2 rfl)
  let A4 : Value := .slice a37 ((D ++ [(S.getD i Zl).t]).length) c38
  refine kk <| wv 3 A4 <| ZL <| Z6 <| ztn <| ZG <| zwi 20 ((i : Int) + 1) <| wv 11 (vi ((i : Int) + 1)) <| ZL ?_
  have hDl : D.length = i := by rw [hD, Z5p, List.length_take]; omega
  have H40 := H39.pk [0, 1, 2]
  refine Za ?_ _ ⟨(i + 1), a37, c38, (D ++ [(S.getD i Zl).t]), rfl, (show (A4 : Value) = _ by first | rfl | go_num), om, (by rw [hD, Z7q S om]), H40, rfl⟩ om
  exact zs
 refine zxb <| ztn <| zsl <| wv 22 (.slice a D.length c) <| zy <| zdq 23 (Zda w7 (.slice a D.length c) D (ListAt.row (enc := Z4b) (sz := 1) Z2j (by decide) (H8.at 2 rfl)) om) H8 fun w44 H45 => ?_
 let A1 : Value := .bool (decide (D.length % 2 = 1))
 let A3 : Value := vu (Z8L D)
 refine kk <| wv 21 (.tuple #[A3, A1]) <| wv 24 A3 <| wv 25 A1 <| wv 6 A3 <| wv 7 A1 <| Z1a <| wv 26 A3 <| wv 2 A3 <| znt ?_
 refine Zk <| ze1 A3 ?_
 have hT : D = Z3C S := by rw [hD, List.take_of_length_le om]
 exact ⟨by unfold ZZ; rw [← hT], H45.upd 0 rfl [] ne⟩
theorem Z2T (w : World) (x : Zj) (sa : Option Addr) (sc : Nat) (S : List Zb) (hS : ListAt Z2O 38 w (.slice sa S.length sc) S) (hlS : S.length ≤ 12) :
  Calls Tryz.prog 17 #[(.agg ⟨(([i6 x.cl, i6 x.seq] : LV) ++ hc x.h ++ ([i6 x.len, i6 x.sb, i6 x.sm, (.slice sa S.length sc)] : LV))⟩)] w fun e w' => e = .returned (u6 (ZZ S)) ∧ Upd [] w w' := by
 have H := Sat.start0 w
 refine Zg Tryz.func17 rfl 29 rfl kn ?_
 let A4 := ZaB x sa S.length sc
 refine zsl <| zy <| zdb A4 H fun b2 w3 H4 => ?_
 refine kk <| wv 2 (vu 0) <| Z1a <| wv 3 (.slice none 0 0) <| znt <| Z9 <| zsl <| wv 7 (pt b2 37) <| zw1 8 (.slice sa S.length sc) (H4.cell 1 rfl kr) <| wv 9 (vi S.length) ?_
 refine wv 10 (vi 0) <| znt <| Zh ?_
 have H5 := H4.addNil 25 1
 refine ZB ([3, 4] ++ List.range' 10 13) (fun F_ W_ m_ => ∃ (i : Nat) (a : Option Addr) (c : Nat) (D : List Int), F_ 10 = (vi i) ∧ F_ 3 = (.slice a D.length c) ∧ (i ≤ S.length) ∧ (D = Z3C (S.take i)) ∧ Sat w [zR w, Z0 b2 76 A4, (Zaw a D c)] W_ ∧ m_ = S.length - i) _ ⟨0, none, 0, [], (show ((vi 0) : Value) = _ by first | rfl | go_num), (by first | rfl | go_num), (Nat.zero_le _), rfl, H5, rfl⟩ ?_
 rintro g6 w7 _ ⟨i, a, c, D, v9, v10, hi, hD, H8, rfl⟩
 refine Zn 10 _ v9 ?_
 refine Zn 3 _ v10 ?_
 have hDl : D.length = i := by rw [hD, Z5p, List.length_take]; omega
 refine zsl <| wv 11 (.bool (decide ((i : Int) < S.length))) <| znt <| Z9 ?_
 refine zid (fun b12 g13 => ?_) fun b12 g33 => ?_
 ·refine Zp <| ztn <| Z9 <| Zh <| zsl <| wv 12 (vi i) <| wv 4 (vi i) <| znt <| ZG <| wv 13 (.slice a D.length c) ?_
  refine wv 14 (pt b2 37) <| zw1 15 (.slice sa S.length sc) (H8.cell 1 rfl kr) <| wv 16 (vi i) ?_
  obtain ⟨g15, o16, c17, e18, R19⟩ := SliceOf.atD hS Zl (show i < S.length by omega)
  refine wv 17 (.pointer (some ⟨g15, o16 + ((i : Int)).toNat * 38, none⟩)) ?_ (hr := Z8 (E := 149) kr kr kn rfl e18 rfl om om)
  let A0 : Value := vu ((S.getD i Zl).t)
  refine wv 18 (.pointer (some ⟨g15, o16 + ((i : Int)).toNat * 38 + 35, none⟩)) <| zw1 19 A0 (H8.cellR 0 rfl (Z0f R19 35 kr (show o16 + ((i : Int)).toNat * 38 + 35 = o16 + i * 38 + 35 by omega)) (fun h => h)) <| zy <| Z2z 25 1 8 (vu 0) [(0, A0)] ([A0] : LV) H8 fun b21 w22 H23 => ?_
  have H24 := H23.ct 3 rfl (Zo 25 1 (.slice (some ⟨b21, 0, none⟩) 1 1) 1 ([(S.getD i Zl).t].flatMap Z4b)) (by rw [show (([A0] : LV) : LV) = [(S.getD i Zl).t].flatMap Z4b from rfl])
  refine kk <| zy <| Z0t (T := 109) (e := 25) (size := 1) (bytes := 8) rfl H24 kr 2 3 rfl rfl rfl rfl (Z0q Z4b Zao [(S.getD i Zl).t]) om om fun v26 w27 H28 => ?_
  have H31 := H28.ct 2 rfl (Zo 25 1 v26 ((D ++ [(S.getD i Zl).t]).length) ((D ++ [(S.getD i Zl).t]).flatMap Z4b)) ja
  obtain ⟨a29, c30, rfl⟩ := Z3 (H31.at 2 rfl)
  let A3 : Value := .slice a29 ((D ++ [(S.getD i Zl).t]).length) c30
  refine kk <| wv 3 A3 <| ZL <| Z6 <| ztn <| ZG <| zwi 22 ((i : Int) + 1) <| wv 10 (vi ((i : Int) + 1)) <| ZL ?_
  have hDl : D.length = i := by rw [hD, Z5p, List.length_take]; omega
  have H32 := H31.pk [0, 1, 2]
  refine Za ?_ _ ⟨(i + 1), a29, c30, (D ++ [(S.getD i Zl).t]), rfl, (show (A3 : Value) = _ by first | rfl | go_num), om, (by rw [hD, Z7q S om]), H32, rfl⟩ om
  exact zs
 refine zxb <| ztn <| zsl <| wv 24 (.slice a D.length c) <| zy <| zdq 25 (Zdp w7 (.slice a D.length c) D (ListAt.row (enc := Z4b) (sz := 1) Z2j (by decide) (H8.at 2 rfl)) om) H8 fun w36 H37 => ?_
 let A1 : Value := .bool (decide (D.length % 2 = 1))
 let A2 : Value := vu (Z8L D)
 refine kk <| wv 23 (.tuple #[A2, A1]) <| wv 26 A2 <| wv 27 A1 <| wv 5 A2 <| wv 6 A1 <| Z1a <| wv 28 A2 <| wv 2 A2 <| znt ?_
 refine Zk <| ze1 A2 ?_
 have hT : D = Z3C S := by rw [hD, List.take_of_length_le om]
 exact ⟨by unfold ZZ; rw [← hT], H37.upd 0 rfl [] ne⟩
section
variable {κ ν : Type} [DecidableEq κ] {encK : κ → Value} {encV : ν → Value} {P : Program} {k : TypeId} {w : World} {b : Nat} {l : List (κ × ν)}
end
section
variable {P : Program} {Q : Exit → Act → World → Prop} {n : Nat} {f : Nat → Value} {w0 w : World} {G : List Ck} {dst : Option Tmp} {ty : TypeId} {pos : String} {aft : Array Edge} {gd : Option (Nat × Bool)} {K' : Act → World → Prop}
end
def Z3q (x : NmD) : Prop := (0 ≤ x.cl ∧ x.cl < 3) ∧ 1 ≤ x.sq ∧ x.sq ≤ 4
def Zeq (c : CeR) : Prop := Z3q ⟨c.x.cl, c.x.seq⟩ ∧ c.S.length ≤ 12 ∧ ZdM c.S
noncomputable def Z7F (c : CeR) : Z3x := ⟨c.x.cl, c.x.seq, c.x.h, ZZ c.S⟩
def Z72 (e : Z3x) : NmD := ⟨e.cl, e.sq⟩
def Ze4 (a b : Z3x) : Bool := decide (a.t < b.t) || (decide (a.t = b.t) && lessB a.h b.h)
abbrev ZcU := List (NmD × Z3x)
def Z9x (last tm : Int) (lg : NmD → Bool) (e : Z3x) : Bool := decide (e.t ≤ last) || decide (e.t > tm) || lg (Z72 e)
def Z7X (last tm : Int) (lg : NmD → Bool) (M : ZcU) (e : Z3x) : ZcU :=
 if Z9x last tm lg e = true then M else match Zv M (Z72 e) with
  | none => Z30 M (Z72 e) e
  | some was => if Ze4 e was = true then Z30 M (Z72 e) e else M
noncomputable def Zf8 (last tm : Int) (lg : NmD → Bool) (L : List CeR) : ZcU := L.foldl (fun M c => Z7X last tm lg M (Z7F c)) []
section
variable {last tm : Int} {lg : NmD → Bool} {M : ZcU} {e : Z3x} {L : List CeR} {c : CeR}
theorem ZcE (h : Z9x last tm lg e = false) (h2 : Zv M (Z72 e) = none) : Z7X last tm lg M e = Z30 M (Z72 e) e := by unfold Z7X; rw [if_neg (by rw [h]; decide), h2]
theorem ZcB {was : Z3x} (h : Z9x last tm lg e = false) (h2 : Zv M (Z72 e) = some was) : Z7X last tm lg M e = if Ze4 e was = true then Z30 M (Z72 e) e else M := by unfold Z7X; rw [if_neg (by rw [h]; decide), h2]
structure EOk (M : ZcU) : Prop where
 nd : (M.map (·.1)).Nodup
 nm : ∀ x ∈ M, x.1 = Z72 x.2
 sm : ∀ x ∈ M, Z3q x.1
end
section
variable {κ ν : Type} [DecidableEq κ] {l : List (κ × ν)} {a : κ} {v : ν}
theorem Z82 {y : κ × ν} (h : y ∈ Z30 l a v) : y = (a, v) ∨ y ∈ l := by
 unfold Z30 at h
 split at h
 ·obtain ⟨z, hz, e⟩ := List.mem_map.1 h
  split at e
  ·exact .inl e.symm
  ·exact .inr (e ▸ hz)
 ·rcases List.mem_append.1 h with h | h
  ·exact .inr h
  ·exact .inl (List.mem_singleton.1 h)
theorem Z8w {x : ν} (h : Zv l a = some x) : (a, x) ∈ l := by
 unfold Zv at h
 obtain ⟨y, hy, rfl⟩ := Option.map_eq_some_iff.1 h
 have h1 := List.find?_some hy
 have h2 := List.mem_of_find?_eq_some hy
 have h3 : y.1 = a := by simpa using h1
 rw [← h3]; exact h2
theorem Zbb : Zv l a = none ↔ a ∉ l.map (·.1) := by
 unfold Zv
 rw [Option.map_eq_none_iff, List.find?_eq_none]
 constructor
 ·intro h hm
  obtain ⟨y, hy, rfl⟩ := List.mem_map.1 hm
  exact h y hy (by simp)
 ·intro h y hy he
  have h3 : y.1 = a := by simpa using he
  exact h (h3 ▸ List.mem_map_of_mem hy)
theorem Z4f : (Z30 l a v).map (·.1) = if a ∈ l.map (·.1) then l.map (·.1) else l.map (·.1) ++ [a] := by
 unfold Z30
 split
 ·rw [List.map_map]
  refine List.map_congr_left fun y _ => ?_
  show (if y.1 = a then (a, v) else y).1 = y.1
  split
  ·rename_i e; exact e.symm
  ·rfl
 ·simp
end
theorem Z4W : ∀ (n : Nat) (l : List Nat), l.Nodup → (∀ x ∈ l, x < n) → l.length ≤ n
 | 0, l, _, h => by
  cases l with
  | nil => simp
  | cons x l => exact absurd (h x (by simp)) (Nat.not_lt_zero _)
 | n + 1, l, hn, h => by
  have ih := Z4W n (l.erase n) (hn.erase n) fun x hx => by
   have h1 := (List.Nodup.mem_erase_iff hn).1 hx
   have h2 := h x h1.2
   have := h1.1
   omega
  by_cases hm : n ∈ l
  ·have := List.length_erase_of_mem hm; omega
  ·rw [List.erase_of_not_mem hm] at ih; omega
section
variable {last tm : Int} {lg : NmD → Bool} {M : ZcU} {e : Z3x} {L : List CeR} {c : CeR}
theorem EOk.nil : EOk [] := ⟨List.nodup_nil, by simp, by simp⟩
theorem EOk.put (h : EOk M) (hs : Z3q (Z72 e)) : EOk (Z30 M (Z72 e) e) := by
 refine ⟨?_, fun x hx => ?_, fun x hx => ?_⟩
 ·rw [Z4f]
  split
  ·exact h.nd
  ·rename_i q
   rw [List.nodup_append]
   exact ⟨h.nd, by simp, fun a ha b hb e => by rw [List.mem_singleton.1 hb] at e; exact q (e ▸ ha)⟩
 ·rcases Z82 hx with rfl | hx
  ·rfl
  ·exact h.nm x hx
 ·rcases Z82 hx with rfl | hx
  ·exact hs
  ·exact h.sm x hx
theorem EOk.step (h : EOk M) (hs : Z3q (Z72 e)) : EOk (Z7X last tm lg M e) := by
 unfold Z7X
 split
 ·exact h
 ·split
  ·exact h.put hs
  ·split
   ·exact h.put hs
   ·exact h
theorem Zel (h : ∀ c ∈ L, Zeq c) : EOk (Zf8 last tm lg L) := by
 have key : ∀ (L : List CeR) (M : ZcU), EOk M → (∀ c ∈ L, Zeq c) → EOk (L.foldl (fun M c => Z7X last tm lg M (Z7F c)) M) := by
  intro L
  induction L with
  | nil => intro M hM _; exact hM
  | cons c L ih => intro M hM hc; exact ih _ (hM.step (hc c (by simp)).1) fun d hd => hc d (by simp [hd])
 exact key L [] EOk.nil h
theorem EOk.len (h : EOk M) : M.length ≤ 12 := by
 have hm := Z4W 12 ((M.map (·.1)).map fun x => (x.cl * 4 + (x.sq - 1)).toNat) ?_ ?_
 ·simpa using hm
 ·rw [List.Nodup, List.pairwise_map]
  refine List.Pairwise.imp_of_mem ?_ h.nd
  intro a b ha hb hne e
  obtain ⟨x, hx, rfl⟩ := List.mem_map.1 ha
  obtain ⟨y, hy, rfl⟩ := List.mem_map.1 hb
  have hx' := h.sm x hx
  have hy' := h.sm y hy
  unfold Z3q at hx' hy'
  apply hne
  have h1 : x.1.cl = y.1.cl := by omega
  have h2 : x.1.sq = y.1.sq := by omega
  cases hx1 : x.1; cases hy1 : y.1
  simp_all
 ·intro z hz
  obtain ⟨a, ha, rfl⟩ := List.mem_map.1 hz
  obtain ⟨x, hx, rfl⟩ := List.mem_map.1 ha
  have := h.sm x hx
  unfold Z3q at this
  omega
theorem EOk.inj (h : EOk M) : ∀ a ∈ M.map (·.2), ∀ b ∈ M.map (·.2), Z72 a = Z72 b → a = b := fun a ha b hb e => by
 obtain ⟨x, hx, rfl⟩ := List.mem_map.1 ha
 obtain ⟨y, hy, rfl⟩ := List.mem_map.1 hb
 have e2 : x.1 = y.1 := by rw [h.nm x hx, h.nm y hy, e]
 obtain ⟨i, hi, hxi⟩ := List.mem_iff_getElem.1 hx
 obtain ⟨j, hj, hyj⟩ := List.mem_iff_getElem.1 hy
 have key : i = j := by
  have hp := List.pairwise_iff_getElem.1 h.nd
  rcases Nat.lt_trichotomy i j with q | q | q
  ·exact absurd (by rw [List.getElem_map, List.getElem_map, hxi, hyj, e2]) (hp i j (by simpa using hi) (by simpa using hj) q)
  ·exact q
  ·exact absurd (by rw [List.getElem_map, List.getElem_map, hxi, hyj, e2]) (hp j i (by simpa using hj) (by simpa using hi) q)
 subst key
 rw [← hxi, ← hyj]
end
section
variable {last tm : Int} {lg : NmD → Bool} {M M' : ZcU} {A C : List CeR} {P : List PrR} {i k : Nat} {w : World}
theorem Z23 (h : k < C.length) : C.getD k ce0 ∈ C := by
 rw [List.getD_eq_getElem?_getD, List.getElem?_eq_getElem h]; exact List.getElem_mem h
theorem Z95 (h : i < P.length) : P.getD i pr0 ∈ P := by
 rw [List.getD_eq_getElem?_getD, List.getElem?_eq_getElem h]; exact List.getElem_mem h
def PSm (P : List PrR) : Prop := ∀ p ∈ P, ∀ c ∈ p.C, Zeq c
theorem PSm.at (h : PSm P) (hi : i < P.length) (hk : k < (P.getD i pr0).C.length) : Zeq ((P.getD i pr0).C.getD k ce0) := h _ (Z95 hi) _ (Z23 hk)
theorem PSm.all (h : PSm P) : ∀ c ∈ P.flatMap (·.C), Zeq c := fun c hc => by
 obtain ⟨p, hp, hc⟩ := List.mem_flatMap.1 hc
 exact h p hp c hc
variable {LM : List (NmD × Bool)} {lg : NmD → Bool} {c : CeR} {v : Z3x}
end
section
variable {P : Program} {t : TypeId} {X : Type} [DecidableEq X]
variable {enc : X → List Value}
end
section
variable {P : Program} {n : Nat} {f : Nat → Value} {w : World} {dst : Option Tmp} {ty : TypeId} {pos : String} {aft : Array Edge} {gd : Option (Nat × Bool)}
end
instance : DecidableEq Z3x := fun a b =>
 if h : a.cl = b.cl ∧ a.sq = b.sq ∧ a.h = b.h ∧ a.t = b.t then .isTrue (by cases a; cases b; simp_all) else .isFalse (fun e => h (by rw [e]; simp))
theorem Zed (w : World) : (zeroValue 63).run Tryz.prog w = .ok (Z9i Z1t) w := by kernel_rfl
theorem ZcL (a b : Int) : Instr.sameBits 10000 (.agg ⟨[i6 a, i6 b]⟩) (.agg ⟨[i6 a, i6 b]⟩) = true := by simp [Instr.sameBits]
theorem nmK : KeyTy Tryz.prog 59 nmV := KeyTy.deep (by kernel_rfl) (fun w em a => by cases em <;> kernel_rfl) (fun w x y => by
 simp only [Op.equal, Op.maxDepth, nmV, Z2n]
 simp [go_sem]
 obtain ⟨x1, x2⟩ := x
 obtain ⟨y1, y2⟩ := y
 by_cases h1 : x1 = y1 <;> by_cases h2 : x2 = y2 <;> simp_all) (fun a => ZcL _ _)
theorem Zdb {n : Nat} {f : Nat → Value} {w : World} {dst : Option Tmp} {ty : TypeId} {pos : String} {aft : Array Edge} {gd : Option (Nat × Bool)} {x y : Operand} {T : TypeId} (a b c d : Int) (hx : ev n f x = .agg ⟨[i6 a, i6 b]⟩) (hy : ev n f y = .agg ⟨[i6 c, i6 d]⟩) :
  (execOp (ev n f) ⟨dst, .binOp .eql 59 x y T, ty, pos, aft, gd⟩).run Tryz.prog w = .ok (.value (.bool (decide (a = c ∧ b = d)))) w := by
 simp only [execOp, hx, hy]
 simp [go_sem]
 by_cases h1 : a = c <;> by_cases h2 : b = d <;> simp_all
abbrev Zeg (p0 : Int) (p1 : Int) : List Value := ([i6 p0, i6 p1] : LV)
theorem Z8C (w : World) (a b c d : Int) :
  Calls Tryz.prog 27 #[(.agg ⟨([i6 a, i6 b] : LV)⟩), (.agg ⟨([i6 c, i6 d] : LV)⟩)] w fun e w' => e = .returned (.bool (decide (a < c) || (decide (a = c) && decide (b < d)))) ∧ Upd [] w w' := by
 have H := Sat.start0 w
 refine Zg Tryz.func27 rfl 24 rfl kn ?_
 refine zsl <| zy <| zdb (Zeg a b) H fun b2 w3 H4 => ?_
 refine kk <| zy <| zdb (Zeg c d) H4 fun b6 w7 H8 => ?_
 refine kk <| wv 4 (.bool false) <| Z1a <| wv 5 (pt b2 0) <| zw1 6 (vi a) (H8.cell 1 rfl rfl) <| wv 7 (pt b6 0) <| zw1 8 (vi c) (H8.cell 2 rfl rfl) <| wv 9 (.bool (decide (a < c))) <| wv 10 (.bool (decide (a < c))) ?_
 refine zil 10 (fun b9 g10 => ?_) fun b9 g10 => ?_
 ·iterate 6 refine wn 5 10 false ?_
  iterate 5 refine wu 11 16 true ?_
  refine wn 5 10 false ?_
  refine wv 23 (.bool true) <| wv 4 (.bool true) <| znt <| Zk <| ze1 (.bool true) ?_
  exact ⟨by simp [b9], H8.upd 0 rfl [] ne⟩
 refine wy 5 10 false 11 (pt b2 0) <| wy 5 10 false 12 (vi a) ?_ (hr := zl1 (H8.cell 1 rfl rfl))
 refine wy 5 10 false 13 (pt b6 0) <| wy 5 10 false 14 (vi c) ?_ (hr := zl1 (H8.cell 2 rfl rfl))
 refine wy 5 10 false 15 (.bool (decide (a = c))) <| wy 5 10 false 16 (.bool (decide (a = c))) ?_
 refine zil 16 (fun b14 g15 => ?_) fun b14 g17 => ?_
 ·refine wy 11 16 true 17 (pt b2 1) <| wy 11 16 true 18 (vi b) ?_ (hr := zl1 (H8.cell 1 rfl rfl))
  refine wy 11 16 true 19 (pt b6 1) <| wy 11 16 true 20 (vi d) ?_ (hr := zl1 (H8.cell 2 rfl rfl))
  refine wy 11 16 true 21 (.bool (decide (b < d))) <| wy 5 10 false 22 (.bool (decide (b < d))) <| wv 23 (.bool (decide (b < d))) <| wv 4 (.bool (decide (b < d))) <| znt <| Zk <| ze1 (.bool (decide (b < d))) ?_
  exact ⟨by simp [b9, b14], H8.upd 0 rfl [] ne⟩
 iterate 5 refine wn 11 16 true ?_
 refine wy 5 10 false 22 (.bool false) <| wv 23 (.bool false) <| wv 4 (.bool false) <| znt <| Zk <| ze1 (.bool false) ?_
 exact ⟨by simp [b9, b14], H8.upd 0 rfl [] ne⟩
end Go.Proofs.YtenihpghfdcpkaaGreat
