/- WHAT IS PROVED: contracts and plain laws of Bk10. Conditions: stated with each. -/
import Derived.Test.YtenihpghfdcpkaaGreatPV02
import Derived.Test.YtenihpghfdcpkaaGreatPV05
import Derived.Test.YtenihpghfdcpkaaGreatPV07
import Derived.Test.YtenihpghfdcpkaaGreatPV08
import Derived.Test.YtenihpghfdcpkaaGreatPV10
import Derived.Test.YtenihpghfdcpkaaGreatPV13
import Derived.Test.YtenihpghfdcpkaaGreatPV16
set_option maxHeartbeats 4000000
set_option maxRecDepth 100000
namespace Go.Proofs.YtenihpghfdcpkaaGreat
open Go.RowKit
abbrev Z2q (p0 : Option Addr) (p1 : Nat) (p2 : Nat) : List Value := ([(.slice p0 p1 p2)] : LV)
abbrev Z2a (p0 : Option Addr) (p1 : List Signed) (p2 : Nat) : Ck := Zo 181 2 (.slice p0 p1.length p2) p1.length (p1.flatMap Z47)
abbrev Z3W (p0 : Int) (p1 : Int) : List Value := ([i6 p0, i6 p1] : LV)
abbrev Z3t : List Value := ([i6 0, i6 0] : LV) ++ hc Zz ++ ([i6 0, i6 0, i6 0] : LV)
abbrev Z29 (p0 : Int) (p1 : Int) (p2 : Hash) (p3 : Int) : List Value := ([i6 p0, i6 p1] : LV) ++ hc p2 ++ ([i6 p3, i6 0, i6 0] : LV)
abbrev Z2l (p0 : Option Addr) (p1 : List UInt8) (p2 : Nat) : Ck := Zo 5 1 (.slice p0 p1.length p2) p1.length (p1.flatMap Zx)
abbrev Z2Z (p0 : Int) (p1 : Int) (p2 : Hash) (p3 : Int) (p4 : Int) (p5 : Int) : List Value := ([i6 p0, i6 p1] : LV) ++ hc p2 ++ ([i6 p3, i6 p4, i6 p5] : LV)
abbrev ZcM (p0 : Nat) : List Value := ([(.map (some p0))] : LV)
abbrev Z5w (p0 : Nat) (p1 : List Signed) : Ck := Z2S p0 Z0c (Value.int .i64) (Z0o p1)
abbrev Z6h (p0 : Nat) (p1 : Nat) : List Value := ([(pt p0 0), (pt p1 0)] : LV)
abbrev Z60 (p0 : Zj) : List Value := ([i6 p0.cl, i6 p0.seq] : LV) ++ hc p0.h ++ ([i6 p0.len, i6 p0.sb, i6 p0.sm] : LV)
abbrev Z5n (p0 : Zj) (p1 : Int) (p2 : Int) : List Value := ([i6 p0.cl, i6 p0.seq] : LV) ++ hc p0.h ++ ([i6 p0.len, i6 p1, i6 p2] : LV)
abbrev Z63 : List Value := ([i6 0, i6 0, i6 0] : LV) ++ hc Zz ++ ([u6 0, i6 0, i6 0] : LV)
abbrev ZdS (p0 : Int) (p1 : Zj) (p2 : Int) : List Value := ([i6 p0, i6 p1.cl, i6 p1.seq] : LV) ++ hc p1.h ++ ([u6 p2, i6 0, i6 0] : LV)
abbrev Z2N (p0 : Int) (p1 : Zj) (p2 : Int) (p3 : Int) : List Value := ([i6 p0, i6 p1.cl, i6 p1.seq] : LV) ++ hc p1.h ++ ([u6 p2, i6 p0, i6 p3] : LV)
theorem ZdN {n : Nat} {f : Nat → Value} {w : World} {dst : Option Tmp} {ty : TypeId} {pos : String} {aft : Array Edge} {gd : Option (Nat × Bool)} {x y : Operand} {T : TypeId} (a b c d : Int) (hx : ev n f x = .agg ⟨[i6 a, i6 b]⟩) (hy : ev n f y = .agg ⟨[i6 c, i6 d]⟩) :
  (execOp (ev n f) ⟨dst, .binOp .neq 69 x y T, ty, pos, aft, gd⟩).run Tryz.prog w = .ok (.value (.bool (!decide (a = c ∧ b = d)))) w := by
 simp only [execOp, hx, hy]
 simp [go_sem]
 by_cases h1 : a = c <;> by_cases h2 : b = d <;> simp_all
def mkC0 (cl seq : Int) (x : Hash) (p : List UInt8) : Zj := ⟨cl, seq, Z0E (ofT cl seq x p), p.length, 0, 0⟩
def yC (cl seq : Int) (x : Hash) (p : List UInt8) : Signed := ⟨1000 + cl, Zt (mkC0 cl seq x p)⟩
def mkC (L : List Signed) (cl seq : Int) (x : Hash) (p : List UInt8) : Zj := ⟨cl, seq, Z0E (ofT cl seq x p), p.length, 1000 + cl, Zr (Zy L (yC cl seq x p)) (yC cl seq x p)⟩
def mkS0 (q : Int) (x : Zj) (t : Int) : Zb := ⟨q, x.cl, x.seq, x.h, t, 0, 0⟩
def yS (q : Int) (x : Zj) (t : Int) : Signed := ⟨q, ZE (mkS0 q x t)⟩
def mkS (L : List Signed) (q : Int) (x : Zj) (t : Int) : Zb := ⟨q, x.cl, x.seq, x.h, t, q, Zr (Zy L (yS q x t)) (yS q x t)⟩
def rb2 (r : Nat) (a : Option Addr) (c : Nat) (L : List Signed) : List Ck := [Z0 r 165 [.slice a (L).length c], Zo 181 2 (.slice a (L).length c) (L).length ((L).flatMap Z47)]
def Z0l (b mb r : Nat) (a : Option Addr) (c : Nat) (L : List Signed) : List Ck := [Z0 b 179 [.map (some mb)], Z2S mb Z0c (Value.int .i64) (Z0o L), Z0 r 165 [.slice a (L).length c], Zo 181 2 (.slice a (L).length c) (L).length ((L).flatMap Z47)]
theorem ZdA {b mb r : Nat} {a : Option Addr} {c : Nat} {L : List Signed} (k : Nat) (h : (Z0h (rb2 r a c L)).fp k) : (Z0h (Z0l b mb r a c L)).fp k := by
 obtain ⟨A, hA, hk⟩ := h
 exact ⟨A, List.mem_cons_of_mem _ (List.mem_cons_of_mem _ hA), hk⟩
theorem ZaV (w : World) (r : Nat) (a : Option Addr) (c : Nat) (L : List Signed) (hB : (Z0h (rb2 r a c L)).ok w) (cl seq : Int) (x : Hash) (pa : Option Addr) (pc : Nat) (p : List UInt8) (hp : ListAt Zx 1 w (.slice pa p.length pc) p) (hoff : 0 < p.length → ∀ ad, pa = some ad → ¬ (Z0h (rb2 r a c L)).fp ad.block) (hlp : p.length ≤ 1000) (hcl : 0 ≤ cl ∧ cl ≤ 1000000) (hsq : seq ≤ 9223372036854775807) (hL : L.length ≤ 100000) (hn : L.Nodup) :
  Calls Tryz.prog 83 #[zp r, (.agg ⟨([i6 cl, i6 seq] : LV)⟩), (.agg ⟨(hc x)⟩), (.slice pa p.length pc)] w fun e w' => ∃ a' c', e = .returned (.agg ⟨ZaK (mkC L cl seq x p)⟩) ∧ Sat w [Z0 r 165 [.slice a' (Zy L (yC cl seq x p)).length c'], Zo 181 2 (.slice a' (Zy L (yC cl seq x p)).length c') (Zy L (yC cl seq x p)).length ((Zy L (yC cl seq x p)).flatMap Z47), ZQ w (Z0h (rb2 r a c L)).fp] w' := by
 have hL0 : (1000 + cl) ≤ 9223372036854775807 := by omega
 have H := Sat.start (rb2 r a c L) hB
 refine Zg Tryz.func83 rfl 27 rfl kn ?_
 let A5 := Z3W cl seq
 refine zsl <| zy <| zdb A5 H ?_
 let A0 := ZQ w (Z0h (rb2 r a c L)).fp
 let A4 := Z0 r 165 (Z2q a L.length c)
 let A6 := Z2a a L c
 intro b2 w3 (H4 : Sat w [A4, A6, A0, Z0 b2 59 A5] w3)
 refine kk <| zy <| zdb (hc x) H4 fun b6 w7 H8 => ?_
 refine kk <| zy <| zda (Z3t) H8 ?_
 let A1 := Z0 b2 59 A5
 let A2 := Z0 b6 61 (hc x)
 intro b10 w11 (H12 : Sat w [A4, A6, A0, A1, A2, Z0 b10 73 (Z3t)] w11)
 let A3 := Z0 b10 73 (Z3t)
 refine kk <| znt <| Z9 <| Z0a H12 [A4, A6, A0, A1, A2, A3] 10 rfl kr (fun Hx => (Hx.pk [0, 1, 2, 3, 4, 5])) fun w13 H14 S15 => ?_
 refine hv0 0 S15 10 (.agg ⟨A5⟩) ?_ (he := fun _ H' => (zlN (vs := A5) (H'.at 3 rfl)))
 refine hv0 1 S15 11 (.agg ⟨A5⟩) ?_ (he := fun _ H' => (zlN (vs := A5) (H'.at 3 rfl)))
 refine hv0 2 S15 12 (.agg ⟨(hc x)⟩) ?_ (he := fun _ H' => (zlN (vs := (hc x)) (H'.at 4 rfl)))
 refine hv0 3 S15 13 (.slice pa p.length pc) <| hv0 5 S15 15 (.slice pa p.length pc) <| Z0V 6 rfl kr kr kr (fun _ _ _ h => h) S15 (Zc rfl) (d := 16) (v := (vi p.length)) rfl (fun _ H' => kr) ?_
 refine Z5X 4 8 rfl rfl kr (Zc rfl) (Zc rfl) (fun Kq kq => ?_) (fun Kq kq => ?_)
 ·refine zdq 14 (Z8e w13 cl seq x pa pc p (ListAt.nowD H14 2 rfl hp hoff) om om hlp) H14 ?_
  intro w17 H18
  have S20 := H18.pk [0, 1, 2, 3, 4, 5]
  refine kq _ _ S20 <| Z0V 7 rfl kr kr kr (fun _ _ _ h => h) S20 (Zc rfl) (d := 17) (v := (.agg ⟨(Z29 cl seq (Z0E (ofT cl seq x p)) ((p.length : Int)))⟩)) rfl (fun _ H' => kr) ?_
  refine zhy 8 ?_
  refine zda (Z3t) H18 ?_
  intro b22 w23 H24
  have S25 := H24.pk [0, 1, 2, 3, 4, 5]
  refine kh S25 <| zhy 9 ?_
  refine Z1S (Z29 cl seq (Z0E (ofT cl seq x p)) ((p.length : Int))) H24 6 ?_
  intro w27 (H28 : Sat w [A4, A6, A0, A1, A2, A3, Z0 b22 73 (Z29 cl seq (Z0E (ofT cl seq x p)) ((p.length : Int)))] w27)
  have S30 := H28.pk [0, 1, 2, 3, 4, 5]
  refine kh S30 <| zhf <| ztn <| Z9 <| Z0Z H28 [A0, A1, A2, A3, Z0 b22 73 (Z29 cl seq (Z0E (ofT cl seq x p)) ((p.length : Int)))] [8] 9 rfl kr (fun Hx => (Hx.pk [2, 3, 4, 5, 6])) fun w31 H32 S33 => ?_
  refine zkp 0 S33 18 (pt r 0) <| zkp 1 S33 19 (pt b2 0) <| zkv 2 S33 20 (vi cl) ?_ (he := fun _ H' => (zl1 (H'.cell 1 rfl rfl)))
  refine zkp 3 S33 21 (vi (1000 + cl)) ?_ (he := fun _ => (Z0A (z := 1000 + cl) kr (IntWalk.i64_in _ om)))
  refine zkv 4 S33 22 (.agg ⟨(Z29 cl seq (Z0E (ofT cl seq x p)) ((p.length : Int)))⟩) ?_ (he := fun _ H' => (zlN (vs := (Z29 cl seq (Z0E (ofT cl seq x p)) ((p.length : Int)))) (H'.at 4 rfl)))
  refine zky 5 ?_
  refine zdc 23 (Z2v w31 (⟨cl, seq, (Z0E (ofT cl seq x p)), (p.length : Int), 0, 0⟩ : Zj) ⟨by show cl ≤ _; omega, hsq, by show (p.length : Int) ≤ _; omega⟩) ?_
  rintro _ w35 ⟨u36, rfl, k37, p38, q39⟩
  have H40 := H32.addU p38 k37 q39
  obtain ⟨a41, c42, rfl⟩ := Z3 (H40.at 7 rfl)
  refine ⟨_, rfl, ?_⟩
  have S43 := H40.pk [2, 3, 4, 5, 6]
  refine ke S43 <| zky 6 ?_
  refine zdc 24 (Z2F w35 r a c L (.slice a41 ((Zt (⟨cl, seq, (Z0E (ofT cl seq x p)), (p.length : Int), 0, 0⟩ : Zj)).length) c42) (Zt (⟨cl, seq, (Z0E (ofT cl seq x p)), (p.length : Int), 0, 0⟩ : Zj)) (H40.fn [0, 1, 7]) om hn (1000 + cl)) ?_
  rintro _ w45 ⟨a47, c48, rfl, T46⟩
  have H49 : Sat w [Z0 r 165 (Z2q a47 ((Zy L (⟨1000 + cl, (Zt (⟨cl, seq, (Z0E (ofT cl seq x p)), (p.length : Int), 0, 0⟩ : Zj))⟩ : Signed)).length) c48), (Z2a a47 (Zy L (⟨1000 + cl, (Zt (⟨cl, seq, (Z0E (ofT cl seq x p)), (p.length : Int), 0, 0⟩ : Zj))⟩ : Signed)) c48), A0, A1, A2, A3, Z0 b22 73 (Z29 cl seq (Z0E (ofT cl seq x p)) ((p.length : Int))), (Z2l a41 (Zt (⟨cl, seq, (Z0E (ofT cl seq x p)), (p.length : Int), 0, 0⟩ : Zj)) c42)] w45 := (Sat.turnL (L' := [Z0 r 165 (Z2q a47 ((Zy L (⟨1000 + cl, (Zt (⟨cl, seq, (Z0E (ofT cl seq x p)), (p.length : Int), 0, 0⟩ : Zj))⟩ : Signed)).length) c48), (Z2a a47 (Zy L (⟨1000 + cl, (Zt (⟨cl, seq, (Z0E (ofT cl seq x p)), (p.length : Int), 0, 0⟩ : Zj))⟩ : Signed)) c48), (Z2l a41 (Zt (⟨cl, seq, (Z0E (ofT cl seq x p)), (p.length : Int), 0, 0⟩ : Zj)) c42)]) (R := [A0, A1, A2, A3, Z0 b22 73 (Z29 cl seq (Z0E (ofT cl seq x p)) ((p.length : Int)))]) H40 [0, 1, 7] [2, 3, 4, 5, 6] (by decide) kr rfl T46).pk [0, 1, 3, 4, 5, 6, 7, 2]
  refine ⟨_, rfl, ?_⟩
  have S50 := H49.pk [2, 3, 4, 5, 6]
  refine ke S50 <| zkp 7 S50 25 (pt b22 35) <| Z2B 8 (Sat w [A0, A1, A2, A3]) rfl kr (Zc rfl) rfl (fun Kq kq => ?_)
  refine zds (Z3W (1000 + cl) (Zr (Zy L (⟨1000 + cl, (Zt (⟨cl, seq, (Z0E (ofT cl seq x p)), (p.length : Int), 0, 0⟩ : Zj))⟩ : Signed)) (⟨1000 + cl, (Zt (⟨cl, seq, (Z0E (ofT cl seq x p)), (p.length : Int), 0, 0⟩ : Zj))⟩ : Signed))) (Z2Z cl seq (Z0E (ofT cl seq x p)) ((p.length : Int)) (1000 + cl) (Zr (Zy L (⟨1000 + cl, (Zt (⟨cl, seq, (Z0E (ofT cl seq x p)), (p.length : Int), 0, 0⟩ : Zj))⟩ : Signed)) (⟨1000 + cl, (Zt (⟨cl, seq, (Z0E (ofT cl seq x p)), (p.length : Int), 0, 0⟩ : Zj))⟩ : Signed))) H49 6 ?_
  intro w52 H53
  have S55 := H53.pk [2, 3, 4, 5]
  refine kq _ _ S55 <| zhf <| ztn <| zsl <| zwN 26 (Z2Z cl seq (Z0E (ofT cl seq x p)) ((p.length : Int)) (1000 + cl) (Zr (Zy L (⟨1000 + cl, (Zt (⟨cl, seq, (Z0E (ofT cl seq x p)), (p.length : Int), 0, 0⟩ : Zj))⟩ : Signed)) (⟨1000 + cl, (Zt (⟨cl, seq, (Z0E (ofT cl seq x p)), (p.length : Int), 0, 0⟩ : Zj))⟩ : Signed))) (H53.at 6 rfl) <| zy <| Z1S (Z2Z cl seq (Z0E (ofT cl seq x p)) ((p.length : Int)) (1000 + cl) (Zr (Zy L (⟨1000 + cl, (Zt (⟨cl, seq, (Z0E (ofT cl seq x p)), (p.length : Int), 0, 0⟩ : Zj))⟩ : Signed)) (⟨1000 + cl, (Zt (⟨cl, seq, (Z0E (ofT cl seq x p)), (p.length : Int), 0, 0⟩ : Zj))⟩ : Signed))) H53 5 ?_
  intro w57 (H58 : Sat w [Z0 r 165 (Z2q a47 ((Zy L (⟨1000 + cl, (Zt (⟨cl, seq, (Z0E (ofT cl seq x p)), (p.length : Int), 0, 0⟩ : Zj))⟩ : Signed)).length) c48), (Z2a a47 (Zy L (⟨1000 + cl, (Zt (⟨cl, seq, (Z0E (ofT cl seq x p)), (p.length : Int), 0, 0⟩ : Zj))⟩ : Signed)) c48), A0, A1, A2, Z0 b10 73 (Z2Z cl seq (Z0E (ofT cl seq x p)) ((p.length : Int)) (1000 + cl) (Zr (Zy L (⟨1000 + cl, (Zt (⟨cl, seq, (Z0E (ofT cl seq x p)), (p.length : Int), 0, 0⟩ : Zj))⟩ : Signed)) (⟨1000 + cl, (Zt (⟨cl, seq, (Z0E (ofT cl seq x p)), (p.length : Int), 0, 0⟩ : Zj))⟩ : Signed))), Z0 b22 73 (Z2Z cl seq (Z0E (ofT cl seq x p)) ((p.length : Int)) (1000 + cl) (Zr (Zy L (⟨1000 + cl, (Zt (⟨cl, seq, (Z0E (ofT cl seq x p)), (p.length : Int), 0, 0⟩ : Zj))⟩ : Signed)) (⟨1000 + cl, (Zt (⟨cl, seq, (Z0E (ofT cl seq x p)), (p.length : Int), 0, 0⟩ : Zj))⟩ : Signed))), (Z2l a41 (Zt (⟨cl, seq, (Z0E (ofT cl seq x p)), (p.length : Int), 0, 0⟩ : Zj)) c42)] w57)
  refine kk <| znt <| Zk <| Z5v rfl (Z02 (vs := (Z2Z cl seq (Z0E (ofT cl seq x p)) ((p.length : Int)) (1000 + cl) (Zr (Zy L (⟨1000 + cl, (Zt (⟨cl, seq, (Z0E (ofT cl seq x p)), (p.length : Int), 0, 0⟩ : Zj))⟩ : Signed)) (⟨1000 + cl, (Zt (⟨cl, seq, (Z0E (ofT cl seq x p)), (p.length : Int), 0, 0⟩ : Zj))⟩ : Signed)))) rfl kr kr kn (H58.at 5 rfl) kr) ?_
  exact ⟨a47, c48, rfl, H58.pk [0, 1, 2]⟩
 refine zda (Z3t) H14 ?_
 intro b60 w61 H62
 have S63 := H62.pk [0, 1, 2, 3, 4, 5]
 refine kq _ _ S63 <| zhy 4 ?_
 refine zdq 14 (Z8e w61 cl seq x pa pc p (ListAt.nowD H62 2 rfl hp hoff) om om hlp) H62 ?_
 intro w65 H66
 have S68 := H66.pk [0, 1, 2, 3, 4, 5]
 refine kh S68 <| Z0V 7 rfl kr kr kr (fun _ _ _ h => h) S68 (Zc rfl) (d := 17) (v := (.agg ⟨(Z29 cl seq (Z0E (ofT cl seq x p)) ((p.length : Int)))⟩)) rfl (fun _ H' => kr) ?_
 refine zhy 9 ?_
 refine Z1S (Z29 cl seq (Z0E (ofT cl seq x p)) ((p.length : Int))) H66 6 ?_
 intro w70 (H71 : Sat w [A4, A6, A0, A1, A2, A3, Z0 b60 73 (Z29 cl seq (Z0E (ofT cl seq x p)) ((p.length : Int)))] w70)
 have S73 := H71.pk [0, 1, 2, 3, 4, 5]
 refine kh S73 <| zhf <| ztn <| Z9 <| Z0Z H71 [A0, A1, A2, A3, Z0 b60 73 (Z29 cl seq (Z0E (ofT cl seq x p)) ((p.length : Int)))] [8] 9 rfl kr (fun Hx => (Hx.pk [2, 3, 4, 5, 6])) fun w74 H75 S76 => ?_
 refine zkp 0 S76 18 (pt r 0) <| zkp 1 S76 19 (pt b2 0) <| zkv 2 S76 20 (vi cl) ?_ (he := fun _ H' => (zl1 (H'.cell 1 rfl rfl)))
 refine zkp 3 S76 21 (vi (1000 + cl)) ?_ (he := fun _ => (Z0A (z := 1000 + cl) kr (IntWalk.i64_in _ om)))
 refine zkv 4 S76 22 (.agg ⟨(Z29 cl seq (Z0E (ofT cl seq x p)) ((p.length : Int)))⟩) ?_ (he := fun _ H' => (zlN (vs := (Z29 cl seq (Z0E (ofT cl seq x p)) ((p.length : Int)))) (H'.at 4 rfl)))
 refine zky 5 ?_
 refine zdc 23 (Z2v w74 (⟨cl, seq, (Z0E (ofT cl seq x p)), (p.length : Int), 0, 0⟩ : Zj) ⟨by show cl ≤ _; omega, hsq, by show (p.length : Int) ≤ _; omega⟩) ?_
 rintro _ w78 ⟨u79, rfl, k80, p81, q82⟩
 have H83 := H75.addU p81 k80 q82
 obtain ⟨a84, c85, rfl⟩ := Z3 (H83.at 7 rfl)
 refine ⟨_, rfl, ?_⟩
 have S86 := H83.pk [2, 3, 4, 5, 6]
 refine ke S86 <| zky 6 ?_
 refine zdc 24 (Z2F w78 r a c L (.slice a84 ((Zt (⟨cl, seq, (Z0E (ofT cl seq x p)), (p.length : Int), 0, 0⟩ : Zj)).length) c85) (Zt (⟨cl, seq, (Z0E (ofT cl seq x p)), (p.length : Int), 0, 0⟩ : Zj)) (H83.fn [0, 1, 7]) om hn (1000 + cl)) ?_
 rintro _ w88 ⟨a90, c91, rfl, T89⟩
 have H92 : Sat w [Z0 r 165 (Z2q a90 ((Zy L (⟨1000 + cl, (Zt (⟨cl, seq, (Z0E (ofT cl seq x p)), (p.length : Int), 0, 0⟩ : Zj))⟩ : Signed)).length) c91), (Z2a a90 (Zy L (⟨1000 + cl, (Zt (⟨cl, seq, (Z0E (ofT cl seq x p)), (p.length : Int), 0, 0⟩ : Zj))⟩ : Signed)) c91), A0, A1, A2, A3, Z0 b60 73 (Z29 cl seq (Z0E (ofT cl seq x p)) ((p.length : Int))), (Z2l a84 (Zt (⟨cl, seq, (Z0E (ofT cl seq x p)), (p.length : Int), 0, 0⟩ : Zj)) c85)] w88 := (Sat.turnL (L' := [Z0 r 165 (Z2q a90 ((Zy L (⟨1000 + cl, (Zt (⟨cl, seq, (Z0E (ofT cl seq x p)), (p.length : Int), 0, 0⟩ : Zj))⟩ : Signed)).length) c91), (Z2a a90 (Zy L (⟨1000 + cl, (Zt (⟨cl, seq, (Z0E (ofT cl seq x p)), (p.length : Int), 0, 0⟩ : Zj))⟩ : Signed)) c91), (Z2l a84 (Zt (⟨cl, seq, (Z0E (ofT cl seq x p)), (p.length : Int), 0, 0⟩ : Zj)) c85)]) (R := [A0, A1, A2, A3, Z0 b60 73 (Z29 cl seq (Z0E (ofT cl seq x p)) ((p.length : Int)))]) H83 [0, 1, 7] [2, 3, 4, 5, 6] (by decide) kr rfl T89).pk [0, 1, 3, 4, 5, 6, 7, 2]
 refine ⟨_, rfl, ?_⟩
 have S93 := H92.pk [2, 3, 4, 5, 6]
 refine ke S93 <| zkp 7 S93 25 (pt b60 35) <| Z2B 8 (Sat w [A0, A1, A2, A3]) rfl kr (Zc rfl) rfl (fun Kq kq => ?_)
 refine zds (Z3W (1000 + cl) (Zr (Zy L (⟨1000 + cl, (Zt (⟨cl, seq, (Z0E (ofT cl seq x p)), (p.length : Int), 0, 0⟩ : Zj))⟩ : Signed)) (⟨1000 + cl, (Zt (⟨cl, seq, (Z0E (ofT cl seq x p)), (p.length : Int), 0, 0⟩ : Zj))⟩ : Signed))) (Z2Z cl seq (Z0E (ofT cl seq x p)) ((p.length : Int)) (1000 + cl) (Zr (Zy L (⟨1000 + cl, (Zt (⟨cl, seq, (Z0E (ofT cl seq x p)), (p.length : Int), 0, 0⟩ : Zj))⟩ : Signed)) (⟨1000 + cl, (Zt (⟨cl, seq, (Z0E (ofT cl seq x p)), (p.length : Int), 0, 0⟩ : Zj))⟩ : Signed))) H92 6 ?_
 intro w95 H96
 have S98 := H96.pk [2, 3, 4, 5]
 refine kq _ _ S98 <| zhf <| ztn <| zsl <| zwN 26 (Z2Z cl seq (Z0E (ofT cl seq x p)) ((p.length : Int)) (1000 + cl) (Zr (Zy L (⟨1000 + cl, (Zt (⟨cl, seq, (Z0E (ofT cl seq x p)), (p.length : Int), 0, 0⟩ : Zj))⟩ : Signed)) (⟨1000 + cl, (Zt (⟨cl, seq, (Z0E (ofT cl seq x p)), (p.length : Int), 0, 0⟩ : Zj))⟩ : Signed))) (H96.at 6 rfl) <| zy <| Z1S (Z2Z cl seq (Z0E (ofT cl seq x p)) ((p.length : Int)) (1000 + cl) (Zr (Zy L (⟨1000 + cl, (Zt (⟨cl, seq, (Z0E (ofT cl seq x p)), (p.length : Int), 0, 0⟩ : Zj))⟩ : Signed)) (⟨1000 + cl, (Zt (⟨cl, seq, (Z0E (ofT cl seq x p)), (p.length : Int), 0, 0⟩ : Zj))⟩ : Signed))) H96 5 ?_
 intro w100 (H101 : Sat w [Z0 r 165 (Z2q a90 ((Zy L (⟨1000 + cl, (Zt (⟨cl, seq, (Z0E (ofT cl seq x p)), (p.length : Int), 0, 0⟩ : Zj))⟩ : Signed)).length) c91), (Z2a a90 (Zy L (⟨1000 + cl, (Zt (⟨cl, seq, (Z0E (ofT cl seq x p)), (p.length : Int), 0, 0⟩ : Zj))⟩ : Signed)) c91), A0, A1, A2, Z0 b10 73 (Z2Z cl seq (Z0E (ofT cl seq x p)) ((p.length : Int)) (1000 + cl) (Zr (Zy L (⟨1000 + cl, (Zt (⟨cl, seq, (Z0E (ofT cl seq x p)), (p.length : Int), 0, 0⟩ : Zj))⟩ : Signed)) (⟨1000 + cl, (Zt (⟨cl, seq, (Z0E (ofT cl seq x p)), (p.length : Int), 0, 0⟩ : Zj))⟩ : Signed))), Z0 b60 73 (Z2Z cl seq (Z0E (ofT cl seq x p)) ((p.length : Int)) (1000 + cl) (Zr (Zy L (⟨1000 + cl, (Zt (⟨cl, seq, (Z0E (ofT cl seq x p)), (p.length : Int), 0, 0⟩ : Zj))⟩ : Signed)) (⟨1000 + cl, (Zt (⟨cl, seq, (Z0E (ofT cl seq x p)), (p.length : Int), 0, 0⟩ : Zj))⟩ : Signed))), (Z2l a84 (Zt (⟨cl, seq, (Z0E (ofT cl seq x p)), (p.length : Int), 0, 0⟩ : Zj)) c85)] w100)
 refine kk <| znt <| Zk <| Z5v rfl (Z02 (vs := (Z2Z cl seq (Z0E (ofT cl seq x p)) ((p.length : Int)) (1000 + cl) (Zr (Zy L (⟨1000 + cl, (Zt (⟨cl, seq, (Z0E (ofT cl seq x p)), (p.length : Int), 0, 0⟩ : Zj))⟩ : Signed)) (⟨1000 + cl, (Zt (⟨cl, seq, (Z0E (ofT cl seq x p)), (p.length : Int), 0, 0⟩ : Zj))⟩ : Signed)))) rfl kr kr kn (H101.at 5 rfl) kr) ?_
 exact ⟨a90, c91, rfl, H101.pk [0, 1, 2]⟩
theorem Z4t (w : World) (b mb r : Nat) (a : Option Addr) (c : Nat) (L : List Signed) (hB : (Z0h (Z0l b mb r a c L)).ok w) (cl seq : Int) (pa : Option Addr) (pc : Nat) (p : List UInt8) (hp : ListAt Zx 1 w (.slice pa p.length pc) p) (hoff : 0 < p.length → ∀ ad, pa = some ad → ¬ (Z0h (Z0l b mb r a c L)).fp ad.block) (hlp : p.length ≤ 1000) (hcl : 0 ≤ cl ∧ cl ≤ 1000000) (hsq : seq ≤ 9223372036854775807) (hL : L.length ≤ 100000) (hn : L.Nodup) :
  Calls Tryz.prog 33 #[(.agg ⟨([zp b, zp r] : LV)⟩), (.agg ⟨([i6 cl, i6 seq] : LV)⟩), (.slice pa p.length pc)] w fun e w' => ∃ a' c', e = .returned (.agg ⟨ZaK (mkC L cl seq Zz p)⟩) ∧ Sat w [Z0 b 179 [.map (some mb)], Z2S mb Z0c (Value.int .i64) (Z0o (Zy L (yC cl seq Zz p))), Z0 r 165 [.slice a' (Zy L (yC cl seq Zz p)).length c'], Zo 181 2 (.slice a' (Zy L (yC cl seq Zz p)).length c') (Zy L (yC cl seq Zz p)).length ((Zy L (yC cl seq Zz p)).flatMap Z47), ZQ w (Z0h (Z0l b mb r a c L)).fp] w' := by
 have hL0 : (1000 + cl) ≤ 9223372036854775807 := by omega
 have H := Sat.start (Z0l b mb r a c L) hB
 refine Zg Tryz.func33 rfl 24 rfl kn ?_
 refine zsl <| zy <| zdb (Z6h b r) H ?_
 let A2 := ZQ w (Z0h (Z0l b mb r a c L)).fp
 let A6 := Z0 b 179 (ZcM mb)
 let A8 := Z5w mb L
 let A9 := Z0 r 165 (Z2q a L.length c)
 intro b2 w3 (H4 : Sat w [A6, A8, A9, (Z2a a L c), A2, Z0 b2 33 (Z6h b r)] w3)
 let Aa := Z3W cl seq
 refine kk <| zy <| zdb Aa H4 fun b6 w7 H8 => ?_
 refine kk <| zy <| zda (Z3t) H8 ?_
 let A3 := Z0 b6 59 Aa
 let A5 := Z0 b2 33 (Z6h b r)
 intro b10 w11 (H12 : Sat w [A6, A8, A9, (Z2a a L c), A2, A5, A3, Z0 b10 73 (Z3t)] w11)
 refine kk <| Z1a <| wv 8 (pt b2 1) <| zw1 9 (pt r 0) (H12.cell 5 rfl rfl) <| zwN 10 Aa (H12.at 6 rfl) <| wv 11 (.agg ⟨(hc Zz)⟩) <| wv 12 (.slice pa p.length pc) <| zy <| zdc 13 (ZaV w11 r a c L (H12.fn [2, 3]) cl seq Zz pa pc p (ListAt.nowD H12 4 rfl hp hoff) (fun h0 ad ha hf => hoff h0 ad ha (ZdA ad.block hf)) hlp om hsq hL hn) ?_
 rintro _ w14 ⟨a16, c17, rfl, T15⟩
 let Ab := Zy L (yC cl seq Zz p)
 let A0 := Z0 r 165 (Z2q a16 (Ab.length) c17)
 let A1 := Z2a a16 Ab c17
 have H18 := H12.tl [A0, A1] [2, 3] [0, 1, 4, 5, 6, 7] T15 [2, 3, 0, 1, 4, 5, 6, 7]
 refine ⟨_, rfl, ?_⟩
 refine kk <| zy <| zda (Z3t) H18 ?_
 let A7 := Z0 b10 73 (Z3t)
 intro b20 w21 (H22 : Sat w [A6, A8, A0, A1, A2, A5, A3, A7, Z0 b20 73 (Z3t)] w21)
 let A4 := Z60 (mkC L cl seq Zz p)
 refine kk <| zy <| Z1S A4 H22 8 fun w24 H25 => ?_
 refine kk <| znt <| Z9 <| Z0Z H25 [A0, A1, A2, A5, A3, A7, Z0 b20 73 A4] [9] 10 rfl kr (fun Hx => (Hx.pk [2, 3, 4, 5, 6, 7, 8])) fun w27 H28 S29 => ?_
 refine zkp 0 S29 14 (pt b2 0) <| zkv 1 S29 15 (pt b 0) ?_ (he := fun _ H' => (zl1 (H'.cell 3 rfl rfl)))
 refine zkp 2 S29 16 (pt b6 0) <| zkv 3 S29 17 (vi cl) ?_ (he := fun _ H' => (zl1 (H'.cell 4 rfl rfl)))
 refine zkp 4 S29 18 (vi (1000 + cl)) ?_ (he := fun _ => (Z0A (z := 1000 + cl) kr (IntWalk.i64_in _ om)))
 refine zkv 5 S29 19 (.agg ⟨A4⟩) ?_ (he := fun _ H' => (zlN (vs := A4) (H'.at 6 rfl)))
 refine zky 6 ?_
 refine zdc 20 (Z2v w27 (mkC L cl seq Zz p) ⟨by show cl ≤ _; omega, hsq, by show (p.length : Int) ≤ _; omega⟩) ?_
 rintro _ w31 ⟨u32, rfl, k33, p34, q35⟩
 have H36 : Sat w [A6, A8, A0, A1, A2, A5, A3, A7, Z0 b20 73 A4, Zo 5 1 u32 ((Zt (mkC L cl seq Zz p)).length) ((Zt (mkC L cl seq Zz p)).flatMap Zx)] w31 := H28.addU p34 k33 q35
 obtain ⟨a37, c38, rfl⟩ := Z3 (H36.at 9 rfl)
 refine ⟨_, rfl, ?_⟩
 have S39 := H36.pk [2, 3, 4, 5, 6, 7, 8]
 refine ke S39 <| zky 7 ?_
 refine zdc 21 (Z4w w31 b mb L (.slice a37 ((Zt (mkC L cl seq Zz p)).length) c38) (Zt (mkC L cl seq Zz p)) (H36.fn [0, 1, 9]) om (1000 + cl)) ?_
 rintro _ w41 ⟨rfl, T42⟩
 have H43 := H36.tl [A6, (Z5w mb (Zy L (⟨1000 + cl, (Zt (mkC L cl seq Zz p))⟩ : Signed))), (Z2l a37 (Zt (mkC L cl seq Zz p)) c38)] [0, 1, 9] [2, 3, 4, 5, 6, 7, 8] T42 [0, 1, 3, 4, 5, 6, 7, 8, 9, 2]
 refine ⟨_, rfl, ?_⟩
 have S44 := H43.pk [2, 3, 4, 5, 6, 7, 8]
 refine ke S44 <| zkp 8 S44 22 (pt b20 35) <| Z2B 9 (Sat w [A0, A1, A2, A5, A3, A7]) rfl kr (Zc rfl) rfl (fun Kq kq => ?_)
 refine zds (Z3W (1000 + cl) (Zr (Zy L (⟨1000 + cl, (Zt (mkC L cl seq Zz p))⟩ : Signed)) (⟨1000 + cl, (Zt (mkC L cl seq Zz p))⟩ : Signed))) (Z5n (mkC L cl seq Zz p) (1000 + cl) (Zr (Zy L (⟨1000 + cl, (Zt (mkC L cl seq Zz p))⟩ : Signed)) (⟨1000 + cl, (Zt (mkC L cl seq Zz p))⟩ : Signed))) H43 8 ?_
 intro w46 (H47 : Sat w [A6, (Z5w mb (Zy L (⟨1000 + cl, (Zt (mkC L cl seq Zz p))⟩ : Signed))), A0, A1, A2, A5, A3, A7, Z0 b20 73 (Z5n (mkC L cl seq Zz p) (1000 + cl) (Zr (Zy L (⟨1000 + cl, (Zt (mkC L cl seq Zz p))⟩ : Signed)) (⟨1000 + cl, (Zt (mkC L cl seq Zz p))⟩ : Signed))), (Z2l a37 (Zt (mkC L cl seq Zz p)) c38)] w46)
 have S49 := H47.pk [2, 3, 4, 5, 6, 7]
 refine kq _ _ S49 <| zhf <| ztn <| zsl <| zwN 23 (Z5n (mkC L cl seq Zz p) (1000 + cl) (Zr (Zy L (⟨1000 + cl, (Zt (mkC L cl seq Zz p))⟩ : Signed)) (⟨1000 + cl, (Zt (mkC L cl seq Zz p))⟩ : Signed))) (H47.at 8 rfl) <| zy <| Z1S (Z5n (mkC L cl seq Zz p) (1000 + cl) (Zr (Zy L (⟨1000 + cl, (Zt (mkC L cl seq Zz p))⟩ : Signed)) (⟨1000 + cl, (Zt (mkC L cl seq Zz p))⟩ : Signed))) H47 7 fun w51 H52 => ?_
 refine kk <| znt <| Zk <| Z5v rfl (Z02 (vs := (Z5n (mkC L cl seq Zz p) (1000 + cl) (Zr (Zy L (⟨1000 + cl, (Zt (mkC L cl seq Zz p))⟩ : Signed)) (⟨1000 + cl, (Zt (mkC L cl seq Zz p))⟩ : Signed)))) rfl kr kr kn (H52.at 7 rfl) kr) ?_
 exact ⟨a16, c17, rfl, H52.pk [0, 1, 2, 3, 4]⟩
theorem Z6w (w : World) (b mb r : Nat) (a : Option Addr) (c : Nat) (L : List Signed) (hB : (Z0h (Z0l b mb r a c L)).ok w) (q : Int) (x : Zj) (t : Int) (hr : q ≤ 9223372036854775807) (hx : Zco x) (ht : 0 ≤ t ∧ t < 18446744073709551616) (hL : L.length ≤ 100000) (hn : L.Nodup) :
  Calls Tryz.prog 82 #[(.agg ⟨([zp b, zp r] : LV)⟩), i6 q, (.agg ⟨(([i6 x.cl, i6 x.seq] : LV) ++ hc x.h ++ ([i6 x.len, i6 x.sb, i6 x.sm] : LV))⟩), u6 t] w fun e w' => ∃ a' c', e = .returned (.agg ⟨Z2O (mkS L q x t)⟩) ∧ Sat w [Z0 b 179 [.map (some mb)], Z2S mb Z0c (Value.int .i64) (Z0o (Zy L (yS q x t))), Z0 r 165 [.slice a' (Zy L (yS q x t)).length c'], Zo 181 2 (.slice a' (Zy L (yS q x t)).length c') (Zy L (yS q x t)).length ((Zy L (yS q x t)).flatMap Z47), ZQ w (Z0h (Z0l b mb r a c L)).fp] w' := by
 let A0 := ZQ w (Z0h (Z0l b mb r a c L)).fp
 let A2 := Z0 b 179 (ZcM mb)
 let A5 := Z0 r 165 (Z2q a L.length c)
 let A6 := Z5w mb L
 let A8 := Z2a a L c
 have H : Sat w [A2, A6, A5, A8, A0] w := Sat.start (Z0l b mb r a c L) hB
 refine Zg Tryz.func82 rfl 36 rfl kn ?_
 refine zsl <| zy <| zdb (Z6h b r) H fun b2 w3 H4 => ?_
 refine kk <| zy <| zdb (Z60 x) H4 ?_
 let A1 := Z0 b2 33 (Z6h b r)
 intro b6 w7 (H8 : Sat w [A2, A6, A5, A8, A0, A1, Z0 b6 73 (Z60 x)] w7)
 refine kk <| zy <| zda (Z63) H8 fun b10 w11 H12 => ?_
 let A7 := ZdS q x t
 refine kk <| Z1a <| wv 10 (vi q) <| wv 11 (pt b6 0) <| zwN 12 (Z3W x.cl x.seq) (H12.at 6 rfl) <| wv 13 (pt b6 2) <| zwN 14 (hc x.h) (H12.at 6 rfl) <| wv 15 (vu t) <| wv 16 (.agg ⟨A7⟩) <| zy ?_
 refine zda (Z63) H12 ?_
 let A3 := Z0 b6 73 (Z60 x)
 let A4 := Z0 b10 149 (Z63)
 intro b14 w15 (H16 : Sat w [A2, A6, A5, A8, A0, A1, A3, A4, Z0 b14 149 (Z63)] w15)
 refine kk <| zy <| Z1S A7 H16 8 fun w18 H19 => ?_
 refine kk <| znt <| Z9 <| Z0Z H19 [A2, A6, A0, A1, A3, A4, Z0 b14 149 A7] [7] 8 rfl kr (fun Hx => (Hx.pk [0, 1, 4, 5, 6, 7, 8])) fun w21 H22 S23 => ?_
 refine zkp 0 S23 17 (pt b2 1) <| zkv 1 S23 18 (pt r 0) ?_ (he := fun _ H' => (zl1 (H'.cell 3 rfl rfl)))
 refine zkp 2 S23 19 (vi q) <| zkv 3 S23 20 (.agg ⟨A7⟩) ?_ (he := fun _ H' => (zlN (vs := A7) (H'.at 6 rfl)))
 refine zky 4 ?_
 refine zdc 21 (Z3u w21 (⟨q, x.cl, x.seq, x.h, t, 0, 0⟩ : Zb) ⟨hr, hx.1, hx.2.1, ht.1, ht.2⟩) ?_
 rintro _ w25 ⟨u26, rfl, k27, p28, q29⟩
 have H30 : Sat w [A2, A6, A5, A8, A0, A1, A3, A4, Z0 b14 149 A7, Zo 5 1 u26 ((ZE (⟨q, x.cl, x.seq, x.h, t, 0, 0⟩ : Zb)).length) ((ZE (⟨q, x.cl, x.seq, x.h, t, 0, 0⟩ : Zb)).flatMap Zx)] w25 := H22.addU p28 k27 q29
 obtain ⟨a31, c32, rfl⟩ := Z3 (H30.at 9 rfl)
 refine ⟨_, rfl, ?_⟩
 have S33 := H30.pk [0, 1, 4, 5, 6, 7, 8]
 refine ke S33 <| zky 5 ?_
 refine zdc 22 (Z2F w25 r a c L (.slice a31 ((ZE (⟨q, x.cl, x.seq, x.h, t, 0, 0⟩ : Zb)).length) c32) (ZE (⟨q, x.cl, x.seq, x.h, t, 0, 0⟩ : Zb)) (H30.fn [2, 3, 9]) om hn q) ?_
 rintro _ w35 ⟨a37, c38, rfl, T36⟩
 have H39 := H30.tl [Z0 r 165 (Z2q a37 ((Zy L (⟨q, (ZE (⟨q, x.cl, x.seq, x.h, t, 0, 0⟩ : Zb))⟩ : Signed)).length) c38), (Z2a a37 (Zy L (⟨q, (ZE (⟨q, x.cl, x.seq, x.h, t, 0, 0⟩ : Zb))⟩ : Signed)) c38), (Z2l a31 (ZE (⟨q, x.cl, x.seq, x.h, t, 0, 0⟩ : Zb)) c32)] [2, 3, 9] [0, 1, 4, 5, 6, 7, 8] T36 [3, 4, 0, 1, 5, 6, 7, 8, 9, 2]
 refine ⟨_, rfl, ?_⟩
 have S40 := H39.pk [0, 1, 4, 5, 6, 7, 8]
 refine ke S40 <| zkp 6 S40 23 (pt b14 36) <| Z2B 7 (Sat w [A2, A6, A0, A1, A3, A4]) rfl kr (Zc rfl) rfl (fun Kq kq => ?_)
 refine zds (Z3W q (Zr (Zy L (⟨q, (ZE (⟨q, x.cl, x.seq, x.h, t, 0, 0⟩ : Zb))⟩ : Signed)) (⟨q, (ZE (⟨q, x.cl, x.seq, x.h, t, 0, 0⟩ : Zb))⟩ : Signed))) (Z2N q x t (Zr (Zy L (⟨q, (ZE (⟨q, x.cl, x.seq, x.h, t, 0, 0⟩ : Zb))⟩ : Signed)) (⟨q, (ZE (⟨q, x.cl, x.seq, x.h, t, 0, 0⟩ : Zb))⟩ : Signed))) H39 8 ?_
 intro w42 (H43 : Sat w [A2, A6, Z0 r 165 (Z2q a37 ((Zy L (⟨q, (ZE (⟨q, x.cl, x.seq, x.h, t, 0, 0⟩ : Zb))⟩ : Signed)).length) c38), (Z2a a37 (Zy L (⟨q, (ZE (⟨q, x.cl, x.seq, x.h, t, 0, 0⟩ : Zb))⟩ : Signed)) c38), A0, A1, A3, A4, Z0 b14 149 (Z2N q x t (Zr (Zy L (⟨q, (ZE (⟨q, x.cl, x.seq, x.h, t, 0, 0⟩ : Zb))⟩ : Signed)) (⟨q, (ZE (⟨q, x.cl, x.seq, x.h, t, 0, 0⟩ : Zb))⟩ : Signed))), (Z2l a31 (ZE (⟨q, x.cl, x.seq, x.h, t, 0, 0⟩ : Zb)) c32)] w42)
 have S45 := H43.pk [0, 1, 4, 5, 6, 7]
 refine kq _ _ S45 <| zhf <| ztn <| Z9 <| Z9 <| Z0a H43 [Z0 r 165 (Z2q a37 ((Zy L (⟨q, (ZE (⟨q, x.cl, x.seq, x.h, t, 0, 0⟩ : Zb))⟩ : Signed)).length) c38), (Z2a a37 (Zy L (⟨q, (ZE (⟨q, x.cl, x.seq, x.h, t, 0, 0⟩ : Zb))⟩ : Signed)) c38), A0, A1, A3, A4, Z0 b14 149 (Z2N q x t (Zr (Zy L (⟨q, (ZE (⟨q, x.cl, x.seq, x.h, t, 0, 0⟩ : Zb))⟩ : Signed)) (⟨q, (ZE (⟨q, x.cl, x.seq, x.h, t, 0, 0⟩ : Zb))⟩ : Signed))), (Z2l a31 (ZE (⟨q, x.cl, x.seq, x.h, t, 0, 0⟩ : Zb)) c32)] 9 rfl kr (fun Hx => (Hx.pk [2, 3, 4, 5, 6, 7, 8, 9])) fun w46 H47 S48 => ?_
 refine hv0 0 S48 24 (pt b14 36) <| hv0 1 S48 25 (.agg ⟨(Z3W q (Zr (Zy L (⟨q, (ZE (⟨q, x.cl, x.seq, x.h, t, 0, 0⟩ : Zb))⟩ : Signed)) (⟨q, (ZE (⟨q, x.cl, x.seq, x.h, t, 0, 0⟩ : Zb))⟩ : Signed)))⟩) ?_ (he := fun _ H' => (Z8g (vs := (Z3W q (Zr (Zy L (⟨q, (ZE (⟨q, x.cl, x.seq, x.h, t, 0, 0⟩ : Zb))⟩ : Signed)) (⟨q, (ZE (⟨q, x.cl, x.seq, x.h, t, 0, 0⟩ : Zb))⟩ : Signed)))) rfl kr kr kn (H'.at 6 rfl) kr))
 refine hv0 2 S48 26 (pt b2 0) <| hv0 3 S48 27 (pt b 0) ?_ (he := fun _ H' => (zl1 (H'.cell 3 rfl rfl)))
 refine hv0 4 S48 28 (vi q) <| hv0 5 S48 29 (.agg ⟨(Z2N q x t (Zr (Zy L (⟨q, (ZE (⟨q, x.cl, x.seq, x.h, t, 0, 0⟩ : Zb))⟩ : Signed)) (⟨q, (ZE (⟨q, x.cl, x.seq, x.h, t, 0, 0⟩ : Zb))⟩ : Signed)))⟩) ?_ (he := fun _ H' => (Z8g (vs := (Z2N q x t (Zr (Zy L (⟨q, (ZE (⟨q, x.cl, x.seq, x.h, t, 0, 0⟩ : Zb))⟩ : Signed)) (⟨q, (ZE (⟨q, x.cl, x.seq, x.h, t, 0, 0⟩ : Zb))⟩ : Signed)))) rfl kr kr kn (H'.at 6 rfl) kr))
 refine zhy 6 ?_
 refine zdc 30 (Z3u w46 (⟨q, x.cl, x.seq, x.h, t, q, Zr (Zy L (⟨q, (ZE (⟨q, x.cl, x.seq, x.h, t, 0, 0⟩ : Zb))⟩ : Signed)) (⟨q, (ZE (⟨q, x.cl, x.seq, x.h, t, 0, 0⟩ : Zb))⟩ : Signed)⟩ : Zb) ⟨hr, hx.1, hx.2.1, ht.1, ht.2⟩) ?_
 rintro _ w50 ⟨u51, rfl, k52, p53, q54⟩
 have H55 := H47.addU p53 k52 q54
 obtain ⟨a56, c57, rfl⟩ := Z3 (H55.at 10 rfl)
 refine ⟨_, rfl, ?_⟩
 have S58 := H55.pk [2, 3, 4, 5, 6, 7, 8, 9]
 refine kh S58 <| zhy 7 ?_
 refine zdc 31 (Z4w w50 b mb L (.slice a56 ((ZE (⟨q, x.cl, x.seq, x.h, t, q, Zr (Zy L (⟨q, (ZE (⟨q, x.cl, x.seq, x.h, t, 0, 0⟩ : Zb))⟩ : Signed)) (⟨q, (ZE (⟨q, x.cl, x.seq, x.h, t, 0, 0⟩ : Zb))⟩ : Signed)⟩ : Zb)).length) c57) (ZE (⟨q, x.cl, x.seq, x.h, t, q, Zr (Zy L (⟨q, (ZE (⟨q, x.cl, x.seq, x.h, t, 0, 0⟩ : Zb))⟩ : Signed)) (⟨q, (ZE (⟨q, x.cl, x.seq, x.h, t, 0, 0⟩ : Zb))⟩ : Signed)⟩ : Zb)) (H55.fn [0, 1, 10]) om q) ?_
 rintro _ w60 ⟨rfl, T61⟩
 have H62 : Sat w [A2, (Z5w mb (Zy L (⟨q, (ZE (⟨q, x.cl, x.seq, x.h, t, q, Zr (Zy L (⟨q, (ZE (⟨q, x.cl, x.seq, x.h, t, 0, 0⟩ : Zb))⟩ : Signed)) (⟨q, (ZE (⟨q, x.cl, x.seq, x.h, t, 0, 0⟩ : Zb))⟩ : Signed)⟩ : Zb))⟩ : Signed))), Z0 r 165 (Z2q a37 ((Zy L (⟨q, (ZE (⟨q, x.cl, x.seq, x.h, t, 0, 0⟩ : Zb))⟩ : Signed)).length) c38), (Z2a a37 (Zy L (⟨q, (ZE (⟨q, x.cl, x.seq, x.h, t, 0, 0⟩ : Zb))⟩ : Signed)) c38), A0, A1, A3, A4, Z0 b14 149 (Z2N q x t (Zr (Zy L (⟨q, (ZE (⟨q, x.cl, x.seq, x.h, t, 0, 0⟩ : Zb))⟩ : Signed)) (⟨q, (ZE (⟨q, x.cl, x.seq, x.h, t, 0, 0⟩ : Zb))⟩ : Signed))), (Z2l a31 (ZE (⟨q, x.cl, x.seq, x.h, t, 0, 0⟩ : Zb)) c32), (Z2l a56 (ZE (⟨q, x.cl, x.seq, x.h, t, q, Zr (Zy L (⟨q, (ZE (⟨q, x.cl, x.seq, x.h, t, 0, 0⟩ : Zb))⟩ : Signed)) (⟨q, (ZE (⟨q, x.cl, x.seq, x.h, t, 0, 0⟩ : Zb))⟩ : Signed)⟩ : Zb)) c57)] w60 := (Sat.turnL (L' := [A2, (Z5w mb (Zy L (⟨q, (ZE (⟨q, x.cl, x.seq, x.h, t, q, Zr (Zy L (⟨q, (ZE (⟨q, x.cl, x.seq, x.h, t, 0, 0⟩ : Zb))⟩ : Signed)) (⟨q, (ZE (⟨q, x.cl, x.seq, x.h, t, 0, 0⟩ : Zb))⟩ : Signed)⟩ : Zb))⟩ : Signed))), (Z2l a56 (ZE (⟨q, x.cl, x.seq, x.h, t, q, Zr (Zy L (⟨q, (ZE (⟨q, x.cl, x.seq, x.h, t, 0, 0⟩ : Zb))⟩ : Signed)) (⟨q, (ZE (⟨q, x.cl, x.seq, x.h, t, 0, 0⟩ : Zb))⟩ : Signed)⟩ : Zb)) c57)]) (R := [Z0 r 165 (Z2q a37 ((Zy L (⟨q, (ZE (⟨q, x.cl, x.seq, x.h, t, 0, 0⟩ : Zb))⟩ : Signed)).length) c38), (Z2a a37 (Zy L (⟨q, (ZE (⟨q, x.cl, x.seq, x.h, t, 0, 0⟩ : Zb))⟩ : Signed)) c38), A0, A1, A3, A4, Z0 b14 149 (Z2N q x t (Zr (Zy L (⟨q, (ZE (⟨q, x.cl, x.seq, x.h, t, 0, 0⟩ : Zb))⟩ : Signed)) (⟨q, (ZE (⟨q, x.cl, x.seq, x.h, t, 0, 0⟩ : Zb))⟩ : Signed))), (Z2l a31 (ZE (⟨q, x.cl, x.seq, x.h, t, 0, 0⟩ : Zb)) c32)]) H55 [0, 1, 10] [2, 3, 4, 5, 6, 7, 8, 9] (by decide) kr rfl T61).pk [0, 1, 3, 4, 5, 6, 7, 8, 9, 10, 2]
 refine ⟨_, rfl, ?_⟩
 have S63 := H62.pk [2, 3, 4, 5, 6, 7, 8, 9]
 refine kh S63 <| hv0 8 S63 32 (.bool (!(decide (q = q ∧ (Zr (Zy L (⟨q, (ZE (⟨q, x.cl, x.seq, x.h, t, 0, 0⟩ : Zb))⟩ : Signed)) (⟨q, (ZE (⟨q, x.cl, x.seq, x.h, t, 0, 0⟩ : Zb))⟩ : Signed)) = (Zr (Zy L (⟨q, (ZE (⟨q, x.cl, x.seq, x.h, t, q, Zr (Zy L (⟨q, (ZE (⟨q, x.cl, x.seq, x.h, t, 0, 0⟩ : Zb))⟩ : Signed)) (⟨q, (ZE (⟨q, x.cl, x.seq, x.h, t, 0, 0⟩ : Zb))⟩ : Signed)⟩ : Zb))⟩ : Signed)) (⟨q, (ZE (⟨q, x.cl, x.seq, x.h, t, q, Zr (Zy L (⟨q, (ZE (⟨q, x.cl, x.seq, x.h, t, 0, 0⟩ : Zb))⟩ : Signed)) (⟨q, (ZE (⟨q, x.cl, x.seq, x.h, t, 0, 0⟩ : Zb))⟩ : Signed)⟩ : Zb))⟩ : Signed)))))) ?_ (he := fun _ H' => (ZdN q (Zr (Zy L (⟨q, (ZE (⟨q, x.cl, x.seq, x.h, t, 0, 0⟩ : Zb))⟩ : Signed)) (⟨q, (ZE (⟨q, x.cl, x.seq, x.h, t, 0, 0⟩ : Zb))⟩ : Signed)) q (Zr (Zy L (⟨q, (ZE (⟨q, x.cl, x.seq, x.h, t, q, Zr (Zy L (⟨q, (ZE (⟨q, x.cl, x.seq, x.h, t, 0, 0⟩ : Zb))⟩ : Signed)) (⟨q, (ZE (⟨q, x.cl, x.seq, x.h, t, 0, 0⟩ : Zb))⟩ : Signed)⟩ : Zb))⟩ : Signed)) (⟨q, (ZE (⟨q, x.cl, x.seq, x.h, t, q, Zr (Zy L (⟨q, (ZE (⟨q, x.cl, x.seq, x.h, t, 0, 0⟩ : Zb))⟩ : Signed)) (⟨q, (ZE (⟨q, x.cl, x.seq, x.h, t, 0, 0⟩ : Zb))⟩ : Signed)⟩ : Zb))⟩ : Signed)) rfl rfl))
 refine zhf <| ztn ?_
 have b64 : (!(decide (q = q ∧ (Zr (Zy L (⟨q, (ZE (⟨q, x.cl, x.seq, x.h, t, 0, 0⟩ : Zb))⟩ : Signed)) (⟨q, (ZE (⟨q, x.cl, x.seq, x.h, t, 0, 0⟩ : Zb))⟩ : Signed)) = (Zr (Zy L (⟨q, (ZE (⟨q, x.cl, x.seq, x.h, t, q, Zr (Zy L (⟨q, (ZE (⟨q, x.cl, x.seq, x.h, t, 0, 0⟩ : Zb))⟩ : Signed)) (⟨q, (ZE (⟨q, x.cl, x.seq, x.h, t, 0, 0⟩ : Zb))⟩ : Signed)⟩ : Zb))⟩ : Signed)) (⟨q, (ZE (⟨q, x.cl, x.seq, x.h, t, q, Zr (Zy L (⟨q, (ZE (⟨q, x.cl, x.seq, x.h, t, 0, 0⟩ : Zb))⟩ : Signed)) (⟨q, (ZE (⟨q, x.cl, x.seq, x.h, t, 0, 0⟩ : Zb))⟩ : Signed)⟩ : Zb))⟩ : Signed))))) = false := by rw [decide_eq_true ⟨rfl, rfl⟩]; rfl
 have g65 := Z2 b64
 refine Z3L _ b64 ?_
 refine Zp <| ztn <| zsl <| zwN 35 (Z2N q x t (Zr (Zy L (⟨q, (ZE (⟨q, x.cl, x.seq, x.h, t, 0, 0⟩ : Zb))⟩ : Signed)) (⟨q, (ZE (⟨q, x.cl, x.seq, x.h, t, 0, 0⟩ : Zb))⟩ : Signed))) (H62.at 8 rfl) <| zy <| Z1S (Z2N q x t (Zr (Zy L (⟨q, (ZE (⟨q, x.cl, x.seq, x.h, t, 0, 0⟩ : Zb))⟩ : Signed)) (⟨q, (ZE (⟨q, x.cl, x.seq, x.h, t, 0, 0⟩ : Zb))⟩ : Signed))) H62 7 fun w67 H68 => ?_
 refine kk <| znt <| Zk <| Z5v rfl (Z02 (vs := (Z2N q x t (Zr (Zy L (⟨q, (ZE (⟨q, x.cl, x.seq, x.h, t, 0, 0⟩ : Zb))⟩ : Signed)) (⟨q, (ZE (⟨q, x.cl, x.seq, x.h, t, 0, 0⟩ : Zb))⟩ : Signed)))) rfl kr kr kn (H68.at 7 rfl) kr) ?_
 exact ⟨a37, c38, rfl, H68.pk [0, 1, 2, 3, 4]⟩
end Go.Proofs.YtenihpghfdcpkaaGreat
