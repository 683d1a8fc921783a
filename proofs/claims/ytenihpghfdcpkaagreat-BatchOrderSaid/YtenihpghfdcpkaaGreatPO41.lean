/- WHAT IS PROVED: contracts and plain laws of Bk10. Conditions: stated with each. -/
import Derived.Test.YtenihpghfdcpkaaGreatPO02
import Derived.Test.YtenihpghfdcpkaaGreatPO05
import Derived.Test.YtenihpghfdcpkaaGreatPO08
import Derived.Test.YtenihpghfdcpkaaGreatPO10
import Derived.Test.YtenihpghfdcpkaaGreatPO13
import Derived.Test.YtenihpghfdcpkaaGreatPO16
set_option maxHeartbeats 4000000
set_option maxRecDepth 100000
namespace Go.Proofs.YtenihpghfdcpkaaGreat
open Go.RowKit
abbrev Z2v (p0 : Option Addr) (p1 : Nat) (p2 : Nat) : List Value := ([(.slice p0 p1 p2)] : LV)
abbrev Z2d (p0 : Option Addr) (p1 : List Signed) (p2 : Nat) : Ck := Zh 181 2 (.slice p0 p1.length p2) p1.length (p1.flatMap Z4R)
abbrev Z40 (p0 : Int) (p1 : Int) : List Value := ([i6 p0, i6 p1] : LV)
abbrev Z3F : List Value := ([i6 0, i6 0] : LV) ++ hc ZC ++ ([i6 0, i6 0, i6 0] : LV)
abbrev Z2f (p0 : Int) (p1 : Int) (p2 : Hash) (p3 : Int) : List Value := ([i6 p0, i6 p1] : LV) ++ hc p2 ++ ([i6 p3, i6 0, i6 0] : LV)
abbrev Z2s (p0 : Option Addr) (p1 : List UInt8) (p2 : Nat) : Ck := Zh 5 1 (.slice p0 p1.length p2) p1.length (p1.flatMap Zr)
abbrev Z36 (p0 : Int) (p1 : Int) (p2 : Hash) (p3 : Int) (p4 : Int) (p5 : Int) : List Value := ([i6 p0, i6 p1] : LV) ++ hc p2 ++ ([i6 p3, i6 p4, i6 p5] : LV)
abbrev Zdy (p0 : Nat) : List Value := ([(.map (some p0))] : LV)
abbrev Z5W (p0 : Nat) (p1 : List Signed) : Ck := Z0u p0 ZZ (Value.int .i64) (Z0c p1)
abbrev Z7b (p0 : Nat) (p1 : Nat) : List Value := ([(pt p0 0), (pt p1 0)] : LV)
abbrev Z6x (p0 : Zg) : List Value := ([i6 p0.cl, i6 p0.seq] : LV) ++ hc p0.h ++ ([i6 p0.len, i6 p0.sb, i6 p0.sm] : LV)
abbrev Z5r (p0 : Zg) (p1 : Int) (p2 : Int) : List Value := ([i6 p0.cl, i6 p0.seq] : LV) ++ hc p0.h ++ ([i6 p0.len, i6 p1, i6 p2] : LV)
abbrev Z6t : List Value := ([i6 0, i6 0, i6 0] : LV) ++ hc ZC ++ ([u6 0, i6 0, i6 0] : LV)
abbrev ZeN (p0 : Int) (p1 : Zg) (p2 : Int) : List Value := ([i6 p0, i6 p1.cl, i6 p1.seq] : LV) ++ hc p1.h ++ ([u6 p2, i6 0, i6 0] : LV)
abbrev Z2Q (p0 : Int) (p1 : Zg) (p2 : Int) (p3 : Int) : List Value := ([i6 p0, i6 p1.cl, i6 p1.seq] : LV) ++ hc p1.h ++ ([u6 p2, i6 p0, i6 p3] : LV)
theorem Zez {n : Nat} {f : Nat → Value} {w : World} {dst : Option Tmp} {ty : TypeId} {pos : String} {aft : Array Edge} {gd : Option (Nat × Bool)} {x y : Operand} {T : TypeId} (a b c d : Int) (hx : ev n f x = .agg ⟨[i6 a, i6 b]⟩) (hy : ev n f y = .agg ⟨[i6 c, i6 d]⟩) :
  (execOp (ev n f) ⟨dst, .binOp .neq 69 x y T, ty, pos, aft, gd⟩).run Tryz.prog w = .ok (.value (.bool (!decide (a = c ∧ b = d)))) w := by
 simp only [execOp, hx, hy]
 simp [go_sem]
 by_cases h1 : a = c <;> by_cases h2 : b = d <;> simp_all
def mkC0 (cl seq : Int) (x : Hash) (p : List UInt8) : Zg := ⟨cl, seq, Z0D (ofT cl seq x p), p.length, 0, 0⟩
def yC (cl seq : Int) (x : Hash) (p : List UInt8) : Signed := ⟨1000 + cl, Zp (mkC0 cl seq x p)⟩
def mkC (L : List Signed) (cl seq : Int) (x : Hash) (p : List UInt8) : Zg := ⟨cl, seq, Z0D (ofT cl seq x p), p.length, 1000 + cl, Zo (Zw L (yC cl seq x p)) (yC cl seq x p)⟩
def mkS0 (q : Int) (x : Zg) (t : Int) : Z9 := ⟨q, x.cl, x.seq, x.h, t, 0, 0⟩
def yS (q : Int) (x : Zg) (t : Int) : Signed := ⟨q, Zx (mkS0 q x t)⟩
def mkS (L : List Signed) (q : Int) (x : Zg) (t : Int) : Z9 := ⟨q, x.cl, x.seq, x.h, t, q, Zo (Zw L (yS q x t)) (yS q x t)⟩
def rb2 (r : Nat) (a : Option Addr) (c : Nat) (L : List Signed) : List Ck := [Z0 r 165 [.slice a (L).length c], Zh 181 2 (.slice a (L).length c) (L).length ((L).flatMap Z4R)]
def Z08 (b mb r : Nat) (a : Option Addr) (c : Nat) (L : List Signed) : List Ck := [Z0 b 179 [.map (some mb)], Z0u mb ZZ (Value.int .i64) (Z0c L), Z0 r 165 [.slice a (L).length c], Zh 181 2 (.slice a (L).length c) (L).length ((L).flatMap Z4R)]
theorem ZeY {b mb r : Nat} {a : Option Addr} {c : Nat} {L : List Signed} (k : Nat) (h : (Z04 (rb2 r a c L)).fp k) : (Z04 (Z08 b mb r a c L)).fp k := by
 obtain ⟨A, hA, hk⟩ := h
 exact ⟨A, List.mem_cons_of_mem _ (List.mem_cons_of_mem _ hA), hk⟩
theorem Zcc (w : World) (r : Nat) (a : Option Addr) (c : Nat) (L : List Signed) (hB : (Z04 (rb2 r a c L)).ok w) (cl seq : Int) (x : Hash) (pa : Option Addr) (pc : Nat) (p : List UInt8) (hp : ListAt Zr 1 w (.slice pa p.length pc) p) (hoff : 0 < p.length → ∀ ad, pa = some ad → ¬ (Z04 (rb2 r a c L)).fp ad.block) (hlp : p.length ≤ 1000) (hcl : 0 ≤ cl ∧ cl ≤ 1000000) (hsq : seq ≤ 9223372036854775807) (hL : L.length ≤ 100000) (hn : L.Nodup) :
  Calls Tryz.prog 83 #[zp r, (.agg ⟨([i6 cl, i6 seq] : LV)⟩), (.agg ⟨(hc x)⟩), (.slice pa p.length pc)] w fun e w' => ∃ a' c', e = .returned (.agg ⟨Zax (mkC L cl seq x p)⟩) ∧ Sat w [Z0 r 165 [.slice a' (Zw L (yC cl seq x p)).length c'], Zh 181 2 (.slice a' (Zw L (yC cl seq x p)).length c') (Zw L (yC cl seq x p)).length ((Zw L (yC cl seq x p)).flatMap Z4R), ZF w (Z04 (rb2 r a c L)).fp] w' := by
 have hL0 : (1000 + cl) ≤ 9223372036854775807 := by omega
 have H := Sat.start (rb2 r a c L) hB
 refine Za Tryz.func83 rfl 27 rfl kn ?_
 let A5 := Z40 cl seq
 refine zsl <| zy <| zdb A5 H ?_
 let A0 := ZF w (Z04 (rb2 r a c L)).fp
 let A4 := Z0 r 165 (Z2v a L.length c)
 let A6 := Z2d a L c
 intro b2 w3 (H4 : Sat w [A4, A6, A0, Z0 b2 59 A5] w3)
 refine kk <| zy <| zdb (hc x) H4 fun b6 w7 H8 => ?_
 refine kk <| zy <| zda (Z3F) H8 ?_
 let A1 := Z0 b2 59 A5
 let A2 := Z0 b6 61 (hc x)
 intro b10 w11 (H12 : Sat w [A4, A6, A0, A1, A2, Z0 b10 73 (Z3F)] w11)
 let A3 := Z0 b10 73 (Z3F)
 refine kk <| znt <| Z7 <| ZX H12 [A4, A6, A0, A1, A2, A3] 10 rfl kr (fun Hx => (Hx.pk [0, 1, 2, 3, 4, 5])) fun w13 H14 S15 => ?_
 refine hv0 0 S15 10 (.agg ⟨A5⟩) ?_ (he := fun _ H' => (zlN (vs := A5) (H'.at 3 rfl)))
 refine hv0 1 S15 11 (.agg ⟨A5⟩) ?_ (he := fun _ H' => (zlN (vs := A5) (H'.at 3 rfl)))
 refine hv0 2 S15 12 (.agg ⟨(hc x)⟩) ?_ (he := fun _ H' => (zlN (vs := (hc x)) (H'.at 4 rfl)))
 refine hv0 3 S15 13 (.slice pa p.length pc) <| hv0 5 S15 15 (.slice pa p.length pc) <| Z0H 6 rfl kr kr kr (fun _ _ _ h => h) S15 (Z8 rfl) (d := 16) (v := (vi p.length)) rfl (fun _ H' => kr) ?_
 refine Z66 4 8 rfl rfl kr (Z8 rfl) (Z8 rfl) (fun Kq kq => ?_) (fun Kq kq => ?_)
 ·refine zdq 14 (ZaG w13 cl seq x pa pc p (ListAt.nowD H14 2 rfl hp hoff) om om hlp) H14 ?_
  intro w17 H18
  have S20 := H18.pk [0, 1, 2, 3, 4, 5]
  refine kq _ _ S20 <| Z0H 7 rfl kr kr kr (fun _ _ _ h => h) S20 (Z8 rfl) (d := 17) (v := (.agg ⟨(Z2f cl seq (Z0D (ofT cl seq x p)) ((p.length : Int)))⟩)) rfl (fun _ H' => kr) ?_
  refine zhy 8 ?_
  refine zda (Z3F) H18 ?_
  intro b22 w23 H24
  have S25 := H24.pk [0, 1, 2, 3, 4, 5]
  refine kh S25 <| zhy 9 ?_
  refine Z1p (Z2f cl seq (Z0D (ofT cl seq x p)) ((p.length : Int))) H24 6 ?_
  intro w27 (H28 : Sat w [A4, A6, A0, A1, A2, A3, Z0 b22 73 (Z2f cl seq (Z0D (ofT cl seq x p)) ((p.length : Int)))] w27)
  have S30 := H28.pk [0, 1, 2, 3, 4, 5]
  refine kh S30 <| zhf <| ztn <| Z7 <| Z1j H28 [A0, A1, A2, A3, Z0 b22 73 (Z2f cl seq (Z0D (ofT cl seq x p)) ((p.length : Int)))] [8] 9 rfl kr (fun Hx => (Hx.pk [2, 3, 4, 5, 6])) fun w31 H32 S33 => ?_
  refine zkp 0 S33 18 (pt r 0) <| zkp 1 S33 19 (pt b2 0) <| zkv 2 S33 20 (vi cl) ?_ (he := fun _ H' => (zl1 (H'.cell 1 rfl rfl)))
  refine zkp 3 S33 21 (vi (1000 + cl)) ?_ (he := fun _ => (Z0q (z := 1000 + cl) kr (IntWalk.i64_in _ om)))
  refine zkv 4 S33 22 (.agg ⟨(Z2f cl seq (Z0D (ofT cl seq x p)) ((p.length : Int)))⟩) ?_ (he := fun _ H' => (zlN (vs := (Z2f cl seq (Z0D (ofT cl seq x p)) ((p.length : Int)))) (H'.at 4 rfl)))
  refine zky 5 ?_
  refine zdc 23 (Z2E w31 (⟨cl, seq, (Z0D (ofT cl seq x p)), (p.length : Int), 0, 0⟩ : Zg) ⟨by show cl ≤ _; omega, hsq, by show (p.length : Int) ≤ _; omega⟩) ?_
  rintro _ w35 ⟨u36, rfl, k37, p38, q39⟩
  have H40 := H32.addU p38 k37 q39
  obtain ⟨a41, c42, rfl⟩ := Z1 (H40.at 7 rfl)
  refine ⟨_, rfl, ?_⟩
  have S43 := H40.pk [2, 3, 4, 5, 6]
  refine ke S43 <| zky 6 ?_
  refine zdc 24 (Z2O w35 r a c L (.slice a41 ((Zp (⟨cl, seq, (Z0D (ofT cl seq x p)), (p.length : Int), 0, 0⟩ : Zg)).length) c42) (Zp (⟨cl, seq, (Z0D (ofT cl seq x p)), (p.length : Int), 0, 0⟩ : Zg)) (H40.fn [0, 1, 7]) om hn (1000 + cl)) ?_
  rintro _ w45 ⟨a47, c48, rfl, T46⟩
  have H49 : Sat w [Z0 r 165 (Z2v a47 ((Zw L (⟨1000 + cl, (Zp (⟨cl, seq, (Z0D (ofT cl seq x p)), (p.length : Int), 0, 0⟩ : Zg))⟩ : Signed)).length) c48), (Z2d a47 (Zw L (⟨1000 + cl, (Zp (⟨cl, seq, (Z0D (ofT cl seq x p)), (p.length : Int), 0, 0⟩ : Zg))⟩ : Signed)) c48), A0, A1, A2, A3, Z0 b22 73 (Z2f cl seq (Z0D (ofT cl seq x p)) ((p.length : Int))), (Z2s a41 (Zp (⟨cl, seq, (Z0D (ofT cl seq x p)), (p.length : Int), 0, 0⟩ : Zg)) c42)] w45 := (Sat.turnL (L' := [Z0 r 165 (Z2v a47 ((Zw L (⟨1000 + cl, (Zp (⟨cl, seq, (Z0D (ofT cl seq x p)), (p.length : Int), 0, 0⟩ : Zg))⟩ : Signed)).length) c48), (Z2d a47 (Zw L (⟨1000 + cl, (Zp (⟨cl, seq, (Z0D (ofT cl seq x p)), (p.length : Int), 0, 0⟩ : Zg))⟩ : Signed)) c48), (Z2s a41 (Zp (⟨cl, seq, (Z0D (ofT cl seq x p)), (p.length : Int), 0, 0⟩ : Zg)) c42)]) (R := [A0, A1, A2, A3, Z0 b22 73 (Z2f cl seq (Z0D (ofT cl seq x p)) ((p.length : Int)))]) H40 [0, 1, 7] [2, 3, 4, 5, 6] (by decide) kr rfl T46).pk [0, 1, 3, 4, 5, 6, 7, 2]
  refine ⟨_, rfl, ?_⟩
  have S50 := H49.pk [2, 3, 4, 5, 6]
  refine ke S50 <| zkp 7 S50 25 (pt b22 35) <| Z3s 8 (Sat w [A0, A1, A2, A3]) rfl kr (Z8 rfl) rfl (fun Kq kq => ?_)
  refine zds (Z40 (1000 + cl) (Zo (Zw L (⟨1000 + cl, (Zp (⟨cl, seq, (Z0D (ofT cl seq x p)), (p.length : Int), 0, 0⟩ : Zg))⟩ : Signed)) (⟨1000 + cl, (Zp (⟨cl, seq, (Z0D (ofT cl seq x p)), (p.length : Int), 0, 0⟩ : Zg))⟩ : Signed))) (Z36 cl seq (Z0D (ofT cl seq x p)) ((p.length : Int)) (1000 + cl) (Zo (Zw L (⟨1000 + cl, (Zp (⟨cl, seq, (Z0D (ofT cl seq x p)), (p.length : Int), 0, 0⟩ : Zg))⟩ : Signed)) (⟨1000 + cl, (Zp (⟨cl, seq, (Z0D (ofT cl seq x p)), (p.length : Int), 0, 0⟩ : Zg))⟩ : Signed))) H49 6 ?_
  intro w52 H53
  have S55 := H53.pk [2, 3, 4, 5]
  refine kq _ _ S55 <| zhf <| ztn <| zsl <| zwN 26 (Z36 cl seq (Z0D (ofT cl seq x p)) ((p.length : Int)) (1000 + cl) (Zo (Zw L (⟨1000 + cl, (Zp (⟨cl, seq, (Z0D (ofT cl seq x p)), (p.length : Int), 0, 0⟩ : Zg))⟩ : Signed)) (⟨1000 + cl, (Zp (⟨cl, seq, (Z0D (ofT cl seq x p)), (p.length : Int), 0, 0⟩ : Zg))⟩ : Signed))) (H53.at 6 rfl) <| zy <| Z1p (Z36 cl seq (Z0D (ofT cl seq x p)) ((p.length : Int)) (1000 + cl) (Zo (Zw L (⟨1000 + cl, (Zp (⟨cl, seq, (Z0D (ofT cl seq x p)), (p.length : Int), 0, 0⟩ : Zg))⟩ : Signed)) (⟨1000 + cl, (Zp (⟨cl, seq, (Z0D (ofT cl seq x p)), (p.length : Int), 0, 0⟩ : Zg))⟩ : Signed))) H53 5 ?_
  intro w57 (H58 : Sat w [Z0 r 165 (Z2v a47 ((Zw L (⟨1000 + cl, (Zp (⟨cl, seq, (Z0D (ofT cl seq x p)), (p.length : Int), 0, 0⟩ : Zg))⟩ : Signed)).length) c48), (Z2d a47 (Zw L (⟨1000 + cl, (Zp (⟨cl, seq, (Z0D (ofT cl seq x p)), (p.length : Int), 0, 0⟩ : Zg))⟩ : Signed)) c48), A0, A1, A2, Z0 b10 73 (Z36 cl seq (Z0D (ofT cl seq x p)) ((p.length : Int)) (1000 + cl) (Zo (Zw L (⟨1000 + cl, (Zp (⟨cl, seq, (Z0D (ofT cl seq x p)), (p.length : Int), 0, 0⟩ : Zg))⟩ : Signed)) (⟨1000 + cl, (Zp (⟨cl, seq, (Z0D (ofT cl seq x p)), (p.length : Int), 0, 0⟩ : Zg))⟩ : Signed))), Z0 b22 73 (Z36 cl seq (Z0D (ofT cl seq x p)) ((p.length : Int)) (1000 + cl) (Zo (Zw L (⟨1000 + cl, (Zp (⟨cl, seq, (Z0D (ofT cl seq x p)), (p.length : Int), 0, 0⟩ : Zg))⟩ : Signed)) (⟨1000 + cl, (Zp (⟨cl, seq, (Z0D (ofT cl seq x p)), (p.length : Int), 0, 0⟩ : Zg))⟩ : Signed))), (Z2s a41 (Zp (⟨cl, seq, (Z0D (ofT cl seq x p)), (p.length : Int), 0, 0⟩ : Zg)) c42)] w57)
  refine kk <| znt <| Zk <| Z5k rfl (ZP (vs := (Z36 cl seq (Z0D (ofT cl seq x p)) ((p.length : Int)) (1000 + cl) (Zo (Zw L (⟨1000 + cl, (Zp (⟨cl, seq, (Z0D (ofT cl seq x p)), (p.length : Int), 0, 0⟩ : Zg))⟩ : Signed)) (⟨1000 + cl, (Zp (⟨cl, seq, (Z0D (ofT cl seq x p)), (p.length : Int), 0, 0⟩ : Zg))⟩ : Signed)))) rfl kr kr kn (H58.at 5 rfl) kr) ?_
  exact ⟨a47, c48, rfl, H58.pk [0, 1, 2]⟩
 refine zda (Z3F) H14 ?_
 intro b60 w61 H62
 have S63 := H62.pk [0, 1, 2, 3, 4, 5]
 refine kq _ _ S63 <| zhy 4 ?_
 refine zdq 14 (ZaG w61 cl seq x pa pc p (ListAt.nowD H62 2 rfl hp hoff) om om hlp) H62 ?_
 intro w65 H66
 have S68 := H66.pk [0, 1, 2, 3, 4, 5]
 refine kh S68 <| Z0H 7 rfl kr kr kr (fun _ _ _ h => h) S68 (Z8 rfl) (d := 17) (v := (.agg ⟨(Z2f cl seq (Z0D (ofT cl seq x p)) ((p.length : Int)))⟩)) rfl (fun _ H' => kr) ?_
 refine zhy 9 ?_
 refine Z1p (Z2f cl seq (Z0D (ofT cl seq x p)) ((p.length : Int))) H66 6 ?_
 intro w70 (H71 : Sat w [A4, A6, A0, A1, A2, A3, Z0 b60 73 (Z2f cl seq (Z0D (ofT cl seq x p)) ((p.length : Int)))] w70)
 have S73 := H71.pk [0, 1, 2, 3, 4, 5]
 refine kh S73 <| zhf <| ztn <| Z7 <| Z1j H71 [A0, A1, A2, A3, Z0 b60 73 (Z2f cl seq (Z0D (ofT cl seq x p)) ((p.length : Int)))] [8] 9 rfl kr (fun Hx => (Hx.pk [2, 3, 4, 5, 6])) fun w74 H75 S76 => ?_
 refine zkp 0 S76 18 (pt r 0) <| zkp 1 S76 19 (pt b2 0) <| zkv 2 S76 20 (vi cl) ?_ (he := fun _ H' => (zl1 (H'.cell 1 rfl rfl)))
 refine zkp 3 S76 21 (vi (1000 + cl)) ?_ (he := fun _ => (Z0q (z := 1000 + cl) kr (IntWalk.i64_in _ om)))
 refine zkv 4 S76 22 (.agg ⟨(Z2f cl seq (Z0D (ofT cl seq x p)) ((p.length : Int)))⟩) ?_ (he := fun _ H' => (zlN (vs := (Z2f cl seq (Z0D (ofT cl seq x p)) ((p.length : Int)))) (H'.at 4 rfl)))
 refine zky 5 ?_
 refine zdc 23 (Z2E w74 (⟨cl, seq, (Z0D (ofT cl seq x p)), (p.length : Int), 0, 0⟩ : Zg) ⟨by show cl ≤ _; omega, hsq, by show (p.length : Int) ≤ _; omega⟩) ?_
 rintro _ w78 ⟨u79, rfl, k80, p81, q82⟩
 have H83 := H75.addU p81 k80 q82
 obtain ⟨a84, c85, rfl⟩ := Z1 (H83.at 7 rfl)
 refine ⟨_, rfl, ?_⟩
 have S86 := H83.pk [2, 3, 4, 5, 6]
 refine ke S86 <| zky 6 ?_
 refine zdc 24 (Z2O w78 r a c L (.slice a84 ((Zp (⟨cl, seq, (Z0D (ofT cl seq x p)), (p.length : Int), 0, 0⟩ : Zg)).length) c85) (Zp (⟨cl, seq, (Z0D (ofT cl seq x p)), (p.length : Int), 0, 0⟩ : Zg)) (H83.fn [0, 1, 7]) om hn (1000 + cl)) ?_
 rintro _ w88 ⟨a90, c91, rfl, T89⟩
 have H92 : Sat w [Z0 r 165 (Z2v a90 ((Zw L (⟨1000 + cl, (Zp (⟨cl, seq, (Z0D (ofT cl seq x p)), (p.length : Int), 0, 0⟩ : Zg))⟩ : Signed)).length) c91), (Z2d a90 (Zw L (⟨1000 + cl, (Zp (⟨cl, seq, (Z0D (ofT cl seq x p)), (p.length : Int), 0, 0⟩ : Zg))⟩ : Signed)) c91), A0, A1, A2, A3, Z0 b60 73 (Z2f cl seq (Z0D (ofT cl seq x p)) ((p.length : Int))), (Z2s a84 (Zp (⟨cl, seq, (Z0D (ofT cl seq x p)), (p.length : Int), 0, 0⟩ : Zg)) c85)] w88 := (Sat.turnL (L' := [Z0 r 165 (Z2v a90 ((Zw L (⟨1000 + cl, (Zp (⟨cl, seq, (Z0D (ofT cl seq x p)), (p.length : Int), 0, 0⟩ : Zg))⟩ : Signed)).length) c91), (Z2d a90 (Zw L (⟨1000 + cl, (Zp (⟨cl, seq, (Z0D (ofT cl seq x p)), (p.length : Int), 0, 0⟩ : Zg))⟩ : Signed)) c91), (Z2s a84 (Zp (⟨cl, seq, (Z0D (ofT cl seq x p)), (p.length : Int), 0, 0⟩ : Zg)) c85)]) (R := [A0, A1, A2, A3, Z0 b60 73 (Z2f cl seq (Z0D (ofT cl seq x p)) ((p.length : Int)))]) H83 [0, 1, 7] [2, 3, 4, 5, 6] (by decide) kr rfl T89).pk [0, 1, 3, 4, 5, 6, 7, 2]
 refine ⟨_, rfl, ?_⟩
 have S93 := H92.pk [2, 3, 4, 5, 6]
 refine ke S93 <| zkp 7 S93 25 (pt b60 35) <| Z3s 8 (Sat w [A0, A1, A2, A3]) rfl kr (Z8 rfl) rfl (fun Kq kq => ?_)
 refine zds (Z40 (1000 + cl) (Zo (Zw L (⟨1000 + cl, (Zp (⟨cl, seq, (Z0D (ofT cl seq x p)), (p.length : Int), 0, 0⟩ : Zg))⟩ : Signed)) (⟨1000 + cl, (Zp (⟨cl, seq, (Z0D (ofT cl seq x p)), (p.length : Int), 0, 0⟩ : Zg))⟩ : Signed))) (Z36 cl seq (Z0D (ofT cl seq x p)) ((p.length : Int)) (1000 + cl) (Zo (Zw L (⟨1000 + cl, (Zp (⟨cl, seq, (Z0D (ofT cl seq x p)), (p.length : Int), 0, 0⟩ : Zg))⟩ : Signed)) (⟨1000 + cl, (Zp (⟨cl, seq, (Z0D (ofT cl seq x p)), (p.length : Int), 0, 0⟩ : Zg))⟩ : Signed))) H92 6 ?_
 intro w95 H96
 have S98 := H96.pk [2, 3, 4, 5]
 refine kq _ _ S98 <| zhf <| ztn <| zsl <| zwN 26 (Z36 cl seq (Z0D (ofT cl seq x p)) ((p.length : Int)) (1000 + cl) (Zo (Zw L (⟨1000 + cl, (Zp (⟨cl, seq, (Z0D (ofT cl seq x p)), (p.length : Int), 0, 0⟩ : Zg))⟩ : Signed)) (⟨1000 + cl, (Zp (⟨cl, seq, (Z0D (ofT cl seq x p)), (p.length : Int), 0, 0⟩ : Zg))⟩ : Signed))) (H96.at 6 rfl) <| zy <| Z1p (Z36 cl seq (Z0D (ofT cl seq x p)) ((p.length : Int)) (1000 + cl) (Zo (Zw L (⟨1000 + cl, (Zp (⟨cl, seq, (Z0D (ofT cl seq x p)), (p.length : Int), 0, 0⟩ : Zg))⟩ : Signed)) (⟨1000 + cl, (Zp (⟨cl, seq, (Z0D (ofT cl seq x p)), (p.length : Int), 0, 0⟩ : Zg))⟩ : Signed))) H96 5 ?_
 intro w100 (H101 : Sat w [Z0 r 165 (Z2v a90 ((Zw L (⟨1000 + cl, (Zp (⟨cl, seq, (Z0D (ofT cl seq x p)), (p.length : Int), 0, 0⟩ : Zg))⟩ : Signed)).length) c91), (Z2d a90 (Zw L (⟨1000 + cl, (Zp (⟨cl, seq, (Z0D (ofT cl seq x p)), (p.length : Int), 0, 0⟩ : Zg))⟩ : Signed)) c91), A0, A1, A2, Z0 b10 73 (Z36 cl seq (Z0D (ofT cl seq x p)) ((p.length : Int)) (1000 + cl) (Zo (Zw L (⟨1000 + cl, (Zp (⟨cl, seq, (Z0D (ofT cl seq x p)), (p.length : Int), 0, 0⟩ : Zg))⟩ : Signed)) (⟨1000 + cl, (Zp (⟨cl, seq, (Z0D (ofT cl seq x p)), (p.length : Int), 0, 0⟩ : Zg))⟩ : Signed))), Z0 b60 73 (Z36 cl seq (Z0D (ofT cl seq x p)) ((p.length : Int)) (1000 + cl) (Zo (Zw L (⟨1000 + cl, (Zp (⟨cl, seq, (Z0D (ofT cl seq x p)), (p.length : Int), 0, 0⟩ : Zg))⟩ : Signed)) (⟨1000 + cl, (Zp (⟨cl, seq, (Z0D (ofT cl seq x p)), (p.length : Int), 0, 0⟩ : Zg))⟩ : Signed))), (Z2s a84 (Zp (⟨cl, seq, (Z0D (ofT cl seq x p)), (p.length : Int), 0, 0⟩ : Zg)) c85)] w100)
 refine kk <| znt <| Zk <| Z5k rfl (ZP (vs := (Z36 cl seq (Z0D (ofT cl seq x p)) ((p.length : Int)) (1000 + cl) (Zo (Zw L (⟨1000 + cl, (Zp (⟨cl, seq, (Z0D (ofT cl seq x p)), (p.length : Int), 0, 0⟩ : Zg))⟩ : Signed)) (⟨1000 + cl, (Zp (⟨cl, seq, (Z0D (ofT cl seq x p)), (p.length : Int), 0, 0⟩ : Zg))⟩ : Signed)))) rfl kr kr kn (H101.at 5 rfl) kr) ?_
 exact ⟨a90, c91, rfl, H101.pk [0, 1, 2]⟩
theorem Z4m (w : World) (b mb r : Nat) (a : Option Addr) (c : Nat) (L : List Signed) (hB : (Z04 (Z08 b mb r a c L)).ok w) (cl seq : Int) (pa : Option Addr) (pc : Nat) (p : List UInt8) (hp : ListAt Zr 1 w (.slice pa p.length pc) p) (hoff : 0 < p.length → ∀ ad, pa = some ad → ¬ (Z04 (Z08 b mb r a c L)).fp ad.block) (hlp : p.length ≤ 1000) (hcl : 0 ≤ cl ∧ cl ≤ 1000000) (hsq : seq ≤ 9223372036854775807) (hL : L.length ≤ 100000) (hn : L.Nodup) :
  Calls Tryz.prog 33 #[(.agg ⟨([zp b, zp r] : LV)⟩), (.agg ⟨([i6 cl, i6 seq] : LV)⟩), (.slice pa p.length pc)] w fun e w' => ∃ a' c', e = .returned (.agg ⟨Zax (mkC L cl seq ZC p)⟩) ∧ Sat w [Z0 b 179 [.map (some mb)], Z0u mb ZZ (Value.int .i64) (Z0c (Zw L (yC cl seq ZC p))), Z0 r 165 [.slice a' (Zw L (yC cl seq ZC p)).length c'], Zh 181 2 (.slice a' (Zw L (yC cl seq ZC p)).length c') (Zw L (yC cl seq ZC p)).length ((Zw L (yC cl seq ZC p)).flatMap Z4R), ZF w (Z04 (Z08 b mb r a c L)).fp] w' := by
 have hL0 : (1000 + cl) ≤ 9223372036854775807 := by omega
 have H := Sat.start (Z08 b mb r a c L) hB
 refine Za Tryz.func33 rfl 24 rfl kn ?_
 refine zsl <| zy <| zdb (Z7b b r) H ?_
 let A2 := ZF w (Z04 (Z08 b mb r a c L)).fp
 let A6 := Z0 b 179 (Zdy mb)
 let A8 := Z5W mb L
 let A9 := Z0 r 165 (Z2v a L.length c)
 intro b2 w3 (H4 : Sat w [A6, A8, A9, (Z2d a L c), A2, Z0 b2 33 (Z7b b r)] w3)
 let Aa := Z40 cl seq
 refine kk <| zy <| zdb Aa H4 fun b6 w7 H8 => ?_
 refine kk <| zy <| zda (Z3F) H8 ?_
 let A3 := Z0 b6 59 Aa
 let A5 := Z0 b2 33 (Z7b b r)
 intro b10 w11 (H12 : Sat w [A6, A8, A9, (Z2d a L c), A2, A5, A3, Z0 b10 73 (Z3F)] w11)
 refine kk <| Z0G <| wv 8 (pt b2 1) <| zw1 9 (pt r 0) (H12.cell 5 rfl rfl) <| zwN 10 Aa (H12.at 6 rfl) <| wv 11 (.agg ⟨(hc ZC)⟩) <| wv 12 (.slice pa p.length pc) <| zy <| zdc 13 (Zcc w11 r a c L (H12.fn [2, 3]) cl seq ZC pa pc p (ListAt.nowD H12 4 rfl hp hoff) (fun h0 ad ha hf => hoff h0 ad ha (ZeY ad.block hf)) hlp om hsq hL hn) ?_
 rintro _ w14 ⟨a16, c17, rfl, T15⟩
 let Ab := Zw L (yC cl seq ZC p)
 let A0 := Z0 r 165 (Z2v a16 (Ab.length) c17)
 let A1 := Z2d a16 Ab c17
 have H18 := H12.tl [A0, A1] [2, 3] [0, 1, 4, 5, 6, 7] T15 [2, 3, 0, 1, 4, 5, 6, 7]
 refine ⟨_, rfl, ?_⟩
 refine kk <| zy <| zda (Z3F) H18 ?_
 let A7 := Z0 b10 73 (Z3F)
 intro b20 w21 (H22 : Sat w [A6, A8, A0, A1, A2, A5, A3, A7, Z0 b20 73 (Z3F)] w21)
 let A4 := Z6x (mkC L cl seq ZC p)
 refine kk <| zy <| Z1p A4 H22 8 fun w24 H25 => ?_
 refine kk <| znt <| Z7 <| Z1j H25 [A0, A1, A2, A5, A3, A7, Z0 b20 73 A4] [9] 10 rfl kr (fun Hx => (Hx.pk [2, 3, 4, 5, 6, 7, 8])) fun w27 H28 S29 => ?_
 refine zkp 0 S29 14 (pt b2 0) <| zkv 1 S29 15 (pt b 0) ?_ (he := fun _ H' => (zl1 (H'.cell 3 rfl rfl)))
 refine zkp 2 S29 16 (pt b6 0) <| zkv 3 S29 17 (vi cl) ?_ (he := fun _ H' => (zl1 (H'.cell 4 rfl rfl)))
 refine zkp 4 S29 18 (vi (1000 + cl)) ?_ (he := fun _ => (Z0q (z := 1000 + cl) kr (IntWalk.i64_in _ om)))
 refine zkv 5 S29 19 (.agg ⟨A4⟩) ?_ (he := fun _ H' => (zlN (vs := A4) (H'.at 6 rfl)))
 refine zky 6 ?_
 refine zdc 20 (Z2E w27 (mkC L cl seq ZC p) ⟨by show cl ≤ _; omega, hsq, by show (p.length : Int) ≤ _; omega⟩) ?_
 rintro _ w31 ⟨u32, rfl, k33, p34, q35⟩
 have H36 : Sat w [A6, A8, A0, A1, A2, A5, A3, A7, Z0 b20 73 A4, Zh 5 1 u32 ((Zp (mkC L cl seq ZC p)).length) ((Zp (mkC L cl seq ZC p)).flatMap Zr)] w31 := H28.addU p34 k33 q35
 obtain ⟨a37, c38, rfl⟩ := Z1 (H36.at 9 rfl)
 refine ⟨_, rfl, ?_⟩
 have S39 := H36.pk [2, 3, 4, 5, 6, 7, 8]
 refine ke S39 <| zky 7 ?_
 refine zdc 21 (Z4p w31 b mb L (.slice a37 ((Zp (mkC L cl seq ZC p)).length) c38) (Zp (mkC L cl seq ZC p)) (H36.fn [0, 1, 9]) om (1000 + cl)) ?_
 rintro _ w41 ⟨rfl, T42⟩
 have H43 := H36.tl [A6, (Z5W mb (Zw L (⟨1000 + cl, (Zp (mkC L cl seq ZC p))⟩ : Signed))), (Z2s a37 (Zp (mkC L cl seq ZC p)) c38)] [0, 1, 9] [2, 3, 4, 5, 6, 7, 8] T42 [0, 1, 3, 4, 5, 6, 7, 8, 9, 2]
 refine ⟨_, rfl, ?_⟩
 have S44 := H43.pk [2, 3, 4, 5, 6, 7, 8]
 refine ke S44 <| zkp 8 S44 22 (pt b20 35) <| Z3s 9 (Sat w [A0, A1, A2, A5, A3, A7]) rfl kr (Z8 rfl) rfl (fun Kq kq => ?_)
 refine zds (Z40 (1000 + cl) (Zo (Zw L (⟨1000 + cl, (Zp (mkC L cl seq ZC p))⟩ : Signed)) (⟨1000 + cl, (Zp (mkC L cl seq ZC p))⟩ : Signed))) (Z5r (mkC L cl seq ZC p) (1000 + cl) (Zo (Zw L (⟨1000 + cl, (Zp (mkC L cl seq ZC p))⟩ : Signed)) (⟨1000 + cl, (Zp (mkC L cl seq ZC p))⟩ : Signed))) H43 8 ?_
 intro w46 (H47 : Sat w [A6, (Z5W mb (Zw L (⟨1000 + cl, (Zp (mkC L cl seq ZC p))⟩ : Signed))), A0, A1, A2, A5, A3, A7, Z0 b20 73 (Z5r (mkC L cl seq ZC p) (1000 + cl) (Zo (Zw L (⟨1000 + cl, (Zp (mkC L cl seq ZC p))⟩ : Signed)) (⟨1000 + cl, (Zp (mkC L cl seq ZC p))⟩ : Signed))), (Z2s a37 (Zp (mkC L cl seq ZC p)) c38)] w46)
 have S49 := H47.pk [2, 3, 4, 5, 6, 7]
 refine kq _ _ S49 <| zhf <| ztn <| zsl <| zwN 23 (Z5r (mkC L cl seq ZC p) (1000 + cl) (Zo (Zw L (⟨1000 + cl, (Zp (mkC L cl seq ZC p))⟩ : Signed)) (⟨1000 + cl, (Zp (mkC L cl seq ZC p))⟩ : Signed))) (H47.at 8 rfl) <| zy <| Z1p (Z5r (mkC L cl seq ZC p) (1000 + cl) (Zo (Zw L (⟨1000 + cl, (Zp (mkC L cl seq ZC p))⟩ : Signed)) (⟨1000 + cl, (Zp (mkC L cl seq ZC p))⟩ : Signed))) H47 7 fun w51 H52 => ?_
 refine kk <| znt <| Zk <| Z5k rfl (ZP (vs := (Z5r (mkC L cl seq ZC p) (1000 + cl) (Zo (Zw L (⟨1000 + cl, (Zp (mkC L cl seq ZC p))⟩ : Signed)) (⟨1000 + cl, (Zp (mkC L cl seq ZC p))⟩ : Signed)))) rfl kr kr kn (H52.at 7 rfl) kr) ?_
 exact ⟨a16, c17, rfl, H52.pk [0, 1, 2, 3, 4]⟩
theorem Z6G (w : World) (b mb r : Nat) (a : Option Addr) (c : Nat) (L : List Signed) (hB : (Z04 (Z08 b mb r a c L)).ok w) (q : Int) (x : Zg) (t : Int) (hr : q ≤ 9223372036854775807) (hx : ZcK x) (ht : 0 ≤ t ∧ t < 18446744073709551616) (hL : L.length ≤ 100000) (hn : L.Nodup) :
  Calls Tryz.prog 82 #[(.agg ⟨([zp b, zp r] : LV)⟩), i6 q, (.agg ⟨(([i6 x.cl, i6 x.seq] : LV) ++ hc x.h ++ ([i6 x.len, i6 x.sb, i6 x.sm] : LV))⟩), u6 t] w fun e w' => ∃ a' c', e = .returned (.agg ⟨Z1T (mkS L q x t)⟩) ∧ Sat w [Z0 b 179 [.map (some mb)], Z0u mb ZZ (Value.int .i64) (Z0c (Zw L (yS q x t))), Z0 r 165 [.slice a' (Zw L (yS q x t)).length c'], Zh 181 2 (.slice a' (Zw L (yS q x t)).length c') (Zw L (yS q x t)).length ((Zw L (yS q x t)).flatMap Z4R), ZF w (Z04 (Z08 b mb r a c L)).fp] w' := by
 let A0 := ZF w (Z04 (Z08 b mb r a c L)).fp
 let A2 := Z0 b 179 (Zdy mb)
 let A5 := Z0 r 165 (Z2v a L.length c)
 let A6 := Z5W mb L
 let A8 := Z2d a L c
 have H : Sat w [A2, A6, A5, A8, A0] w := Sat.start (Z08 b mb r a c L) hB
 refine Za Tryz.func82 rfl 36 rfl kn ?_
 refine zsl <| zy <| zdb (Z7b b r) H fun b2 w3 H4 => ?_
 refine kk <| zy <| zdb (Z6x x) H4 ?_
 let A1 := Z0 b2 33 (Z7b b r)
 intro b6 w7 (H8 : Sat w [A2, A6, A5, A8, A0, A1, Z0 b6 73 (Z6x x)] w7)
 refine kk <| zy <| zda (Z6t) H8 fun b10 w11 H12 => ?_
 let A7 := ZeN q x t
 refine kk <| Z0G <| wv 10 (vi q) <| wv 11 (pt b6 0) <| zwN 12 (Z40 x.cl x.seq) (H12.at 6 rfl) <| wv 13 (pt b6 2) <| zwN 14 (hc x.h) (H12.at 6 rfl) <| wv 15 (vu t) <| wv 16 (.agg ⟨A7⟩) <| zy ?_
 refine zda (Z6t) H12 ?_
 let A3 := Z0 b6 73 (Z6x x)
 let A4 := Z0 b10 149 (Z6t)
 intro b14 w15 (H16 : Sat w [A2, A6, A5, A8, A0, A1, A3, A4, Z0 b14 149 (Z6t)] w15)
 refine kk <| zy <| Z1p A7 H16 8 fun w18 H19 => ?_
 refine kk <| znt <| Z7 <| Z1j H19 [A2, A6, A0, A1, A3, A4, Z0 b14 149 A7] [7] 8 rfl kr (fun Hx => (Hx.pk [0, 1, 4, 5, 6, 7, 8])) fun w21 H22 S23 => ?_
 refine zkp 0 S23 17 (pt b2 1) <| zkv 1 S23 18 (pt r 0) ?_ (he := fun _ H' => (zl1 (H'.cell 3 rfl rfl)))
 refine zkp 2 S23 19 (vi q) <| zkv 3 S23 20 (.agg ⟨A7⟩) ?_ (he := fun _ H' => (zlN (vs := A7) (H'.at 6 rfl)))
 refine zky 4 ?_
 refine zdc 21 (Z3E w21 (⟨q, x.cl, x.seq, x.h, t, 0, 0⟩ : Z9) ⟨hr, hx.1, hx.2.1, ht.1, ht.2⟩) ?_
 rintro _ w25 ⟨u26, rfl, k27, p28, q29⟩
 have H30 : Sat w [A2, A6, A5, A8, A0, A1, A3, A4, Z0 b14 149 A7, Zh 5 1 u26 ((Zx (⟨q, x.cl, x.seq, x.h, t, 0, 0⟩ : Z9)).length) ((Zx (⟨q, x.cl, x.seq, x.h, t, 0, 0⟩ : Z9)).flatMap Zr)] w25 := H22.addU p28 k27 q29
 obtain ⟨a31, c32, rfl⟩ := Z1 (H30.at 9 rfl)
 refine ⟨_, rfl, ?_⟩
 have S33 := H30.pk [0, 1, 4, 5, 6, 7, 8]
 refine ke S33 <| zky 5 ?_
 refine zdc 22 (Z2O w25 r a c L (.slice a31 ((Zx (⟨q, x.cl, x.seq, x.h, t, 0, 0⟩ : Z9)).length) c32) (Zx (⟨q, x.cl, x.seq, x.h, t, 0, 0⟩ : Z9)) (H30.fn [2, 3, 9]) om hn q) ?_
 rintro _ w35 ⟨a37, c38, rfl, T36⟩
 have H39 := H30.tl [Z0 r 165 (Z2v a37 ((Zw L (⟨q, (Zx (⟨q, x.cl, x.seq, x.h, t, 0, 0⟩ : Z9))⟩ : Signed)).length) c38), (Z2d a37 (Zw L (⟨q, (Zx (⟨q, x.cl, x.seq, x.h, t, 0, 0⟩ : Z9))⟩ : Signed)) c38), (Z2s a31 (Zx (⟨q, x.cl, x.seq, x.h, t, 0, 0⟩ : Z9)) c32)] [2, 3, 9] [0, 1, 4, 5, 6, 7, 8] T36 [3, 4, 0, 1, 5, 6, 7, 8, 9, 2]
 refine ⟨_, rfl, ?_⟩
 have S40 := H39.pk [0, 1, 4, 5, 6, 7, 8]
 refine ke S40 <| zkp 6 S40 23 (pt b14 36) <| Z3s 7 (Sat w [A2, A6, A0, A1, A3, A4]) rfl kr (Z8 rfl) rfl (fun Kq kq => ?_)
 refine zds (Z40 q (Zo (Zw L (⟨q, (Zx (⟨q, x.cl, x.seq, x.h, t, 0, 0⟩ : Z9))⟩ : Signed)) (⟨q, (Zx (⟨q, x.cl, x.seq, x.h, t, 0, 0⟩ : Z9))⟩ : Signed))) (Z2Q q x t (Zo (Zw L (⟨q, (Zx (⟨q, x.cl, x.seq, x.h, t, 0, 0⟩ : Z9))⟩ : Signed)) (⟨q, (Zx (⟨q, x.cl, x.seq, x.h, t, 0, 0⟩ : Z9))⟩ : Signed))) H39 8 ?_
 intro w42 (H43 : Sat w [A2, A6, Z0 r 165 (Z2v a37 ((Zw L (⟨q, (Zx (⟨q, x.cl, x.seq, x.h, t, 0, 0⟩ : Z9))⟩ : Signed)).length) c38), (Z2d a37 (Zw L (⟨q, (Zx (⟨q, x.cl, x.seq, x.h, t, 0, 0⟩ : Z9))⟩ : Signed)) c38), A0, A1, A3, A4, Z0 b14 149 (Z2Q q x t (Zo (Zw L (⟨q, (Zx (⟨q, x.cl, x.seq, x.h, t, 0, 0⟩ : Z9))⟩ : Signed)) (⟨q, (Zx (⟨q, x.cl, x.seq, x.h, t, 0, 0⟩ : Z9))⟩ : Signed))), (Z2s a31 (Zx (⟨q, x.cl, x.seq, x.h, t, 0, 0⟩ : Z9)) c32)] w42)
 have S45 := H43.pk [0, 1, 4, 5, 6, 7]
 refine kq _ _ S45 <| zhf <| ztn <| Z7 <| Z7 <| ZX H43 [Z0 r 165 (Z2v a37 ((Zw L (⟨q, (Zx (⟨q, x.cl, x.seq, x.h, t, 0, 0⟩ : Z9))⟩ : Signed)).length) c38), (Z2d a37 (Zw L (⟨q, (Zx (⟨q, x.cl, x.seq, x.h, t, 0, 0⟩ : Z9))⟩ : Signed)) c38), A0, A1, A3, A4, Z0 b14 149 (Z2Q q x t (Zo (Zw L (⟨q, (Zx (⟨q, x.cl, x.seq, x.h, t, 0, 0⟩ : Z9))⟩ : Signed)) (⟨q, (Zx (⟨q, x.cl, x.seq, x.h, t, 0, 0⟩ : Z9))⟩ : Signed))), (Z2s a31 (Zx (⟨q, x.cl, x.seq, x.h, t, 0, 0⟩ : Z9)) c32)] 9 rfl kr (fun Hx => (Hx.pk [2, 3, 4, 5, 6, 7, 8, 9])) fun w46 H47 S48 => ?_
 refine hv0 0 S48 24 (pt b14 36) <| hv0 1 S48 25 (.agg ⟨(Z40 q (Zo (Zw L (⟨q, (Zx (⟨q, x.cl, x.seq, x.h, t, 0, 0⟩ : Z9))⟩ : Signed)) (⟨q, (Zx (⟨q, x.cl, x.seq, x.h, t, 0, 0⟩ : Z9))⟩ : Signed)))⟩) ?_ (he := fun _ H' => (Z37 (vs := (Z40 q (Zo (Zw L (⟨q, (Zx (⟨q, x.cl, x.seq, x.h, t, 0, 0⟩ : Z9))⟩ : Signed)) (⟨q, (Zx (⟨q, x.cl, x.seq, x.h, t, 0, 0⟩ : Z9))⟩ : Signed)))) rfl kr kr kn (H'.at 6 rfl) kr))
 refine hv0 2 S48 26 (pt b2 0) <| hv0 3 S48 27 (pt b 0) ?_ (he := fun _ H' => (zl1 (H'.cell 3 rfl rfl)))
 refine hv0 4 S48 28 (vi q) <| hv0 5 S48 29 (.agg ⟨(Z2Q q x t (Zo (Zw L (⟨q, (Zx (⟨q, x.cl, x.seq, x.h, t, 0, 0⟩ : Z9))⟩ : Signed)) (⟨q, (Zx (⟨q, x.cl, x.seq, x.h, t, 0, 0⟩ : Z9))⟩ : Signed)))⟩) ?_ (he := fun _ H' => (Z37 (vs := (Z2Q q x t (Zo (Zw L (⟨q, (Zx (⟨q, x.cl, x.seq, x.h, t, 0, 0⟩ : Z9))⟩ : Signed)) (⟨q, (Zx (⟨q, x.cl, x.seq, x.h, t, 0, 0⟩ : Z9))⟩ : Signed)))) rfl kr kr kn (H'.at 6 rfl) kr))
 refine zhy 6 ?_
 refine zdc 30 (Z3E w46 (⟨q, x.cl, x.seq, x.h, t, q, Zo (Zw L (⟨q, (Zx (⟨q, x.cl, x.seq, x.h, t, 0, 0⟩ : Z9))⟩ : Signed)) (⟨q, (Zx (⟨q, x.cl, x.seq, x.h, t, 0, 0⟩ : Z9))⟩ : Signed)⟩ : Z9) ⟨hr, hx.1, hx.2.1, ht.1, ht.2⟩) ?_
 rintro _ w50 ⟨u51, rfl, k52, p53, q54⟩
 have H55 := H47.addU p53 k52 q54
 obtain ⟨a56, c57, rfl⟩ := Z1 (H55.at 10 rfl)
 refine ⟨_, rfl, ?_⟩
 have S58 := H55.pk [2, 3, 4, 5, 6, 7, 8, 9]
 refine kh S58 <| zhy 7 ?_
 refine zdc 31 (Z4p w50 b mb L (.slice a56 ((Zx (⟨q, x.cl, x.seq, x.h, t, q, Zo (Zw L (⟨q, (Zx (⟨q, x.cl, x.seq, x.h, t, 0, 0⟩ : Z9))⟩ : Signed)) (⟨q, (Zx (⟨q, x.cl, x.seq, x.h, t, 0, 0⟩ : Z9))⟩ : Signed)⟩ : Z9)).length) c57) (Zx (⟨q, x.cl, x.seq, x.h, t, q, Zo (Zw L (⟨q, (Zx (⟨q, x.cl, x.seq, x.h, t, 0, 0⟩ : Z9))⟩ : Signed)) (⟨q, (Zx (⟨q, x.cl, x.seq, x.h, t, 0, 0⟩ : Z9))⟩ : Signed)⟩ : Z9)) (H55.fn [0, 1, 10]) om q) ?_
 rintro _ w60 ⟨rfl, T61⟩
 have H62 : Sat w [A2, (Z5W mb (Zw L (⟨q, (Zx (⟨q, x.cl, x.seq, x.h, t, q, Zo (Zw L (⟨q, (Zx (⟨q, x.cl, x.seq, x.h, t, 0, 0⟩ : Z9))⟩ : Signed)) (⟨q, (Zx (⟨q, x.cl, x.seq, x.h, t, 0, 0⟩ : Z9))⟩ : Signed)⟩ : Z9))⟩ : Signed))), Z0 r 165 (Z2v a37 ((Zw L (⟨q, (Zx (⟨q, x.cl, x.seq, x.h, t, 0, 0⟩ : Z9))⟩ : Signed)).length) c38), (Z2d a37 (Zw L (⟨q, (Zx (⟨q, x.cl, x.seq, x.h, t, 0, 0⟩ : Z9))⟩ : Signed)) c38), A0, A1, A3, A4, Z0 b14 149 (Z2Q q x t (Zo (Zw L (⟨q, (Zx (⟨q, x.cl, x.seq, x.h, t, 0, 0⟩ : Z9))⟩ : Signed)) (⟨q, (Zx (⟨q, x.cl, x.seq, x.h, t, 0, 0⟩ : Z9))⟩ : Signed))), (Z2s a31 (Zx (⟨q, x.cl, x.seq, x.h, t, 0, 0⟩ : Z9)) c32), (Z2s a56 (Zx (⟨q, x.cl, x.seq, x.h, t, q, Zo (Zw L (⟨q, (Zx (⟨q, x.cl, x.seq, x.h, t, 0, 0⟩ : Z9))⟩ : Signed)) (⟨q, (Zx (⟨q, x.cl, x.seq, x.h, t, 0, 0⟩ : Z9))⟩ : Signed)⟩ : Z9)) c57)] w60 := (Sat.turnL (L' := [A2, (Z5W mb (Zw L (⟨q, (Zx (⟨q, x.cl, x.seq, x.h, t, q, Zo (Zw L (⟨q, (Zx (⟨q, x.cl, x.seq, x.h, t, 0, 0⟩ : Z9))⟩ : Signed)) (⟨q, (Zx (⟨q, x.cl, x.seq, x.h, t, 0, 0⟩ : Z9))⟩ : Signed)⟩ : Z9))⟩ : Signed))), (Z2s a56 (Zx (⟨q, x.cl, x.seq, x.h, t, q, Zo (Zw L (⟨q, (Zx (⟨q, x.cl, x.seq, x.h, t, 0, 0⟩ : Z9))⟩ : Signed)) (⟨q, (Zx (⟨q, x.cl, x.seq, x.h, t, 0, 0⟩ : Z9))⟩ : Signed)⟩ : Z9)) c57)]) (R := [Z0 r 165 (Z2v a37 ((Zw L (⟨q, (Zx (⟨q, x.cl, x.seq, x.h, t, 0, 0⟩ : Z9))⟩ : Signed)).length) c38), (Z2d a37 (Zw L (⟨q, (Zx (⟨q, x.cl, x.seq, x.h, t, 0, 0⟩ : Z9))⟩ : Signed)) c38), A0, A1, A3, A4, Z0 b14 149 (Z2Q q x t (Zo (Zw L (⟨q, (Zx (⟨q, x.cl, x.seq, x.h, t, 0, 0⟩ : Z9))⟩ : Signed)) (⟨q, (Zx (⟨q, x.cl, x.seq, x.h, t, 0, 0⟩ : Z9))⟩ : Signed))), (Z2s a31 (Zx (⟨q, x.cl, x.seq, x.h, t, 0, 0⟩ : Z9)) c32)]) H55 [0, 1, 10] [2, 3, 4, 5, 6, 7, 8, 9] (by decide) kr rfl T61).pk [0, 1, 3, 4, 5, 6, 7, 8, 9, 10, 2]
 refine ⟨_, rfl, ?_⟩
 have S63 := H62.pk [2, 3, 4, 5, 6, 7, 8, 9]
 refine kh S63 <| hv0 8 S63 32 (.bool (!(decide (q = q ∧ (Zo (Zw L (⟨q, (Zx (⟨q, x.cl, x.seq, x.h, t, 0, 0⟩ : Z9))⟩ : Signed)) (⟨q, (Zx (⟨q, x.cl, x.seq, x.h, t, 0, 0⟩ : Z9))⟩ : Signed)) = (Zo (Zw L (⟨q, (Zx (⟨q, x.cl, x.seq, x.h, t, q, Zo (Zw L (⟨q, (Zx (⟨q, x.cl, x.seq, x.h, t, 0, 0⟩ : Z9))⟩ : Signed)) (⟨q, (Zx (⟨q, x.cl, x.seq, x.h, t, 0, 0⟩ : Z9))⟩ : Signed)⟩ : Z9))⟩ : Signed)) (⟨q, (Zx (⟨q, x.cl, x.seq, x.h, t, q, Zo (Zw L (⟨q, (Zx (⟨q, x.cl, x.seq, x.h, t, 0, 0⟩ : Z9))⟩ : Signed)) (⟨q, (Zx (⟨q, x.cl, x.seq, x.h, t, 0, 0⟩ : Z9))⟩ : Signed)⟩ : Z9))⟩ : Signed)))))) ?_ (he := fun _ H' => (Zez q (Zo (Zw L (⟨q, (Zx (⟨q, x.cl, x.seq, x.h, t, 0, 0⟩ : Z9))⟩ : Signed)) (⟨q, (Zx (⟨q, x.cl, x.seq, x.h, t, 0, 0⟩ : Z9))⟩ : Signed)) q (Zo (Zw L (⟨q, (Zx (⟨q, x.cl, x.seq, x.h, t, q, Zo (Zw L (⟨q, (Zx (⟨q, x.cl, x.seq, x.h, t, 0, 0⟩ : Z9))⟩ : Signed)) (⟨q, (Zx (⟨q, x.cl, x.seq, x.h, t, 0, 0⟩ : Z9))⟩ : Signed)⟩ : Z9))⟩ : Signed)) (⟨q, (Zx (⟨q, x.cl, x.seq, x.h, t, q, Zo (Zw L (⟨q, (Zx (⟨q, x.cl, x.seq, x.h, t, 0, 0⟩ : Z9))⟩ : Signed)) (⟨q, (Zx (⟨q, x.cl, x.seq, x.h, t, 0, 0⟩ : Z9))⟩ : Signed)⟩ : Z9))⟩ : Signed)) rfl rfl))
 refine zhf <| ztn ?_
 have b64 : (!(decide (q = q ∧ (Zo (Zw L (⟨q, (Zx (⟨q, x.cl, x.seq, x.h, t, 0, 0⟩ : Z9))⟩ : Signed)) (⟨q, (Zx (⟨q, x.cl, x.seq, x.h, t, 0, 0⟩ : Z9))⟩ : Signed)) = (Zo (Zw L (⟨q, (Zx (⟨q, x.cl, x.seq, x.h, t, q, Zo (Zw L (⟨q, (Zx (⟨q, x.cl, x.seq, x.h, t, 0, 0⟩ : Z9))⟩ : Signed)) (⟨q, (Zx (⟨q, x.cl, x.seq, x.h, t, 0, 0⟩ : Z9))⟩ : Signed)⟩ : Z9))⟩ : Signed)) (⟨q, (Zx (⟨q, x.cl, x.seq, x.h, t, q, Zo (Zw L (⟨q, (Zx (⟨q, x.cl, x.seq, x.h, t, 0, 0⟩ : Z9))⟩ : Signed)) (⟨q, (Zx (⟨q, x.cl, x.seq, x.h, t, 0, 0⟩ : Z9))⟩ : Signed)⟩ : Z9))⟩ : Signed))))) = false := by rw [decide_eq_true ⟨rfl, rfl⟩]; rfl
 have g65 := Z3 b64
 refine Z46 _ b64 ?_
 refine Zm <| ztn <| zsl <| zwN 35 (Z2Q q x t (Zo (Zw L (⟨q, (Zx (⟨q, x.cl, x.seq, x.h, t, 0, 0⟩ : Z9))⟩ : Signed)) (⟨q, (Zx (⟨q, x.cl, x.seq, x.h, t, 0, 0⟩ : Z9))⟩ : Signed))) (H62.at 8 rfl) <| zy <| Z1p (Z2Q q x t (Zo (Zw L (⟨q, (Zx (⟨q, x.cl, x.seq, x.h, t, 0, 0⟩ : Z9))⟩ : Signed)) (⟨q, (Zx (⟨q, x.cl, x.seq, x.h, t, 0, 0⟩ : Z9))⟩ : Signed))) H62 7 fun w67 H68 => ?_
 refine kk <| znt <| Zk <| Z5k rfl (ZP (vs := (Z2Q q x t (Zo (Zw L (⟨q, (Zx (⟨q, x.cl, x.seq, x.h, t, 0, 0⟩ : Z9))⟩ : Signed)) (⟨q, (Zx (⟨q, x.cl, x.seq, x.h, t, 0, 0⟩ : Z9))⟩ : Signed)))) rfl kr kr kn (H68.at 7 rfl) kr) ?_
 exact ⟨a37, c38, rfl, H68.pk [0, 1, 2, 3, 4]⟩
end Go.Proofs.YtenihpghfdcpkaaGreat
