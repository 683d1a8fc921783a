/- WHAT IS PROVED: contracts and plain laws of Bk10. Conditions: stated with each. -/
import Derived.Test.YtenihpghfdcpkaaGreatPA05
import Derived.Test.YtenihpghfdcpkaaGreatPA08
import Derived.Test.YtenihpghfdcpkaaGreatPA10
import Derived.Test.YtenihpghfdcpkaaGreatPA13
import Derived.Test.YtenihpghfdcpkaaGreatPA14
import Derived.Test.YtenihpghfdcpkaaGreatPA16
import Derived.Test.YtenihpghfdcpkaaGreatPA31
set_option maxHeartbeats 4000000
set_option maxRecDepth 100000
namespace Go.Proofs.YtenihpghfdcpkaaGreat
open Go.RowKit
abbrev Z0u (p0 : Option Addr) (p1 : Nat) (p2 : Nat) : List Value := ([(.slice p0 p1 p2)] : List Value)
abbrev Z0s (p0 : Option Addr) (p1 : List Signed) (p2 : Nat) : Ck := Zc 181 2 (.slice p0 p1.length p2) p1.length (p1.flatMap Z4W)
abbrev Z0d (p0 : Int) (p1 : Int) : List Value := ([(.int .i64 p0), (.int .i64 p1)] : List Value)
abbrev Z0O : List Value := ([(.int .i64 (0)), (.int .i64 (0))] : List Value) ++ hc Zn ++ ([(.int .i64 (0)), (.int .i64 (0)), (.int .i64 (0))] : List Value)
abbrev Z20 (p0 : Int) (p1 : Int) (p2 : Hash) (p3 : Int) : List Value := ([(.int .i64 p0), (.int .i64 p1)] : List Value) ++ hc p2 ++ ([(.int .i64 p3), (.int .i64 (0)), (.int .i64 (0))] : List Value)
abbrev Z29 (p0 : Option Addr) (p1 : List UInt8) (p2 : Nat) : Ck := Zc 5 1 (.slice p0 p1.length p2) p1.length (p1.flatMap Zy)
abbrev Z2Y (p0 : Int) (p1 : Int) (p2 : Hash) (p3 : Int) (p4 : Int) (p5 : Int) : List Value := ([(.int .i64 p0), (.int .i64 p1)] : List Value) ++ hc p2 ++ ([(.int .i64 p3), (.int .i64 p4), (.int .i64 p5)] : List Value)
abbrev Z2f (p0 : Nat) : List Value := ([(.map (some p0))] : List Value)
abbrev Z2g (p0 : Nat) (p1 : List Signed) : Ck := Z0B p0 ZZ (Value.int .i64) (Z0a p1)
abbrev Z1C (p0 : Nat) (p1 : Nat) : List Value := ([(pt p0 0), (pt p1 0)] : List Value)
abbrev Z1n (p0 : Z9) : List Value := ([(.int .i64 p0.cl), (.int .i64 p0.seq)] : List Value) ++ hc p0.h ++ ([(.int .i64 p0.len), (.int .i64 p0.sb), (.int .i64 p0.sm)] : List Value)
abbrev Z5M (p0 : Z9) (p1 : Int) (p2 : Int) : List Value := ([(.int .i64 p0.cl), (.int .i64 p0.seq)] : List Value) ++ hc p0.h ++ ([(.int .i64 p0.len), (.int .i64 p1), (.int .i64 p2)] : List Value)
abbrev Z2r : List Value := ([(.int .i64 (0)), (.int .i64 (0)), (.int .i64 (0))] : List Value) ++ hc Zn ++ ([(.int .u64 (0)), (.int .i64 (0)), (.int .i64 (0))] : List Value)
abbrev Z4L (p0 : Int) (p1 : Z9) (p2 : Int) : List Value := ([(.int .i64 p0), (.int .i64 p1.cl), (.int .i64 p1.seq)] : List Value) ++ hc p1.h ++ ([(.int .u64 p2), (.int .i64 (0)), (.int .i64 (0))] : List Value)
abbrev Z2H (p0 : Int) (p1 : Z9) (p2 : Int) (p3 : Int) : List Value := ([(.int .i64 p0), (.int .i64 p1.cl), (.int .i64 p1.seq)] : List Value) ++ hc p1.h ++ ([(.int .u64 p2), (.int .i64 p0), (.int .i64 p3)] : List Value)
theorem ZdR {n : Nat} {f : Nat → Value} {w : World} {dst : Option Tmp} {ty : TypeId} {pos : String} {aft : Array Edge} {gd : Option (Nat × Bool)} {x y : Operand} {T : TypeId} (a b c d : Int) (hx : ev n f x = .agg ⟨[.int .i64 a, .int .i64 b]⟩) (hy : ev n f y = .agg ⟨[.int .i64 c, .int .i64 d]⟩) :
  (execOp (ev n f) ⟨dst, .binOp .neq 69 x y T, ty, pos, aft, gd⟩).run Tryz.prog w = .ok (.value (.bool (!decide (a = c ∧ b = d)))) w := by
 simp only [execOp, hx, hy]
 simp [go_sem]
 by_cases h1 : a = c <;> by_cases h2 : b = d <;> simp_all
def mkC0 (cl seq : Int) (x : Hash) (p : List UInt8) : Z9 := ⟨cl, seq, Z0l (ofT cl seq x p), p.length, 0, 0⟩
def yC (cl seq : Int) (x : Hash) (p : List UInt8) : Signed := ⟨1000 + cl, Zo (mkC0 cl seq x p)⟩
def mkC (L : List Signed) (cl seq : Int) (x : Hash) (p : List UInt8) : Z9 := ⟨cl, seq, Z0l (ofT cl seq x p), p.length, 1000 + cl, Ze (Zg L (yC cl seq x p)) (yC cl seq x p)⟩
def mkS0 (q : Int) (x : Z9) (t : Int) : Z4 := ⟨q, x.cl, x.seq, x.h, t, 0, 0⟩
def yS (q : Int) (x : Z9) (t : Int) : Signed := ⟨q, Zv (mkS0 q x t)⟩
def mkS (L : List Signed) (q : Int) (x : Z9) (t : Int) : Z4 := ⟨q, x.cl, x.seq, x.h, t, q, Ze (Zg L (yS q x t)) (yS q x t)⟩
def rb2 (r : Nat) (a : Option Addr) (c : Nat) (L : List Signed) : List Ck := [Z0 r 165 [.slice a (L).length c], Zc 181 2 (.slice a (L).length c) (L).length ((L).flatMap Z4W)]
def ZT (b mb r : Nat) (a : Option Addr) (c : Nat) (L : List Signed) : List Ck := [Z0 b 179 [.map (some mb)], Z0B mb ZZ (Value.int .i64) (Z0a L), Z0 r 165 [.slice a (L).length c], Zc 181 2 (.slice a (L).length c) (L).length ((L).flatMap Z4W)]
theorem Zec {b mb r : Nat} {a : Option Addr} {c : Nat} {L : List Signed} (k : Nat) (h : (ZR (rb2 r a c L)).fp k) : (ZR (ZT b mb r a c L)).fp k := by
 obtain ⟨A, hA, hk⟩ := h
 exact ⟨A, List.mem_cons_of_mem _ (List.mem_cons_of_mem _ hA), hk⟩
theorem ZbH (w : World) (r : Nat) (a : Option Addr) (c : Nat) (L : List Signed) (hB : (ZR (rb2 r a c L)).ok w) (cl seq : Int) (x : Hash) (pa : Option Addr) (pc : Nat) (p : List UInt8) (hp : ListAt Zy 1 w (.slice pa p.length pc) p) (hoff : 0 < p.length → ∀ ad, pa = some ad → ¬ (ZR (rb2 r a c L)).fp ad.block) (hlp : p.length ≤ 1000) (hcl : 0 ≤ cl ∧ cl ≤ 1000000) (hsq : seq ≤ 9223372036854775807) (hL : L.length ≤ 100000) (hn : L.Nodup) :
  Calls Tryz.prog 83 #[(.pointer (some ⟨r, 0, none⟩)), (.agg ⟨([(.int .i64 (cl)), (.int .i64 (seq))] : List Value)⟩), (.agg ⟨(hc x)⟩), (.slice pa p.length pc)] w fun e w' => ∃ a' c', e = .returned (.agg ⟨Zaa (mkC L cl seq x p)⟩) ∧ Sat w [Z0 r 165 [.slice a' (Zg L (yC cl seq x p)).length c'], Zc 181 2 (.slice a' (Zg L (yC cl seq x p)).length c') (Zg L (yC cl seq x p)).length ((Zg L (yC cl seq x p)).flatMap Z4W), Z3 w (ZR (rb2 r a c L)).fp] w' := by
 have hL0 : (1000 + cl) ≤ 9223372036854775807 := by omega
 have H := Sat.start (rb2 r a c L) hB
 refine Z8 Tryz.func83 rfl 27 rfl kn ?_
 refine zsl <| zy <| zdb (Z0d cl seq) H ?_
 intro b2 w3 (H4 : Sat w [Z0 r 165 (Z0u a L.length c), (Z0s a L c), Z3 w (ZR (rb2 r a c L)).fp, Z0 b2 59 (Z0d cl seq)] w3)
 refine kk <| zy <| zdb (hc x) H4 fun b6 w7 H8 => ?_
 refine kk <| zy <| zda (Z0O) H8 ?_
 intro b10 w11 (H12 : Sat w [Z0 r 165 (Z0u a L.length c), (Z0s a L c), Z3 w (ZR (rb2 r a c L)).fp, Z0 b2 59 (Z0d cl seq), Z0 b6 61 (hc x), Z0 b10 73 (Z0O)] w11)
 refine kk <| znt <| Z5 <| Z08 H12 [Z0 r 165 (Z0u a L.length c), (Z0s a L c), Z3 w (ZR (rb2 r a c L)).fp, Z0 b2 59 (Z0d cl seq), Z0 b6 61 (hc x), Z0 b10 73 (Z0O)] 10 rfl kr (fun Hx => (Hx.pk [0, 1, 2, 3, 4, 5])) fun w13 H14 S15 => ?_
 refine hv0 0 S15 10 (.agg ⟨(Z0d cl seq)⟩) ?_ (he := fun _ H' => (zlN (vs := (Z0d cl seq)) (H'.at 3 rfl)))
 refine hv0 1 S15 11 (.agg ⟨(Z0d cl seq)⟩) ?_ (he := fun _ H' => (zlN (vs := (Z0d cl seq)) (H'.at 3 rfl)))
 refine hv0 2 S15 12 (.agg ⟨(hc x)⟩) ?_ (he := fun _ H' => (zlN (vs := (hc x)) (H'.at 4 rfl)))
 refine hv0 3 S15 13 (.slice pa p.length pc) <| hv0 5 S15 15 (.slice pa p.length pc) <| Z3u 6 rfl kr kr kr (fun _ _ _ h => h) S15 (Zb rfl) (d := 16) (v := (vi p.length)) rfl (fun _ H' => kr) ?_
 refine Z6A 4 8 rfl rfl kr (Zb rfl) (Zb rfl) (fun Kq kq => ?_) (fun Kq kq => ?_)
 ·refine zdq 14 (Z9Z w13 cl seq x pa pc p (ListAt.nowD H14 2 rfl hp hoff) om om hlp) H14 ?_
  intro w17 H18
  have S20 := H18.pk [0, 1, 2, 3, 4, 5]
  refine kq _ _ S20 <| Z3u 7 rfl kr kr kr (fun _ _ _ h => h) S20 (Zb rfl) (d := 17) (v := (.agg ⟨(Z20 cl seq (Z0l (ofT cl seq x p)) ((p.length : Int)))⟩)) rfl (fun _ H' => kr) ?_
  refine zhy 8 ?_
  refine zda (Z0O) H18 ?_
  intro b22 w23 H24
  have S25 := H24.pk [0, 1, 2, 3, 4, 5]
  refine kh S25 <| zhy 9 ?_
  refine Z1z (Z20 cl seq (Z0l (ofT cl seq x p)) ((p.length : Int))) H24 6 ?_
  intro w27 (H28 : Sat w [Z0 r 165 (Z0u a L.length c), (Z0s a L c), Z3 w (ZR (rb2 r a c L)).fp, Z0 b2 59 (Z0d cl seq), Z0 b6 61 (hc x), Z0 b10 73 (Z0O), Z0 b22 73 (Z20 cl seq (Z0l (ofT cl seq x p)) ((p.length : Int)))] w27)
  have S30 := H28.pk [0, 1, 2, 3, 4, 5]
  refine kh S30 <| zhf <| ztn <| Z5 <| Z18 H28 [Z3 w (ZR (rb2 r a c L)).fp, Z0 b2 59 (Z0d cl seq), Z0 b6 61 (hc x), Z0 b10 73 (Z0O), Z0 b22 73 (Z20 cl seq (Z0l (ofT cl seq x p)) ((p.length : Int)))] [8] 9 rfl kr (fun Hx => (Hx.pk [2, 3, 4, 5, 6])) fun w31 H32 S33 => ?_
  refine zkp 0 S33 18 (pt r 0) <| zkp 1 S33 19 (pt b2 0) <| zkv 2 S33 20 (vi cl) ?_ (he := fun _ H' => (zl1 (H'.cell 1 rfl rfl)))
  refine zkp 3 S33 21 (vi (1000 + cl)) ?_ (he := fun _ => (Z0g (z := 1000 + cl) kr (IntWalk.i64_in _ om)))
  refine zkv 4 S33 22 (.agg ⟨(Z20 cl seq (Z0l (ofT cl seq x p)) ((p.length : Int)))⟩) ?_ (he := fun _ H' => (zlN (vs := (Z20 cl seq (Z0l (ofT cl seq x p)) ((p.length : Int)))) (H'.at 4 rfl)))
  refine zky 5 ?_
  refine zdc 23 (Z2u w31 (⟨cl, seq, (Z0l (ofT cl seq x p)), (p.length : Int), 0, 0⟩ : Z9) ⟨by show cl ≤ _; omega, hsq, by show (p.length : Int) ≤ _; omega⟩) ?_
  rintro _ w35 ⟨u36, rfl, k37, p38, q39⟩
  have H40 := H32.addU p38 k37 q39
  obtain ⟨a41, c42, rfl⟩ := Z2 (H40.at 7 rfl)
  refine ⟨_, rfl, ?_⟩
  have S43 := H40.pk [2, 3, 4, 5, 6]
  refine ke S43 <| zky 6 ?_
  refine zdc 24 (Z2F w35 r a c L (.slice a41 ((Zo (⟨cl, seq, (Z0l (ofT cl seq x p)), (p.length : Int), 0, 0⟩ : Z9)).length) c42) (Zo (⟨cl, seq, (Z0l (ofT cl seq x p)), (p.length : Int), 0, 0⟩ : Z9)) (H40.fn [0, 1, 7]) om hn (1000 + cl)) ?_
  rintro _ w45 ⟨a47, c48, rfl, T46⟩
  have H49 : Sat w [Z0 r 165 (Z0u a47 ((Zg L (⟨1000 + cl, (Zo (⟨cl, seq, (Z0l (ofT cl seq x p)), (p.length : Int), 0, 0⟩ : Z9))⟩ : Signed)).length) c48), (Z0s a47 (Zg L (⟨1000 + cl, (Zo (⟨cl, seq, (Z0l (ofT cl seq x p)), (p.length : Int), 0, 0⟩ : Z9))⟩ : Signed)) c48), Z3 w (ZR (rb2 r a c L)).fp, Z0 b2 59 (Z0d cl seq), Z0 b6 61 (hc x), Z0 b10 73 (Z0O), Z0 b22 73 (Z20 cl seq (Z0l (ofT cl seq x p)) ((p.length : Int))), (Z29 a41 (Zo (⟨cl, seq, (Z0l (ofT cl seq x p)), (p.length : Int), 0, 0⟩ : Z9)) c42)] w45 := (Sat.turnL (L' := [Z0 r 165 (Z0u a47 ((Zg L (⟨1000 + cl, (Zo (⟨cl, seq, (Z0l (ofT cl seq x p)), (p.length : Int), 0, 0⟩ : Z9))⟩ : Signed)).length) c48), (Z0s a47 (Zg L (⟨1000 + cl, (Zo (⟨cl, seq, (Z0l (ofT cl seq x p)), (p.length : Int), 0, 0⟩ : Z9))⟩ : Signed)) c48), (Z29 a41 (Zo (⟨cl, seq, (Z0l (ofT cl seq x p)), (p.length : Int), 0, 0⟩ : Z9)) c42)]) (R := [Z3 w (ZR (rb2 r a c L)).fp, Z0 b2 59 (Z0d cl seq), Z0 b6 61 (hc x), Z0 b10 73 (Z0O), Z0 b22 73 (Z20 cl seq (Z0l (ofT cl seq x p)) ((p.length : Int)))]) H40 [0, 1, 7] [2, 3, 4, 5, 6] (by decide) kr rfl T46).pk [0, 1, 3, 4, 5, 6, 7, 2]
  refine ⟨_, rfl, ?_⟩
  have S50 := H49.pk [2, 3, 4, 5, 6]
  refine ke S50 <| zkp 7 S50 25 (pt b22 35) <| Z3v 8 (Sat w [Z3 w (ZR (rb2 r a c L)).fp, Z0 b2 59 (Z0d cl seq), Z0 b6 61 (hc x), Z0 b10 73 (Z0O)]) rfl kr (Zb rfl) rfl (fun Kq kq => ?_)
  refine zds (Z0d (1000 + cl) (Ze (Zg L (⟨1000 + cl, (Zo (⟨cl, seq, (Z0l (ofT cl seq x p)), (p.length : Int), 0, 0⟩ : Z9))⟩ : Signed)) (⟨1000 + cl, (Zo (⟨cl, seq, (Z0l (ofT cl seq x p)), (p.length : Int), 0, 0⟩ : Z9))⟩ : Signed))) (Z2Y cl seq (Z0l (ofT cl seq x p)) ((p.length : Int)) (1000 + cl) (Ze (Zg L (⟨1000 + cl, (Zo (⟨cl, seq, (Z0l (ofT cl seq x p)), (p.length : Int), 0, 0⟩ : Z9))⟩ : Signed)) (⟨1000 + cl, (Zo (⟨cl, seq, (Z0l (ofT cl seq x p)), (p.length : Int), 0, 0⟩ : Z9))⟩ : Signed))) H49 6 ?_
  intro w52 H53
  have S55 := H53.pk [2, 3, 4, 5]
  refine kq _ _ S55 <| zhf <| ztn <| zsl <| zwN 26 (Z2Y cl seq (Z0l (ofT cl seq x p)) ((p.length : Int)) (1000 + cl) (Ze (Zg L (⟨1000 + cl, (Zo (⟨cl, seq, (Z0l (ofT cl seq x p)), (p.length : Int), 0, 0⟩ : Z9))⟩ : Signed)) (⟨1000 + cl, (Zo (⟨cl, seq, (Z0l (ofT cl seq x p)), (p.length : Int), 0, 0⟩ : Z9))⟩ : Signed))) (H53.at 6 rfl) <| zy <| Z1z (Z2Y cl seq (Z0l (ofT cl seq x p)) ((p.length : Int)) (1000 + cl) (Ze (Zg L (⟨1000 + cl, (Zo (⟨cl, seq, (Z0l (ofT cl seq x p)), (p.length : Int), 0, 0⟩ : Z9))⟩ : Signed)) (⟨1000 + cl, (Zo (⟨cl, seq, (Z0l (ofT cl seq x p)), (p.length : Int), 0, 0⟩ : Z9))⟩ : Signed))) H53 5 ?_
  intro w57 (H58 : Sat w [Z0 r 165 (Z0u a47 ((Zg L (⟨1000 + cl, (Zo (⟨cl, seq, (Z0l (ofT cl seq x p)), (p.length : Int), 0, 0⟩ : Z9))⟩ : Signed)).length) c48), (Z0s a47 (Zg L (⟨1000 + cl, (Zo (⟨cl, seq, (Z0l (ofT cl seq x p)), (p.length : Int), 0, 0⟩ : Z9))⟩ : Signed)) c48), Z3 w (ZR (rb2 r a c L)).fp, Z0 b2 59 (Z0d cl seq), Z0 b6 61 (hc x), Z0 b10 73 (Z2Y cl seq (Z0l (ofT cl seq x p)) ((p.length : Int)) (1000 + cl) (Ze (Zg L (⟨1000 + cl, (Zo (⟨cl, seq, (Z0l (ofT cl seq x p)), (p.length : Int), 0, 0⟩ : Z9))⟩ : Signed)) (⟨1000 + cl, (Zo (⟨cl, seq, (Z0l (ofT cl seq x p)), (p.length : Int), 0, 0⟩ : Z9))⟩ : Signed))), Z0 b22 73 (Z2Y cl seq (Z0l (ofT cl seq x p)) ((p.length : Int)) (1000 + cl) (Ze (Zg L (⟨1000 + cl, (Zo (⟨cl, seq, (Z0l (ofT cl seq x p)), (p.length : Int), 0, 0⟩ : Z9))⟩ : Signed)) (⟨1000 + cl, (Zo (⟨cl, seq, (Z0l (ofT cl seq x p)), (p.length : Int), 0, 0⟩ : Z9))⟩ : Signed))), (Z29 a41 (Zo (⟨cl, seq, (Z0l (ofT cl seq x p)), (p.length : Int), 0, 0⟩ : Z9)) c42)] w57)
  refine kk <| znt <| Zq <| Z66 rfl (ZL (vs := (Z2Y cl seq (Z0l (ofT cl seq x p)) ((p.length : Int)) (1000 + cl) (Ze (Zg L (⟨1000 + cl, (Zo (⟨cl, seq, (Z0l (ofT cl seq x p)), (p.length : Int), 0, 0⟩ : Z9))⟩ : Signed)) (⟨1000 + cl, (Zo (⟨cl, seq, (Z0l (ofT cl seq x p)), (p.length : Int), 0, 0⟩ : Z9))⟩ : Signed)))) rfl kr kr kn (H58.at 5 rfl) kr) ?_
  exact ⟨a47, c48, rfl, H58.pk [0, 1, 2]⟩
 refine zda (Z0O) H14 ?_
 intro b60 w61 H62
 have S63 := H62.pk [0, 1, 2, 3, 4, 5]
 refine kq _ _ S63 <| zhy 4 ?_
 refine zdq 14 (Z9Z w61 cl seq x pa pc p (ListAt.nowD H62 2 rfl hp hoff) om om hlp) H62 ?_
 intro w65 H66
 have S68 := H66.pk [0, 1, 2, 3, 4, 5]
 refine kh S68 <| Z3u 7 rfl kr kr kr (fun _ _ _ h => h) S68 (Zb rfl) (d := 17) (v := (.agg ⟨(Z20 cl seq (Z0l (ofT cl seq x p)) ((p.length : Int)))⟩)) rfl (fun _ H' => kr) ?_
 refine zhy 9 ?_
 refine Z1z (Z20 cl seq (Z0l (ofT cl seq x p)) ((p.length : Int))) H66 6 ?_
 intro w70 (H71 : Sat w [Z0 r 165 (Z0u a L.length c), (Z0s a L c), Z3 w (ZR (rb2 r a c L)).fp, Z0 b2 59 (Z0d cl seq), Z0 b6 61 (hc x), Z0 b10 73 (Z0O), Z0 b60 73 (Z20 cl seq (Z0l (ofT cl seq x p)) ((p.length : Int)))] w70)
 have S73 := H71.pk [0, 1, 2, 3, 4, 5]
 refine kh S73 <| zhf <| ztn <| Z5 <| Z18 H71 [Z3 w (ZR (rb2 r a c L)).fp, Z0 b2 59 (Z0d cl seq), Z0 b6 61 (hc x), Z0 b10 73 (Z0O), Z0 b60 73 (Z20 cl seq (Z0l (ofT cl seq x p)) ((p.length : Int)))] [8] 9 rfl kr (fun Hx => (Hx.pk [2, 3, 4, 5, 6])) fun w74 H75 S76 => ?_
 refine zkp 0 S76 18 (pt r 0) <| zkp 1 S76 19 (pt b2 0) <| zkv 2 S76 20 (vi cl) ?_ (he := fun _ H' => (zl1 (H'.cell 1 rfl rfl)))
 refine zkp 3 S76 21 (vi (1000 + cl)) ?_ (he := fun _ => (Z0g (z := 1000 + cl) kr (IntWalk.i64_in _ om)))
 refine zkv 4 S76 22 (.agg ⟨(Z20 cl seq (Z0l (ofT cl seq x p)) ((p.length : Int)))⟩) ?_ (he := fun _ H' => (zlN (vs := (Z20 cl seq (Z0l (ofT cl seq x p)) ((p.length : Int)))) (H'.at 4 rfl)))
 refine zky 5 ?_
 refine zdc 23 (Z2u w74 (⟨cl, seq, (Z0l (ofT cl seq x p)), (p.length : Int), 0, 0⟩ : Z9) ⟨by show cl ≤ _; omega, hsq, by show (p.length : Int) ≤ _; omega⟩) ?_
 rintro _ w78 ⟨u79, rfl, k80, p81, q82⟩
 have H83 := H75.addU p81 k80 q82
 obtain ⟨a84, c85, rfl⟩ := Z2 (H83.at 7 rfl)
 refine ⟨_, rfl, ?_⟩
 have S86 := H83.pk [2, 3, 4, 5, 6]
 refine ke S86 <| zky 6 ?_
 refine zdc 24 (Z2F w78 r a c L (.slice a84 ((Zo (⟨cl, seq, (Z0l (ofT cl seq x p)), (p.length : Int), 0, 0⟩ : Z9)).length) c85) (Zo (⟨cl, seq, (Z0l (ofT cl seq x p)), (p.length : Int), 0, 0⟩ : Z9)) (H83.fn [0, 1, 7]) om hn (1000 + cl)) ?_
 rintro _ w88 ⟨a90, c91, rfl, T89⟩
 have H92 : Sat w [Z0 r 165 (Z0u a90 ((Zg L (⟨1000 + cl, (Zo (⟨cl, seq, (Z0l (ofT cl seq x p)), (p.length : Int), 0, 0⟩ : Z9))⟩ : Signed)).length) c91), (Z0s a90 (Zg L (⟨1000 + cl, (Zo (⟨cl, seq, (Z0l (ofT cl seq x p)), (p.length : Int), 0, 0⟩ : Z9))⟩ : Signed)) c91), Z3 w (ZR (rb2 r a c L)).fp, Z0 b2 59 (Z0d cl seq), Z0 b6 61 (hc x), Z0 b10 73 (Z0O), Z0 b60 73 (Z20 cl seq (Z0l (ofT cl seq x p)) ((p.length : Int))), (Z29 a84 (Zo (⟨cl, seq, (Z0l (ofT cl seq x p)), (p.length : Int), 0, 0⟩ : Z9)) c85)] w88 := (Sat.turnL (L' := [Z0 r 165 (Z0u a90 ((Zg L (⟨1000 + cl, (Zo (⟨cl, seq, (Z0l (ofT cl seq x p)), (p.length : Int), 0, 0⟩ : Z9))⟩ : Signed)).length) c91), (Z0s a90 (Zg L (⟨1000 + cl, (Zo (⟨cl, seq, (Z0l (ofT cl seq x p)), (p.length : Int), 0, 0⟩ : Z9))⟩ : Signed)) c91), (Z29 a84 (Zo (⟨cl, seq, (Z0l (ofT cl seq x p)), (p.length : Int), 0, 0⟩ : Z9)) c85)]) (R := [Z3 w (ZR (rb2 r a c L)).fp, Z0 b2 59 (Z0d cl seq), Z0 b6 61 (hc x), Z0 b10 73 (Z0O), Z0 b60 73 (Z20 cl seq (Z0l (ofT cl seq x p)) ((p.length : Int)))]) H83 [0, 1, 7] [2, 3, 4, 5, 6] (by decide) kr rfl T89).pk [0, 1, 3, 4, 5, 6, 7, 2]
 refine ⟨_, rfl, ?_⟩
 have S93 := H92.pk [2, 3, 4, 5, 6]
 refine ke S93 <| zkp 7 S93 25 (pt b60 35) <| Z3v 8 (Sat w [Z3 w (ZR (rb2 r a c L)).fp, Z0 b2 59 (Z0d cl seq), Z0 b6 61 (hc x), Z0 b10 73 (Z0O)]) rfl kr (Zb rfl) rfl (fun Kq kq => ?_)
 refine zds (Z0d (1000 + cl) (Ze (Zg L (⟨1000 + cl, (Zo (⟨cl, seq, (Z0l (ofT cl seq x p)), (p.length : Int), 0, 0⟩ : Z9))⟩ : Signed)) (⟨1000 + cl, (Zo (⟨cl, seq, (Z0l (ofT cl seq x p)), (p.length : Int), 0, 0⟩ : Z9))⟩ : Signed))) (Z2Y cl seq (Z0l (ofT cl seq x p)) ((p.length : Int)) (1000 + cl) (Ze (Zg L (⟨1000 + cl, (Zo (⟨cl, seq, (Z0l (ofT cl seq x p)), (p.length : Int), 0, 0⟩ : Z9))⟩ : Signed)) (⟨1000 + cl, (Zo (⟨cl, seq, (Z0l (ofT cl seq x p)), (p.length : Int), 0, 0⟩ : Z9))⟩ : Signed))) H92 6 ?_
 intro w95 H96
 have S98 := H96.pk [2, 3, 4, 5]
 refine kq _ _ S98 <| zhf <| ztn <| zsl <| zwN 26 (Z2Y cl seq (Z0l (ofT cl seq x p)) ((p.length : Int)) (1000 + cl) (Ze (Zg L (⟨1000 + cl, (Zo (⟨cl, seq, (Z0l (ofT cl seq x p)), (p.length : Int), 0, 0⟩ : Z9))⟩ : Signed)) (⟨1000 + cl, (Zo (⟨cl, seq, (Z0l (ofT cl seq x p)), (p.length : Int), 0, 0⟩ : Z9))⟩ : Signed))) (H96.at 6 rfl) <| zy <| Z1z (Z2Y cl seq (Z0l (ofT cl seq x p)) ((p.length : Int)) (1000 + cl) (Ze (Zg L (⟨1000 + cl, (Zo (⟨cl, seq, (Z0l (ofT cl seq x p)), (p.length : Int), 0, 0⟩ : Z9))⟩ : Signed)) (⟨1000 + cl, (Zo (⟨cl, seq, (Z0l (ofT cl seq x p)), (p.length : Int), 0, 0⟩ : Z9))⟩ : Signed))) H96 5 ?_
 intro w100 (H101 : Sat w [Z0 r 165 (Z0u a90 ((Zg L (⟨1000 + cl, (Zo (⟨cl, seq, (Z0l (ofT cl seq x p)), (p.length : Int), 0, 0⟩ : Z9))⟩ : Signed)).length) c91), (Z0s a90 (Zg L (⟨1000 + cl, (Zo (⟨cl, seq, (Z0l (ofT cl seq x p)), (p.length : Int), 0, 0⟩ : Z9))⟩ : Signed)) c91), Z3 w (ZR (rb2 r a c L)).fp, Z0 b2 59 (Z0d cl seq), Z0 b6 61 (hc x), Z0 b10 73 (Z2Y cl seq (Z0l (ofT cl seq x p)) ((p.length : Int)) (1000 + cl) (Ze (Zg L (⟨1000 + cl, (Zo (⟨cl, seq, (Z0l (ofT cl seq x p)), (p.length : Int), 0, 0⟩ : Z9))⟩ : Signed)) (⟨1000 + cl, (Zo (⟨cl, seq, (Z0l (ofT cl seq x p)), (p.length : Int), 0, 0⟩ : Z9))⟩ : Signed))), Z0 b60 73 (Z2Y cl seq (Z0l (ofT cl seq x p)) ((p.length : Int)) (1000 + cl) (Ze (Zg L (⟨1000 + cl, (Zo (⟨cl, seq, (Z0l (ofT cl seq x p)), (p.length : Int), 0, 0⟩ : Z9))⟩ : Signed)) (⟨1000 + cl, (Zo (⟨cl, seq, (Z0l (ofT cl seq x p)), (p.length : Int), 0, 0⟩ : Z9))⟩ : Signed))), (Z29 a84 (Zo (⟨cl, seq, (Z0l (ofT cl seq x p)), (p.length : Int), 0, 0⟩ : Z9)) c85)] w100)
 refine kk <| znt <| Zq <| Z66 rfl (ZL (vs := (Z2Y cl seq (Z0l (ofT cl seq x p)) ((p.length : Int)) (1000 + cl) (Ze (Zg L (⟨1000 + cl, (Zo (⟨cl, seq, (Z0l (ofT cl seq x p)), (p.length : Int), 0, 0⟩ : Z9))⟩ : Signed)) (⟨1000 + cl, (Zo (⟨cl, seq, (Z0l (ofT cl seq x p)), (p.length : Int), 0, 0⟩ : Z9))⟩ : Signed)))) rfl kr kr kn (H101.at 5 rfl) kr) ?_
 exact ⟨a90, c91, rfl, H101.pk [0, 1, 2]⟩
theorem Z4r (w : World) (b mb r : Nat) (a : Option Addr) (c : Nat) (L : List Signed) (hB : (ZR (ZT b mb r a c L)).ok w) (cl seq : Int) (pa : Option Addr) (pc : Nat) (p : List UInt8) (hp : ListAt Zy 1 w (.slice pa p.length pc) p) (hoff : 0 < p.length → ∀ ad, pa = some ad → ¬ (ZR (ZT b mb r a c L)).fp ad.block) (hlp : p.length ≤ 1000) (hcl : 0 ≤ cl ∧ cl ≤ 1000000) (hsq : seq ≤ 9223372036854775807) (hL : L.length ≤ 100000) (hn : L.Nodup) :
  Calls Tryz.prog 33 #[(.agg ⟨([(.pointer (some ⟨b, 0, none⟩)), (.pointer (some ⟨r, 0, none⟩))] : List Value)⟩), (.agg ⟨([(.int .i64 (cl)), (.int .i64 (seq))] : List Value)⟩), (.slice pa p.length pc)] w fun e w' => ∃ a' c', e = .returned (.agg ⟨Zaa (mkC L cl seq Zn p)⟩) ∧ Sat w [Z0 b 179 [.map (some mb)], Z0B mb ZZ (Value.int .i64) (Z0a (Zg L (yC cl seq Zn p))), Z0 r 165 [.slice a' (Zg L (yC cl seq Zn p)).length c'], Zc 181 2 (.slice a' (Zg L (yC cl seq Zn p)).length c') (Zg L (yC cl seq Zn p)).length ((Zg L (yC cl seq Zn p)).flatMap Z4W), Z3 w (ZR (ZT b mb r a c L)).fp] w' := by
 have hL0 : (1000 + cl) ≤ 9223372036854775807 := by omega
 have H := Sat.start (ZT b mb r a c L) hB
 refine Z8 Tryz.func33 rfl 24 rfl kn ?_
 refine zsl <| zy <| zdb (Z1C b r) H ?_
 intro b2 w3 (H4 : Sat w [Z0 b 179 (Z2f mb), (Z2g mb L), Z0 r 165 (Z0u a L.length c), (Z0s a L c), Z3 w (ZR (ZT b mb r a c L)).fp, Z0 b2 33 (Z1C b r)] w3)
 refine kk <| zy <| zdb (Z0d cl seq) H4 fun b6 w7 H8 => ?_
 refine kk <| zy <| zda (Z0O) H8 ?_
 intro b10 w11 (H12 : Sat w [Z0 b 179 (Z2f mb), (Z2g mb L), Z0 r 165 (Z0u a L.length c), (Z0s a L c), Z3 w (ZR (ZT b mb r a c L)).fp, Z0 b2 33 (Z1C b r), Z0 b6 59 (Z0d cl seq), Z0 b10 73 (Z0O)] w11)
 refine kk <| Z0y <| wv 8 (pt b2 1) <| zw1 9 (pt r 0) (H12.cell 5 rfl rfl) <| zwN 10 (Z0d cl seq) (H12.at 6 rfl) <| wv 11 (.agg ⟨(hc Zn)⟩) <| wv 12 (.slice pa p.length pc) <| zy <| zdc 13 (ZbH w11 r a c L (H12.fn [2, 3]) cl seq Zn pa pc p (ListAt.nowD H12 4 rfl hp hoff) (fun h0 ad ha hf => hoff h0 ad ha (Zec ad.block hf)) hlp om hsq hL hn) ?_
 rintro _ w14 ⟨a16, c17, rfl, T15⟩
 have H18 := H12.tl [Z0 r 165 (Z0u a16 ((Zg L (yC cl seq Zn p)).length) c17), (Z0s a16 (Zg L (yC cl seq Zn p)) c17)] [2, 3] [0, 1, 4, 5, 6, 7] T15 [2, 3, 0, 1, 4, 5, 6, 7]
 refine ⟨_, rfl, ?_⟩
 refine kk <| zy <| zda (Z0O) H18 ?_
 intro b20 w21 (H22 : Sat w [Z0 b 179 (Z2f mb), (Z2g mb L), Z0 r 165 (Z0u a16 ((Zg L (yC cl seq Zn p)).length) c17), (Z0s a16 (Zg L (yC cl seq Zn p)) c17), Z3 w (ZR (ZT b mb r a c L)).fp, Z0 b2 33 (Z1C b r), Z0 b6 59 (Z0d cl seq), Z0 b10 73 (Z0O), Z0 b20 73 (Z0O)] w21)
 refine kk <| zy <| Z1z (Z1n (mkC L cl seq Zn p)) H22 8 fun w24 H25 => ?_
 refine kk <| znt <| Z5 <| Z18 H25 [Z0 r 165 (Z0u a16 ((Zg L (yC cl seq Zn p)).length) c17), (Z0s a16 (Zg L (yC cl seq Zn p)) c17), Z3 w (ZR (ZT b mb r a c L)).fp, Z0 b2 33 (Z1C b r), Z0 b6 59 (Z0d cl seq), Z0 b10 73 (Z0O), Z0 b20 73 (Z1n (mkC L cl seq Zn p))] [9] 10 rfl kr (fun Hx => (Hx.pk [2, 3, 4, 5, 6, 7, 8])) fun w27 H28 S29 => ?_
 refine zkp 0 S29 14 (pt b2 0) <| zkv 1 S29 15 (pt b 0) ?_ (he := fun _ H' => (zl1 (H'.cell 3 rfl rfl)))
 refine zkp 2 S29 16 (pt b6 0) <| zkv 3 S29 17 (vi cl) ?_ (he := fun _ H' => (zl1 (H'.cell 4 rfl rfl)))
 refine zkp 4 S29 18 (vi (1000 + cl)) ?_ (he := fun _ => (Z0g (z := 1000 + cl) kr (IntWalk.i64_in _ om)))
 refine zkv 5 S29 19 (.agg ⟨(Z1n (mkC L cl seq Zn p))⟩) ?_ (he := fun _ H' => (zlN (vs := (Z1n (mkC L cl seq Zn p))) (H'.at 6 rfl)))
 refine zky 6 ?_
 refine zdc 20 (Z2u w27 (mkC L cl seq Zn p) ⟨by show cl ≤ _; omega, hsq, by show (p.length : Int) ≤ _; omega⟩) ?_
 rintro _ w31 ⟨u32, rfl, k33, p34, q35⟩
 have H36 : Sat w [Z0 b 179 (Z2f mb), (Z2g mb L), Z0 r 165 (Z0u a16 ((Zg L (yC cl seq Zn p)).length) c17), (Z0s a16 (Zg L (yC cl seq Zn p)) c17), Z3 w (ZR (ZT b mb r a c L)).fp, Z0 b2 33 (Z1C b r), Z0 b6 59 (Z0d cl seq), Z0 b10 73 (Z0O), Z0 b20 73 (Z1n (mkC L cl seq Zn p)), Zc 5 1 u32 ((Zo (mkC L cl seq Zn p)).length) ((Zo (mkC L cl seq Zn p)).flatMap Zy)] w31 := H28.addU p34 k33 q35
 obtain ⟨a37, c38, rfl⟩ := Z2 (H36.at 9 rfl)
 refine ⟨_, rfl, ?_⟩
 have S39 := H36.pk [2, 3, 4, 5, 6, 7, 8]
 refine ke S39 <| zky 7 ?_
 refine zdc 21 (Z4z w31 b mb L (.slice a37 ((Zo (mkC L cl seq Zn p)).length) c38) (Zo (mkC L cl seq Zn p)) (H36.fn [0, 1, 9]) om (1000 + cl)) ?_
 rintro _ w41 ⟨rfl, T42⟩
 have H43 := H36.tl [Z0 b 179 (Z2f mb), (Z2g mb (Zg L (⟨1000 + cl, (Zo (mkC L cl seq Zn p))⟩ : Signed))), (Z29 a37 (Zo (mkC L cl seq Zn p)) c38)] [0, 1, 9] [2, 3, 4, 5, 6, 7, 8] T42 [0, 1, 3, 4, 5, 6, 7, 8, 9, 2]
 refine ⟨_, rfl, ?_⟩
 have S44 := H43.pk [2, 3, 4, 5, 6, 7, 8]
 refine ke S44 <| zkp 8 S44 22 (pt b20 35) <| Z3v 9 (Sat w [Z0 r 165 (Z0u a16 ((Zg L (yC cl seq Zn p)).length) c17), (Z0s a16 (Zg L (yC cl seq Zn p)) c17), Z3 w (ZR (ZT b mb r a c L)).fp, Z0 b2 33 (Z1C b r), Z0 b6 59 (Z0d cl seq), Z0 b10 73 (Z0O)]) rfl kr (Zb rfl) rfl (fun Kq kq => ?_)
 refine zds (Z0d (1000 + cl) (Ze (Zg L (⟨1000 + cl, (Zo (mkC L cl seq Zn p))⟩ : Signed)) (⟨1000 + cl, (Zo (mkC L cl seq Zn p))⟩ : Signed))) (Z5M (mkC L cl seq Zn p) (1000 + cl) (Ze (Zg L (⟨1000 + cl, (Zo (mkC L cl seq Zn p))⟩ : Signed)) (⟨1000 + cl, (Zo (mkC L cl seq Zn p))⟩ : Signed))) H43 8 ?_
 intro w46 (H47 : Sat w [Z0 b 179 (Z2f mb), (Z2g mb (Zg L (⟨1000 + cl, (Zo (mkC L cl seq Zn p))⟩ : Signed))), Z0 r 165 (Z0u a16 ((Zg L (yC cl seq Zn p)).length) c17), (Z0s a16 (Zg L (yC cl seq Zn p)) c17), Z3 w (ZR (ZT b mb r a c L)).fp, Z0 b2 33 (Z1C b r), Z0 b6 59 (Z0d cl seq), Z0 b10 73 (Z0O), Z0 b20 73 (Z5M (mkC L cl seq Zn p) (1000 + cl) (Ze (Zg L (⟨1000 + cl, (Zo (mkC L cl seq Zn p))⟩ : Signed)) (⟨1000 + cl, (Zo (mkC L cl seq Zn p))⟩ : Signed))), (Z29 a37 (Zo (mkC L cl seq Zn p)) c38)] w46)
 have S49 := H47.pk [2, 3, 4, 5, 6, 7]
 refine kq _ _ S49 <| zhf <| ztn <| zsl <| zwN 23 (Z5M (mkC L cl seq Zn p) (1000 + cl) (Ze (Zg L (⟨1000 + cl, (Zo (mkC L cl seq Zn p))⟩ : Signed)) (⟨1000 + cl, (Zo (mkC L cl seq Zn p))⟩ : Signed))) (H47.at 8 rfl) <| zy <| Z1z (Z5M (mkC L cl seq Zn p) (1000 + cl) (Ze (Zg L (⟨1000 + cl, (Zo (mkC L cl seq Zn p))⟩ : Signed)) (⟨1000 + cl, (Zo (mkC L cl seq Zn p))⟩ : Signed))) H47 7 fun w51 H52 => ?_
 refine kk <| znt <| Zq <| Z66 rfl (ZL (vs := (Z5M (mkC L cl seq Zn p) (1000 + cl) (Ze (Zg L (⟨1000 + cl, (Zo (mkC L cl seq Zn p))⟩ : Signed)) (⟨1000 + cl, (Zo (mkC L cl seq Zn p))⟩ : Signed)))) rfl kr kr kn (H52.at 7 rfl) kr) ?_
 exact ⟨a16, c17, rfl, H52.pk [0, 1, 2, 3, 4]⟩
theorem Z6x (w : World) (b mb r : Nat) (a : Option Addr) (c : Nat) (L : List Signed) (hB : (ZR (ZT b mb r a c L)).ok w) (q : Int) (x : Z9) (t : Int) (hr : q ≤ 9223372036854775807) (hx : ZeN x) (ht : 0 ≤ t ∧ t < 18446744073709551616) (hL : L.length ≤ 100000) (hn : L.Nodup) :
  Calls Tryz.prog 82 #[(.agg ⟨([(.pointer (some ⟨b, 0, none⟩)), (.pointer (some ⟨r, 0, none⟩))] : List Value)⟩), (.int .i64 (q)), (.agg ⟨(([(.int .i64 (x.cl)), (.int .i64 (x.seq))] : List Value) ++ hc x.h ++ ([(.int .i64 (x.len)), (.int .i64 (x.sb)), (.int .i64 (x.sm))] : List Value))⟩), (.int .u64 (t))] w fun e w' => ∃ a' c', e = .returned (.agg ⟨Z1U (mkS L q x t)⟩) ∧ Sat w [Z0 b 179 [.map (some mb)], Z0B mb ZZ (Value.int .i64) (Z0a (Zg L (yS q x t))), Z0 r 165 [.slice a' (Zg L (yS q x t)).length c'], Zc 181 2 (.slice a' (Zg L (yS q x t)).length c') (Zg L (yS q x t)).length ((Zg L (yS q x t)).flatMap Z4W), Z3 w (ZR (ZT b mb r a c L)).fp] w' := by
 have H : Sat w [Z0 b 179 (Z2f mb), (Z2g mb L), Z0 r 165 (Z0u a L.length c), (Z0s a L c), Z3 w (ZR (ZT b mb r a c L)).fp] w := Sat.start (ZT b mb r a c L) hB
 refine Z8 Tryz.func82 rfl 36 rfl kn ?_
 refine zsl <| zy <| zdb (Z1C b r) H fun b2 w3 H4 => ?_
 refine kk <| zy <| zdb (Z1n x) H4 ?_
 intro b6 w7 (H8 : Sat w [Z0 b 179 (Z2f mb), (Z2g mb L), Z0 r 165 (Z0u a L.length c), (Z0s a L c), Z3 w (ZR (ZT b mb r a c L)).fp, Z0 b2 33 (Z1C b r), Z0 b6 73 (Z1n x)] w7)
 refine kk <| zy <| zda (Z2r) H8 fun b10 w11 H12 => ?_
 refine kk <| Z0y <| wv 10 (vi q) <| wv 11 (pt b6 0) <| zwN 12 (Z0d x.cl x.seq) (H12.at 6 rfl) <| wv 13 (pt b6 2) <| zwN 14 (hc x.h) (H12.at 6 rfl) <| wv 15 (vu t) <| wv 16 (.agg ⟨(Z4L q x t)⟩) <| zy ?_
 refine zda (Z2r) H12 ?_
 intro b14 w15 (H16 : Sat w [Z0 b 179 (Z2f mb), (Z2g mb L), Z0 r 165 (Z0u a L.length c), (Z0s a L c), Z3 w (ZR (ZT b mb r a c L)).fp, Z0 b2 33 (Z1C b r), Z0 b6 73 (Z1n x), Z0 b10 149 (Z2r), Z0 b14 149 (Z2r)] w15)
 refine kk <| zy <| Z1z (Z4L q x t) H16 8 fun w18 H19 => ?_
 refine kk <| znt <| Z5 <| Z18 H19 [Z0 b 179 (Z2f mb), (Z2g mb L), Z3 w (ZR (ZT b mb r a c L)).fp, Z0 b2 33 (Z1C b r), Z0 b6 73 (Z1n x), Z0 b10 149 (Z2r), Z0 b14 149 (Z4L q x t)] [7] 8 rfl kr (fun Hx => (Hx.pk [0, 1, 4, 5, 6, 7, 8])) fun w21 H22 S23 => ?_
 refine zkp 0 S23 17 (pt b2 1) <| zkv 1 S23 18 (pt r 0) ?_ (he := fun _ H' => (zl1 (H'.cell 3 rfl rfl)))
 refine zkp 2 S23 19 (vi q) <| zkv 3 S23 20 (.agg ⟨(Z4L q x t)⟩) ?_ (he := fun _ H' => (zlN (vs := (Z4L q x t)) (H'.at 6 rfl)))
 refine zky 4 ?_
 refine zdc 21 (Z3L w21 (⟨q, x.cl, x.seq, x.h, t, 0, 0⟩ : Z4) ⟨hr, hx.1, hx.2.1, ht.1, ht.2⟩) ?_
 rintro _ w25 ⟨u26, rfl, k27, p28, q29⟩
 have H30 : Sat w [Z0 b 179 (Z2f mb), (Z2g mb L), Z0 r 165 (Z0u a L.length c), (Z0s a L c), Z3 w (ZR (ZT b mb r a c L)).fp, Z0 b2 33 (Z1C b r), Z0 b6 73 (Z1n x), Z0 b10 149 (Z2r), Z0 b14 149 (Z4L q x t), Zc 5 1 u26 ((Zv (⟨q, x.cl, x.seq, x.h, t, 0, 0⟩ : Z4)).length) ((Zv (⟨q, x.cl, x.seq, x.h, t, 0, 0⟩ : Z4)).flatMap Zy)] w25 := H22.addU p28 k27 q29
 obtain ⟨a31, c32, rfl⟩ := Z2 (H30.at 9 rfl)
 refine ⟨_, rfl, ?_⟩
 have S33 := H30.pk [0, 1, 4, 5, 6, 7, 8]
 refine ke S33 <| zky 5 ?_
 refine zdc 22 (Z2F w25 r a c L (.slice a31 ((Zv (⟨q, x.cl, x.seq, x.h, t, 0, 0⟩ : Z4)).length) c32) (Zv (⟨q, x.cl, x.seq, x.h, t, 0, 0⟩ : Z4)) (H30.fn [2, 3, 9]) om hn q) ?_
 rintro _ w35 ⟨a37, c38, rfl, T36⟩
 have H39 := H30.tl [Z0 r 165 (Z0u a37 ((Zg L (⟨q, (Zv (⟨q, x.cl, x.seq, x.h, t, 0, 0⟩ : Z4))⟩ : Signed)).length) c38), (Z0s a37 (Zg L (⟨q, (Zv (⟨q, x.cl, x.seq, x.h, t, 0, 0⟩ : Z4))⟩ : Signed)) c38), (Z29 a31 (Zv (⟨q, x.cl, x.seq, x.h, t, 0, 0⟩ : Z4)) c32)] [2, 3, 9] [0, 1, 4, 5, 6, 7, 8] T36 [3, 4, 0, 1, 5, 6, 7, 8, 9, 2]
 refine ⟨_, rfl, ?_⟩
 have S40 := H39.pk [0, 1, 4, 5, 6, 7, 8]
 refine ke S40 <| zkp 6 S40 23 (pt b14 36) <| Z3v 7 (Sat w [Z0 b 179 (Z2f mb), (Z2g mb L), Z3 w (ZR (ZT b mb r a c L)).fp, Z0 b2 33 (Z1C b r), Z0 b6 73 (Z1n x), Z0 b10 149 (Z2r)]) rfl kr (Zb rfl) rfl (fun Kq kq => ?_)
 refine zds (Z0d q (Ze (Zg L (⟨q, (Zv (⟨q, x.cl, x.seq, x.h, t, 0, 0⟩ : Z4))⟩ : Signed)) (⟨q, (Zv (⟨q, x.cl, x.seq, x.h, t, 0, 0⟩ : Z4))⟩ : Signed))) (Z2H q x t (Ze (Zg L (⟨q, (Zv (⟨q, x.cl, x.seq, x.h, t, 0, 0⟩ : Z4))⟩ : Signed)) (⟨q, (Zv (⟨q, x.cl, x.seq, x.h, t, 0, 0⟩ : Z4))⟩ : Signed))) H39 8 ?_
 intro w42 (H43 : Sat w [Z0 b 179 (Z2f mb), (Z2g mb L), Z0 r 165 (Z0u a37 ((Zg L (⟨q, (Zv (⟨q, x.cl, x.seq, x.h, t, 0, 0⟩ : Z4))⟩ : Signed)).length) c38), (Z0s a37 (Zg L (⟨q, (Zv (⟨q, x.cl, x.seq, x.h, t, 0, 0⟩ : Z4))⟩ : Signed)) c38), Z3 w (ZR (ZT b mb r a c L)).fp, Z0 b2 33 (Z1C b r), Z0 b6 73 (Z1n x), Z0 b10 149 (Z2r), Z0 b14 149 (Z2H q x t (Ze (Zg L (⟨q, (Zv (⟨q, x.cl, x.seq, x.h, t, 0, 0⟩ : Z4))⟩ : Signed)) (⟨q, (Zv (⟨q, x.cl, x.seq, x.h, t, 0, 0⟩ : Z4))⟩ : Signed))), (Z29 a31 (Zv (⟨q, x.cl, x.seq, x.h, t, 0, 0⟩ : Z4)) c32)] w42)
 have S45 := H43.pk [0, 1, 4, 5, 6, 7]
 refine kq _ _ S45 <| zhf <| ztn <| Z5 <| Z5 <| Z08 H43 [Z0 r 165 (Z0u a37 ((Zg L (⟨q, (Zv (⟨q, x.cl, x.seq, x.h, t, 0, 0⟩ : Z4))⟩ : Signed)).length) c38), (Z0s a37 (Zg L (⟨q, (Zv (⟨q, x.cl, x.seq, x.h, t, 0, 0⟩ : Z4))⟩ : Signed)) c38), Z3 w (ZR (ZT b mb r a c L)).fp, Z0 b2 33 (Z1C b r), Z0 b6 73 (Z1n x), Z0 b10 149 (Z2r), Z0 b14 149 (Z2H q x t (Ze (Zg L (⟨q, (Zv (⟨q, x.cl, x.seq, x.h, t, 0, 0⟩ : Z4))⟩ : Signed)) (⟨q, (Zv (⟨q, x.cl, x.seq, x.h, t, 0, 0⟩ : Z4))⟩ : Signed))), (Z29 a31 (Zv (⟨q, x.cl, x.seq, x.h, t, 0, 0⟩ : Z4)) c32)] 9 rfl kr (fun Hx => (Hx.pk [2, 3, 4, 5, 6, 7, 8, 9])) fun w46 H47 S48 => ?_
 refine hv0 0 S48 24 (pt b14 36) <| hv0 1 S48 25 (.agg ⟨(Z0d q (Ze (Zg L (⟨q, (Zv (⟨q, x.cl, x.seq, x.h, t, 0, 0⟩ : Z4))⟩ : Signed)) (⟨q, (Zv (⟨q, x.cl, x.seq, x.h, t, 0, 0⟩ : Z4))⟩ : Signed)))⟩) ?_ (he := fun _ H' => (Z42 (vs := (Z0d q (Ze (Zg L (⟨q, (Zv (⟨q, x.cl, x.seq, x.h, t, 0, 0⟩ : Z4))⟩ : Signed)) (⟨q, (Zv (⟨q, x.cl, x.seq, x.h, t, 0, 0⟩ : Z4))⟩ : Signed)))) rfl kr kr kn (H'.at 6 rfl) kr))
 refine hv0 2 S48 26 (pt b2 0) <| hv0 3 S48 27 (pt b 0) ?_ (he := fun _ H' => (zl1 (H'.cell 3 rfl rfl)))
 refine hv0 4 S48 28 (vi q) <| hv0 5 S48 29 (.agg ⟨(Z2H q x t (Ze (Zg L (⟨q, (Zv (⟨q, x.cl, x.seq, x.h, t, 0, 0⟩ : Z4))⟩ : Signed)) (⟨q, (Zv (⟨q, x.cl, x.seq, x.h, t, 0, 0⟩ : Z4))⟩ : Signed)))⟩) ?_ (he := fun _ H' => (Z42 (vs := (Z2H q x t (Ze (Zg L (⟨q, (Zv (⟨q, x.cl, x.seq, x.h, t, 0, 0⟩ : Z4))⟩ : Signed)) (⟨q, (Zv (⟨q, x.cl, x.seq, x.h, t, 0, 0⟩ : Z4))⟩ : Signed)))) rfl kr kr kn (H'.at 6 rfl) kr))
 refine zhy 6 ?_
 refine zdc 30 (Z3L w46 (⟨q, x.cl, x.seq, x.h, t, q, Ze (Zg L (⟨q, (Zv (⟨q, x.cl, x.seq, x.h, t, 0, 0⟩ : Z4))⟩ : Signed)) (⟨q, (Zv (⟨q, x.cl, x.seq, x.h, t, 0, 0⟩ : Z4))⟩ : Signed)⟩ : Z4) ⟨hr, hx.1, hx.2.1, ht.1, ht.2⟩) ?_
 rintro _ w50 ⟨u51, rfl, k52, p53, q54⟩
 have H55 := H47.addU p53 k52 q54
 obtain ⟨a56, c57, rfl⟩ := Z2 (H55.at 10 rfl)
 refine ⟨_, rfl, ?_⟩
 have S58 := H55.pk [2, 3, 4, 5, 6, 7, 8, 9]
 refine kh S58 <| zhy 7 ?_
 refine zdc 31 (Z4z w50 b mb L (.slice a56 ((Zv (⟨q, x.cl, x.seq, x.h, t, q, Ze (Zg L (⟨q, (Zv (⟨q, x.cl, x.seq, x.h, t, 0, 0⟩ : Z4))⟩ : Signed)) (⟨q, (Zv (⟨q, x.cl, x.seq, x.h, t, 0, 0⟩ : Z4))⟩ : Signed)⟩ : Z4)).length) c57) (Zv (⟨q, x.cl, x.seq, x.h, t, q, Ze (Zg L (⟨q, (Zv (⟨q, x.cl, x.seq, x.h, t, 0, 0⟩ : Z4))⟩ : Signed)) (⟨q, (Zv (⟨q, x.cl, x.seq, x.h, t, 0, 0⟩ : Z4))⟩ : Signed)⟩ : Z4)) (H55.fn [0, 1, 10]) om q) ?_
 rintro _ w60 ⟨rfl, T61⟩
 have H62 : Sat w [Z0 b 179 (Z2f mb), (Z2g mb (Zg L (⟨q, (Zv (⟨q, x.cl, x.seq, x.h, t, q, Ze (Zg L (⟨q, (Zv (⟨q, x.cl, x.seq, x.h, t, 0, 0⟩ : Z4))⟩ : Signed)) (⟨q, (Zv (⟨q, x.cl, x.seq, x.h, t, 0, 0⟩ : Z4))⟩ : Signed)⟩ : Z4))⟩ : Signed))), Z0 r 165 (Z0u a37 ((Zg L (⟨q, (Zv (⟨q, x.cl, x.seq, x.h, t, 0, 0⟩ : Z4))⟩ : Signed)).length) c38), (Z0s a37 (Zg L (⟨q, (Zv (⟨q, x.cl, x.seq, x.h, t, 0, 0⟩ : Z4))⟩ : Signed)) c38), Z3 w (ZR (ZT b mb r a c L)).fp, Z0 b2 33 (Z1C b r), Z0 b6 73 (Z1n x), Z0 b10 149 (Z2r), Z0 b14 149 (Z2H q x t (Ze (Zg L (⟨q, (Zv (⟨q, x.cl, x.seq, x.h, t, 0, 0⟩ : Z4))⟩ : Signed)) (⟨q, (Zv (⟨q, x.cl, x.seq, x.h, t, 0, 0⟩ : Z4))⟩ : Signed))), (Z29 a31 (Zv (⟨q, x.cl, x.seq, x.h, t, 0, 0⟩ : Z4)) c32), (Z29 a56 (Zv (⟨q, x.cl, x.seq, x.h, t, q, Ze (Zg L (⟨q, (Zv (⟨q, x.cl, x.seq, x.h, t, 0, 0⟩ : Z4))⟩ : Signed)) (⟨q, (Zv (⟨q, x.cl, x.seq, x.h, t, 0, 0⟩ : Z4))⟩ : Signed)⟩ : Z4)) c57)] w60 := (Sat.turnL (L' := [Z0 b 179 (Z2f mb), (Z2g mb (Zg L (⟨q, (Zv (⟨q, x.cl, x.seq, x.h, t, q, Ze (Zg L (⟨q, (Zv (⟨q, x.cl, x.seq, x.h, t, 0, 0⟩ : Z4))⟩ : Signed)) (⟨q, (Zv (⟨q, x.cl, x.seq, x.h, t, 0, 0⟩ : Z4))⟩ : Signed)⟩ : Z4))⟩ : Signed))), (Z29 a56 (Zv (⟨q, x.cl, x.seq, x.h, t, q, Ze (Zg L (⟨q, (Zv (⟨q, x.cl, x.seq, x.h, t, 0, 0⟩ : Z4))⟩ : Signed)) (⟨q, (Zv (⟨q, x.cl, x.seq, x.h, t, 0, 0⟩ : Z4))⟩ : Signed)⟩ : Z4)) c57)]) (R := [Z0 r 165 (Z0u a37 ((Zg L (⟨q, (Zv (⟨q, x.cl, x.seq, x.h, t, 0, 0⟩ : Z4))⟩ : Signed)).length) c38), (Z0s a37 (Zg L (⟨q, (Zv (⟨q, x.cl, x.seq, x.h, t, 0, 0⟩ : Z4))⟩ : Signed)) c38), Z3 w (ZR (ZT b mb r a c L)).fp, Z0 b2 33 (Z1C b r), Z0 b6 73 (Z1n x), Z0 b10 149 (Z2r), Z0 b14 149 (Z2H q x t (Ze (Zg L (⟨q, (Zv (⟨q, x.cl, x.seq, x.h, t, 0, 0⟩ : Z4))⟩ : Signed)) (⟨q, (Zv (⟨q, x.cl, x.seq, x.h, t, 0, 0⟩ : Z4))⟩ : Signed))), (Z29 a31 (Zv (⟨q, x.cl, x.seq, x.h, t, 0, 0⟩ : Z4)) c32)]) H55 [0, 1, 10] [2, 3, 4, 5, 6, 7, 8, 9] (by decide) kr rfl T61).pk [0, 1, 3, 4, 5, 6, 7, 8, 9, 10, 2]
 refine ⟨_, rfl, ?_⟩
 have S63 := H62.pk [2, 3, 4, 5, 6, 7, 8, 9]
 refine kh S63 <| hv0 8 S63 32 (.bool (!(decide (q = q ∧ (Ze (Zg L (⟨q, (Zv (⟨q, x.cl, x.seq, x.h, t, 0, 0⟩ : Z4))⟩ : Signed)) (⟨q, (Zv (⟨q, x.cl, x.seq, x.h, t, 0, 0⟩ : Z4))⟩ : Signed)) = (Ze (Zg L (⟨q, (Zv (⟨q, x.cl, x.seq, x.h, t, q, Ze (Zg L (⟨q, (Zv (⟨q, x.cl, x.seq, x.h, t, 0, 0⟩ : Z4))⟩ : Signed)) (⟨q, (Zv (⟨q, x.cl, x.seq, x.h, t, 0, 0⟩ : Z4))⟩ : Signed)⟩ : Z4))⟩ : Signed)) (⟨q, (Zv (⟨q, x.cl, x.seq, x.h, t, q, Ze (Zg L (⟨q, (Zv (⟨q, x.cl, x.seq, x.h, t, 0, 0⟩ : Z4))⟩ : Signed)) (⟨q, (Zv (⟨q, x.cl, x.seq, x.h, t, 0, 0⟩ : Z4))⟩ : Signed)⟩ : Z4))⟩ : Signed)))))) ?_ (he := fun _ H' => (ZdR q (Ze (Zg L (⟨q, (Zv (⟨q, x.cl, x.seq, x.h, t, 0, 0⟩ : Z4))⟩ : Signed)) (⟨q, (Zv (⟨q, x.cl, x.seq, x.h, t, 0, 0⟩ : Z4))⟩ : Signed)) q (Ze (Zg L (⟨q, (Zv (⟨q, x.cl, x.seq, x.h, t, q, Ze (Zg L (⟨q, (Zv (⟨q, x.cl, x.seq, x.h, t, 0, 0⟩ : Z4))⟩ : Signed)) (⟨q, (Zv (⟨q, x.cl, x.seq, x.h, t, 0, 0⟩ : Z4))⟩ : Signed)⟩ : Z4))⟩ : Signed)) (⟨q, (Zv (⟨q, x.cl, x.seq, x.h, t, q, Ze (Zg L (⟨q, (Zv (⟨q, x.cl, x.seq, x.h, t, 0, 0⟩ : Z4))⟩ : Signed)) (⟨q, (Zv (⟨q, x.cl, x.seq, x.h, t, 0, 0⟩ : Z4))⟩ : Signed)⟩ : Z4))⟩ : Signed)) rfl rfl))
 refine zhf <| ztn ?_
 have b64 : (!(decide (q = q ∧ (Ze (Zg L (⟨q, (Zv (⟨q, x.cl, x.seq, x.h, t, 0, 0⟩ : Z4))⟩ : Signed)) (⟨q, (Zv (⟨q, x.cl, x.seq, x.h, t, 0, 0⟩ : Z4))⟩ : Signed)) = (Ze (Zg L (⟨q, (Zv (⟨q, x.cl, x.seq, x.h, t, q, Ze (Zg L (⟨q, (Zv (⟨q, x.cl, x.seq, x.h, t, 0, 0⟩ : Z4))⟩ : Signed)) (⟨q, (Zv (⟨q, x.cl, x.seq, x.h, t, 0, 0⟩ : Z4))⟩ : Signed)⟩ : Z4))⟩ : Signed)) (⟨q, (Zv (⟨q, x.cl, x.seq, x.h, t, q, Ze (Zg L (⟨q, (Zv (⟨q, x.cl, x.seq, x.h, t, 0, 0⟩ : Z4))⟩ : Signed)) (⟨q, (Zv (⟨q, x.cl, x.seq, x.h, t, 0, 0⟩ : Z4))⟩ : Signed)⟩ : Z4))⟩ : Signed))))) = false := by rw [decide_eq_true ⟨rfl, rfl⟩]; rfl
 have g65 := Zr b64
 refine Z2X _ b64 ?_
 refine Zt <| ztn <| zsl <| zwN 35 (Z2H q x t (Ze (Zg L (⟨q, (Zv (⟨q, x.cl, x.seq, x.h, t, 0, 0⟩ : Z4))⟩ : Signed)) (⟨q, (Zv (⟨q, x.cl, x.seq, x.h, t, 0, 0⟩ : Z4))⟩ : Signed))) (H62.at 8 rfl) <| zy <| Z1z (Z2H q x t (Ze (Zg L (⟨q, (Zv (⟨q, x.cl, x.seq, x.h, t, 0, 0⟩ : Z4))⟩ : Signed)) (⟨q, (Zv (⟨q, x.cl, x.seq, x.h, t, 0, 0⟩ : Z4))⟩ : Signed))) H62 7 fun w67 H68 => ?_
 refine kk <| znt <| Zq <| Z66 rfl (ZL (vs := (Z2H q x t (Ze (Zg L (⟨q, (Zv (⟨q, x.cl, x.seq, x.h, t, 0, 0⟩ : Z4))⟩ : Signed)) (⟨q, (Zv (⟨q, x.cl, x.seq, x.h, t, 0, 0⟩ : Z4))⟩ : Signed)))) rfl kr kr kn (H68.at 7 rfl) kr) ?_
 exact ⟨a37, c38, rfl, H68.pk [0, 1, 2, 3, 4]⟩
end Go.Proofs.YtenihpghfdcpkaaGreat
