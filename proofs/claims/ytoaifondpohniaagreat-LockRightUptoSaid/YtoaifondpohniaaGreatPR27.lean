/- WHAT IS PROVED: contracts and plain laws of Bk10. Conditions: stated with each. -/
import Derived.Test.YtoaifondpohniaaGreatPR04
import Derived.Test.YtoaifondpohniaaGreatPR07
import Derived.Test.YtoaifondpohniaaGreatPR08
import Derived.Test.YtoaifondpohniaaGreatPR10
import Derived.Test.YtoaifondpohniaaGreatPR11
import Derived.Test.YtoaifondpohniaaGreatPR16
import Derived.Test.YtoaifondpohniaaGreatPR20
set_option maxHeartbeats 4000000
set_option maxRecDepth 100000
namespace Go.Proofs.YtoaifondpohniaaGreat
open Go.RowKit
abbrev Z0E (p0 : Option Addr) (p1 : Nat) (p2 : Nat) : List Value := ([(.slice p0 p1 p2)] : List Value)
abbrev Z0F (p0 : Option Addr) (p1 : List Signed) (p2 : Nat) : Ck := ZH 114 2 (.slice p0 p1.length p2) p1.length (p1.flatMap Z43)
abbrev Z0m (p0 : Int) (p1 : Int) : List Value := ([(.int .i64 p0), (.int .i64 p1)] : List Value)
abbrev Z0V : List Value := ([(.int .i64 (0)), (.int .i64 (0))] : List Value) ++ hc Z0d ++ ([(.int .i64 (0)), (.int .i64 (0)), (.int .i64 (0))] : List Value)
abbrev Z1I (p0 : Int) (p1 : Int) (p2 : Hash) (p3 : Int) : List Value := ([(.int .i64 p0), (.int .i64 p1)] : List Value) ++ hc p2 ++ ([(.int .i64 p3), (.int .i64 (0)), (.int .i64 (0))] : List Value)
abbrev Z1N (p0 : Option Addr) (p1 : List UInt8) (p2 : Nat) : Ck := ZH 5 1 (.slice p0 p1.length p2) p1.length (p1.flatMap ZN)
abbrev Z2h (p0 : Int) (p1 : Int) (p2 : Hash) (p3 : Int) (p4 : Int) (p5 : Int) : List Value := ([(.int .i64 p0), (.int .i64 p1)] : List Value) ++ hc p2 ++ ([(.int .i64 p3), (.int .i64 p4), (.int .i64 p5)] : List Value)
abbrev Z1O (p0 : Nat) : List Value := ([(.map (some p0))] : List Value)
abbrev Z1P (p0 : Nat) (p1 : List Signed) : Ck := Z3d p0 Z0e (Value.int .i64) (Z04 p1)
abbrev Z1s (p0 : Nat) (p1 : Nat) : List Value := ([(pt p0 0), (pt p1 0)] : List Value)
abbrev Z1p (p0 : Zg) : List Value := ([(.int .i64 p0.cl), (.int .i64 p0.seq)] : List Value) ++ hc p0.h ++ ([(.int .i64 p0.len), (.int .i64 p0.sb), (.int .i64 p0.sm)] : List Value)
abbrev Z4p (p0 : Zg) (p1 : Int) (p2 : Int) : List Value := ([(.int .i64 p0.cl), (.int .i64 p0.seq)] : List Value) ++ hc p0.h ++ ([(.int .i64 p0.len), (.int .i64 p1), (.int .i64 p2)] : List Value)
abbrev Z1U : List Value := ([(.int .i64 (0)), (.int .i64 (0)), (.int .i64 (0))] : List Value) ++ hc Z0d ++ ([(.int .u64 (0)), (.int .i64 (0)), (.int .i64 (0))] : List Value)
abbrev Z3E (p0 : Int) (p1 : Zg) (p2 : Int) : List Value := ([(.int .i64 p0), (.int .i64 p1.cl), (.int .i64 p1.seq)] : List Value) ++ hc p1.h ++ ([(.int .u64 p2), (.int .i64 (0)), (.int .i64 (0))] : List Value)
abbrev Z28 (p0 : Int) (p1 : Zg) (p2 : Int) (p3 : Int) : List Value := ([(.int .i64 p0), (.int .i64 p1.cl), (.int .i64 p1.seq)] : List Value) ++ hc p1.h ++ ([(.int .u64 p2), (.int .i64 p0), (.int .i64 p3)] : List Value)
theorem Zb5 {n : Nat} {f : Nat → Value} {w : World} {dst : Option Tmp} {ty : TypeId} {pos : String} {aft : Array Edge} {gd : Option (Nat × Bool)} {x y : Operand} {T : TypeId} (a b c d : Int) (hx : ev n f x = .agg ⟨[.int .i64 a, .int .i64 b]⟩) (hy : ev n f y = .agg ⟨[.int .i64 c, .int .i64 d]⟩) :
  (execOp (ev n f) ⟨dst, .binOp .neq 29 x y T, ty, pos, aft, gd⟩).run Tryz.prog w = .ok (.value (.bool (!decide (a = c ∧ b = d)))) w := by
 simp only [execOp, hx, hy]
 simp [go_sem]
 by_cases h1 : a = c <;> by_cases h2 : b = d <;> simp_all
def mkC0 (cl seq : Int) (x : Hash) (p : List UInt8) : Zg := ⟨cl, seq, Z1f (ofT cl seq x p), p.length, 0, 0⟩
def yC (cl seq : Int) (x : Hash) (p : List UInt8) : Signed := ⟨1000 + cl, Zv (mkC0 cl seq x p)⟩
def mkC (L : List Signed) (cl seq : Int) (x : Hash) (p : List UInt8) : Zg := ⟨cl, seq, Z1f (ofT cl seq x p), p.length, 1000 + cl, Zu (Zk L (yC cl seq x p)) (yC cl seq x p)⟩
def mkS0 (q : Int) (x : Zg) (t : Int) : Z5 := ⟨q, x.cl, x.seq, x.h, t, 0, 0⟩
def yS (q : Int) (x : Zg) (t : Int) : Signed := ⟨q, Zz (mkS0 q x t)⟩
def mkS (L : List Signed) (q : Int) (x : Zg) (t : Int) : Z5 := ⟨q, x.cl, x.seq, x.h, t, q, Zu (Zk L (yS q x t)) (yS q x t)⟩
def rb2 (r : Nat) (a : Option Addr) (c : Nat) (L : List Signed) : List Ck := [Z0 r 98 [.slice a (L).length c], ZH 114 2 (.slice a (L).length c) (L).length ((L).flatMap Z43)]
def Z1z (b mb r : Nat) (a : Option Addr) (c : Nat) (L : List Signed) : List Ck := [Z0 b 110 [.map (some mb)], Z3d mb Z0e (Value.int .i64) (Z04 L), Z0 r 98 [.slice a (L).length c], ZH 114 2 (.slice a (L).length c) (L).length ((L).flatMap Z43)]
theorem ZbC {b mb r : Nat} {a : Option Addr} {c : Nat} {L : List Signed} (k : Nat) (h : (Z0c (rb2 r a c L)).fp k) : (Z0c (Z1z b mb r a c L)).fp k := by
 obtain ⟨A, hA, hk⟩ := h
 exact ⟨A, List.mem_cons_of_mem _ (List.mem_cons_of_mem _ hA), hk⟩
theorem Z9r (w : World) (r : Nat) (a : Option Addr) (c : Nat) (L : List Signed) (hB : (Z0c (rb2 r a c L)).ok w) (cl seq : Int) (x : Hash) (pa : Option Addr) (pc : Nat) (p : List UInt8) (hp : ListAt ZN 1 w (.slice pa p.length pc) p) (hoff : 0 < p.length → ∀ ad, pa = some ad → ¬ (Z0c (rb2 r a c L)).fp ad.block) (hlp : p.length ≤ 1000) (hcl : 0 ≤ cl ∧ cl ≤ 1000000) (hsq : seq ≤ 9223372036854775807) (hL : L.length ≤ 100000) (hn : L.Nodup) :
  Calls Tryz.prog 39 #[(.pointer (some ⟨r, 0, none⟩)), (.agg ⟨([(.int .i64 (cl)), (.int .i64 (seq))] : List Value)⟩), (.agg ⟨(hc x)⟩), (.slice pa p.length pc)] w fun e w' => ∃ a' c', e = .returned (.agg ⟨Z61 (mkC L cl seq x p)⟩) ∧ Sat w [Z0 r 98 [.slice a' (Zk L (yC cl seq x p)).length c'], ZH 114 2 (.slice a' (Zk L (yC cl seq x p)).length c') (Zk L (yC cl seq x p)).length ((Zk L (yC cl seq x p)).flatMap Z43), Z6 w (Z0c (rb2 r a c L)).fp] w' := by
 have hL0 : (1000 + cl) ≤ 9223372036854775807 := by omega
 have H := Sat.start (rb2 r a c L) hB
 refine Zp Tryz.func39 rfl 27 rfl (Nat.le_of_ble_eq_true rfl) ?_
 apply zsl
 refine zwd fun Kq kq => ?_
 refine zdb (Z0m cl seq) H ?_
 intro b2 w3 (H4 : Sat w [Z0 r 98 (Z0E a L.length c), (Z0F a L c), Z6 w (Z0c (rb2 r a c L)).fp, Z0 b2 24 (Z0m cl seq)] w3)
 refine kq _ _ ?_
 clear kq Kq
 refine zwd fun Kq kq => ?_
 refine zdb (hc x) H4 ?_
 intro b6 w7 H8
 refine kq _ _ ?_
 clear kq Kq
 refine zwd fun Kq kq => ?_
 refine zda (Z0V) H8 ?_
 intro b10 w11 (H12 : Sat w [Z0 r 98 (Z0E a L.length c), (Z0F a L c), Z6 w (Z0c (rb2 r a c L)).fp, Z0 b2 24 (Z0m cl seq), Z0 b6 26 (hc x), Z0 b10 50 (Z0V)] w11)
 refine kq _ _ ?_
 clear kq Kq
 apply znt
 apply Zt
 refine Z00 H12 [Z0 r 98 (Z0E a L.length c), (Z0F a L c), Z6 w (Z0c (rb2 r a c L)).fp, Z0 b2 24 (Z0m cl seq), Z0 b6 26 (hc x), Z0 b10 50 (Z0V)] 10 rfl (by kernel_rfl) (fun Hx => (Hx.pk [0, 1, 2, 3, 4, 5])) ?_
 intro w13 H14 S15
 refine hv0 0 S15 10 (.agg ⟨(Z0m cl seq)⟩) ?_ (he := fun _ H' => (Zc (vs := (Z0m cl seq)) rfl (by kernel_rfl) (by kernel_rfl) (by exact Nat.le_of_ble_eq_true (by kernel_rfl)) (H'.at 3 rfl) (by kernel_rfl)))
 refine hv0 1 S15 11 (.agg ⟨(Z0m cl seq)⟩) ?_ (he := fun _ H' => (Zc (vs := (Z0m cl seq)) rfl (by kernel_rfl) (by kernel_rfl) (by exact Nat.le_of_ble_eq_true (by kernel_rfl)) (H'.at 3 rfl) (by kernel_rfl)))
 refine hv0 2 S15 12 (.agg ⟨(hc x)⟩) ?_ (he := fun _ H' => (Zc (vs := (hc x)) rfl (by kernel_rfl) (by kernel_rfl) (by exact Nat.le_of_ble_eq_true (by kernel_rfl)) (H'.at 4 rfl) (by kernel_rfl)))
 refine hv0 3 S15 13 (.slice pa p.length pc) ?_
 refine hv0 5 S15 15 (.slice pa p.length pc) ?_
 refine Z1D 6 rfl (by kernel_rfl) (by kernel_rfl) (by kernel_rfl) (fun _ _ _ h => h) S15 (Zs rfl) (d := 16) (v := (.int .i64 ((p.length : Int)))) rfl (fun _ H' => (by kernel_rfl)) ?_
 refine Z7n 4 8 rfl rfl (by kernel_rfl) (Zs rfl) (Zs rfl) (fun Kq kq => ?_) (fun Kq kq => ?_)
 ·refine zdq 14 (ZaF w13 cl seq x pa pc p (ListAt.nowD H14 2 rfl hp hoff) (by omega) (by omega) hlp) H14 ?_
  intro w17 H18
  have S20 := H18.pk [0, 1, 2, 3, 4, 5]
  refine kq _ _ S20 ?_
  clear kq Kq
  refine Z1D 7 rfl (by kernel_rfl) (by kernel_rfl) (by kernel_rfl) (fun _ _ _ h => h) S20 (Zs rfl) (d := 17) (v := (.agg ⟨(Z1I cl seq (Z1f (ofT cl seq x p)) ((p.length : Int)))⟩)) rfl (fun _ H' => (by kernel_rfl)) ?_
  refine Z09 8 fun Kq kq => ?_
  refine zda (Z0V) H18 ?_
  intro b22 w23 H24
  have S25 := H24.pk [0, 1, 2, 3, 4, 5]
  refine kq _ _ S25 ?_
  clear kq Kq
  refine Z09 9 fun Kq kq => ?_
  refine Z2k (Z1I cl seq (Z1f (ofT cl seq x p)) ((p.length : Int))) H24 6 ?_
  intro w27 (H28 : Sat w [Z0 r 98 (Z0E a L.length c), (Z0F a L c), Z6 w (Z0c (rb2 r a c L)).fp, Z0 b2 24 (Z0m cl seq), Z0 b6 26 (hc x), Z0 b10 50 (Z0V), Z0 b22 50 (Z1I cl seq (Z1f (ofT cl seq x p)) ((p.length : Int)))] w27)
  have S30 := H28.pk [0, 1, 2, 3, 4, 5]
  refine kq _ _ S30 ?_
  clear kq Kq
  refine zhf ?_
  apply ztn
  apply Zt
  refine Z1k H28 [Z6 w (Z0c (rb2 r a c L)).fp, Z0 b2 24 (Z0m cl seq), Z0 b6 26 (hc x), Z0 b10 50 (Z0V), Z0 b22 50 (Z1I cl seq (Z1f (ofT cl seq x p)) ((p.length : Int)))] [8] 9 rfl (by kernel_rfl) (fun Hx => (Hx.pk [2, 3, 4, 5, 6])) ?_
  intro w31 H32 S33
  refine zkp 0 S33 18 (pt r 0) ?_
  refine zkp 1 S33 19 (pt b2 0) ?_
  refine zkv 2 S33 20 (.int .i64 (cl)) ?_ (he := fun _ H' => (Z2 rfl (by kernel_rfl) (H'.cell 1 rfl rfl)))
  refine zkp 3 S33 21 (.int .i64 (1000 + cl)) ?_ (he := fun _ => (Z0I (z := 1000 + cl) (by kernel_rfl) (IntWalk.i64_in _ (by omega))))
  refine zkv 4 S33 22 (.agg ⟨(Z1I cl seq (Z1f (ofT cl seq x p)) ((p.length : Int)))⟩) ?_ (he := fun _ H' => (Zc (vs := (Z1I cl seq (Z1f (ofT cl seq x p)) ((p.length : Int)))) rfl (by kernel_rfl) (by kernel_rfl) (by exact Nat.le_of_ble_eq_true (by kernel_rfl)) (H'.at 4 rfl) (by kernel_rfl)))
  refine Z3p 5 fun Kq kq => ?_
  refine zdc 23 (Z1Y w31 (⟨cl, seq, (Z1f (ofT cl seq x p)), (p.length : Int), 0, 0⟩ : Zg) ⟨by show cl ≤ _; omega, hsq, by show (p.length : Int) ≤ _; omega⟩) ?_
  rintro _ w35 ⟨u36, rfl, k37, p38, q39⟩
  have H40 := H32.addU p38 k37 q39
  obtain ⟨a41, c42, rfl⟩ := Z1 (H40.at 7 rfl)
  refine ⟨_, rfl, ?_⟩
  have S43 := H40.pk [2, 3, 4, 5, 6]
  refine kq _ _ S43 ?_
  clear kq Kq
  refine Z3p 6 fun Kq kq => ?_
  refine zdc 24 (Z26 w35 r a c L (.slice a41 ((Zv (⟨cl, seq, (Z1f (ofT cl seq x p)), (p.length : Int), 0, 0⟩ : Zg)).length) c42) (Zv (⟨cl, seq, (Z1f (ofT cl seq x p)), (p.length : Int), 0, 0⟩ : Zg)) (H40.fn [0, 1, 7]) (by omega) hn (1000 + cl)) ?_
  rintro _ w45 ⟨a47, c48, rfl, T46⟩
  have H49 : Sat w [Z0 r 98 (Z0E a47 ((Zk L (⟨1000 + cl, (Zv (⟨cl, seq, (Z1f (ofT cl seq x p)), (p.length : Int), 0, 0⟩ : Zg))⟩ : Signed)).length) c48), (Z0F a47 (Zk L (⟨1000 + cl, (Zv (⟨cl, seq, (Z1f (ofT cl seq x p)), (p.length : Int), 0, 0⟩ : Zg))⟩ : Signed)) c48), Z6 w (Z0c (rb2 r a c L)).fp, Z0 b2 24 (Z0m cl seq), Z0 b6 26 (hc x), Z0 b10 50 (Z0V), Z0 b22 50 (Z1I cl seq (Z1f (ofT cl seq x p)) ((p.length : Int))), (Z1N a41 (Zv (⟨cl, seq, (Z1f (ofT cl seq x p)), (p.length : Int), 0, 0⟩ : Zg)) c42)] w45 := (Sat.turnL (L' := [Z0 r 98 (Z0E a47 ((Zk L (⟨1000 + cl, (Zv (⟨cl, seq, (Z1f (ofT cl seq x p)), (p.length : Int), 0, 0⟩ : Zg))⟩ : Signed)).length) c48), (Z0F a47 (Zk L (⟨1000 + cl, (Zv (⟨cl, seq, (Z1f (ofT cl seq x p)), (p.length : Int), 0, 0⟩ : Zg))⟩ : Signed)) c48), (Z1N a41 (Zv (⟨cl, seq, (Z1f (ofT cl seq x p)), (p.length : Int), 0, 0⟩ : Zg)) c42)]) (R := [Z6 w (Z0c (rb2 r a c L)).fp, Z0 b2 24 (Z0m cl seq), Z0 b6 26 (hc x), Z0 b10 50 (Z0V), Z0 b22 50 (Z1I cl seq (Z1f (ofT cl seq x p)) ((p.length : Int)))]) H40 [0, 1, 7] [2, 3, 4, 5, 6] (by decide) (by kernel_rfl) rfl T46).pk [0, 1, 3, 4, 5, 6, 7, 2]
  refine ⟨_, rfl, ?_⟩
  have S50 := H49.pk [2, 3, 4, 5, 6]
  refine kq _ _ S50 ?_
  clear kq Kq
  refine zkp 7 S50 25 (pt b22 35) ?_
  refine Z30 8 (Sat w [Z6 w (Z0c (rb2 r a c L)).fp, Z0 b2 24 (Z0m cl seq), Z0 b6 26 (hc x), Z0 b10 50 (Z0V)]) rfl (by kernel_rfl) (Zs rfl) rfl (fun Kq kq => ?_)
  refine zds (Z0m (1000 + cl) (Zu (Zk L (⟨1000 + cl, (Zv (⟨cl, seq, (Z1f (ofT cl seq x p)), (p.length : Int), 0, 0⟩ : Zg))⟩ : Signed)) (⟨1000 + cl, (Zv (⟨cl, seq, (Z1f (ofT cl seq x p)), (p.length : Int), 0, 0⟩ : Zg))⟩ : Signed))) (Z2h cl seq (Z1f (ofT cl seq x p)) ((p.length : Int)) (1000 + cl) (Zu (Zk L (⟨1000 + cl, (Zv (⟨cl, seq, (Z1f (ofT cl seq x p)), (p.length : Int), 0, 0⟩ : Zg))⟩ : Signed)) (⟨1000 + cl, (Zv (⟨cl, seq, (Z1f (ofT cl seq x p)), (p.length : Int), 0, 0⟩ : Zg))⟩ : Signed))) H49 6 ?_
  intro w52 H53
  have S55 := H53.pk [2, 3, 4, 5]
  refine kq _ _ S55 ?_
  clear kq Kq
  refine zhf ?_
  apply ztn
  apply zsl
  refine zwN 26 (Z2h cl seq (Z1f (ofT cl seq x p)) ((p.length : Int)) (1000 + cl) (Zu (Zk L (⟨1000 + cl, (Zv (⟨cl, seq, (Z1f (ofT cl seq x p)), (p.length : Int), 0, 0⟩ : Zg))⟩ : Signed)) (⟨1000 + cl, (Zv (⟨cl, seq, (Z1f (ofT cl seq x p)), (p.length : Int), 0, 0⟩ : Zg))⟩ : Signed))) (H53.at 6 rfl) ?_
  refine zwd fun Kq kq => ?_
  refine Z2k (Z2h cl seq (Z1f (ofT cl seq x p)) ((p.length : Int)) (1000 + cl) (Zu (Zk L (⟨1000 + cl, (Zv (⟨cl, seq, (Z1f (ofT cl seq x p)), (p.length : Int), 0, 0⟩ : Zg))⟩ : Signed)) (⟨1000 + cl, (Zv (⟨cl, seq, (Z1f (ofT cl seq x p)), (p.length : Int), 0, 0⟩ : Zg))⟩ : Signed))) H53 5 ?_
  intro w57 (H58 : Sat w [Z0 r 98 (Z0E a47 ((Zk L (⟨1000 + cl, (Zv (⟨cl, seq, (Z1f (ofT cl seq x p)), (p.length : Int), 0, 0⟩ : Zg))⟩ : Signed)).length) c48), (Z0F a47 (Zk L (⟨1000 + cl, (Zv (⟨cl, seq, (Z1f (ofT cl seq x p)), (p.length : Int), 0, 0⟩ : Zg))⟩ : Signed)) c48), Z6 w (Z0c (rb2 r a c L)).fp, Z0 b2 24 (Z0m cl seq), Z0 b6 26 (hc x), Z0 b10 50 (Z2h cl seq (Z1f (ofT cl seq x p)) ((p.length : Int)) (1000 + cl) (Zu (Zk L (⟨1000 + cl, (Zv (⟨cl, seq, (Z1f (ofT cl seq x p)), (p.length : Int), 0, 0⟩ : Zg))⟩ : Signed)) (⟨1000 + cl, (Zv (⟨cl, seq, (Z1f (ofT cl seq x p)), (p.length : Int), 0, 0⟩ : Zg))⟩ : Signed))), Z0 b22 50 (Z2h cl seq (Z1f (ofT cl seq x p)) ((p.length : Int)) (1000 + cl) (Zu (Zk L (⟨1000 + cl, (Zv (⟨cl, seq, (Z1f (ofT cl seq x p)), (p.length : Int), 0, 0⟩ : Zg))⟩ : Signed)) (⟨1000 + cl, (Zv (⟨cl, seq, (Z1f (ofT cl seq x p)), (p.length : Int), 0, 0⟩ : Zg))⟩ : Signed))), (Z1N a41 (Zv (⟨cl, seq, (Z1f (ofT cl seq x p)), (p.length : Int), 0, 0⟩ : Zg)) c42)] w57)
  refine kq _ _ ?_
  clear kq Kq
  apply znt
  apply ZA
  refine Z6E rfl (Z0i (vs := (Z2h cl seq (Z1f (ofT cl seq x p)) ((p.length : Int)) (1000 + cl) (Zu (Zk L (⟨1000 + cl, (Zv (⟨cl, seq, (Z1f (ofT cl seq x p)), (p.length : Int), 0, 0⟩ : Zg))⟩ : Signed)) (⟨1000 + cl, (Zv (⟨cl, seq, (Z1f (ofT cl seq x p)), (p.length : Int), 0, 0⟩ : Zg))⟩ : Signed)))) rfl (by kernel_rfl) (by kernel_rfl) (by exact Nat.le_of_ble_eq_true (by kernel_rfl)) (H58.at 5 rfl) (by kernel_rfl)) ?_
  exact ⟨a47, c48, rfl, H58.pk [0, 1, 2]⟩
 refine zda (Z0V) H14 ?_
 intro b60 w61 H62
 have S63 := H62.pk [0, 1, 2, 3, 4, 5]
 refine kq _ _ S63 ?_
 clear kq Kq
 refine Z09 4 fun Kq kq => ?_
 refine zdq 14 (ZaF w61 cl seq x pa pc p (ListAt.nowD H62 2 rfl hp hoff) (by omega) (by omega) hlp) H62 ?_
 intro w65 H66
 have S68 := H66.pk [0, 1, 2, 3, 4, 5]
 refine kq _ _ S68 ?_
 clear kq Kq
 refine Z1D 7 rfl (by kernel_rfl) (by kernel_rfl) (by kernel_rfl) (fun _ _ _ h => h) S68 (Zs rfl) (d := 17) (v := (.agg ⟨(Z1I cl seq (Z1f (ofT cl seq x p)) ((p.length : Int)))⟩)) rfl (fun _ H' => (by kernel_rfl)) ?_
 refine Z09 9 fun Kq kq => ?_
 refine Z2k (Z1I cl seq (Z1f (ofT cl seq x p)) ((p.length : Int))) H66 6 ?_
 intro w70 (H71 : Sat w [Z0 r 98 (Z0E a L.length c), (Z0F a L c), Z6 w (Z0c (rb2 r a c L)).fp, Z0 b2 24 (Z0m cl seq), Z0 b6 26 (hc x), Z0 b10 50 (Z0V), Z0 b60 50 (Z1I cl seq (Z1f (ofT cl seq x p)) ((p.length : Int)))] w70)
 have S73 := H71.pk [0, 1, 2, 3, 4, 5]
 refine kq _ _ S73 ?_
 clear kq Kq
 refine zhf ?_
 apply ztn
 apply Zt
 refine Z1k H71 [Z6 w (Z0c (rb2 r a c L)).fp, Z0 b2 24 (Z0m cl seq), Z0 b6 26 (hc x), Z0 b10 50 (Z0V), Z0 b60 50 (Z1I cl seq (Z1f (ofT cl seq x p)) ((p.length : Int)))] [8] 9 rfl (by kernel_rfl) (fun Hx => (Hx.pk [2, 3, 4, 5, 6])) ?_
 intro w74 H75 S76
 refine zkp 0 S76 18 (pt r 0) ?_
 refine zkp 1 S76 19 (pt b2 0) ?_
 refine zkv 2 S76 20 (.int .i64 (cl)) ?_ (he := fun _ H' => (Z2 rfl (by kernel_rfl) (H'.cell 1 rfl rfl)))
 refine zkp 3 S76 21 (.int .i64 (1000 + cl)) ?_ (he := fun _ => (Z0I (z := 1000 + cl) (by kernel_rfl) (IntWalk.i64_in _ (by omega))))
 refine zkv 4 S76 22 (.agg ⟨(Z1I cl seq (Z1f (ofT cl seq x p)) ((p.length : Int)))⟩) ?_ (he := fun _ H' => (Zc (vs := (Z1I cl seq (Z1f (ofT cl seq x p)) ((p.length : Int)))) rfl (by kernel_rfl) (by kernel_rfl) (by exact Nat.le_of_ble_eq_true (by kernel_rfl)) (H'.at 4 rfl) (by kernel_rfl)))
 refine Z3p 5 fun Kq kq => ?_
 refine zdc 23 (Z1Y w74 (⟨cl, seq, (Z1f (ofT cl seq x p)), (p.length : Int), 0, 0⟩ : Zg) ⟨by show cl ≤ _; omega, hsq, by show (p.length : Int) ≤ _; omega⟩) ?_
 rintro _ w78 ⟨u79, rfl, k80, p81, q82⟩
 have H83 := H75.addU p81 k80 q82
 obtain ⟨a84, c85, rfl⟩ := Z1 (H83.at 7 rfl)
 refine ⟨_, rfl, ?_⟩
 have S86 := H83.pk [2, 3, 4, 5, 6]
 refine kq _ _ S86 ?_
 clear kq Kq
 refine Z3p 6 fun Kq kq => ?_
 refine zdc 24 (Z26 w78 r a c L (.slice a84 ((Zv (⟨cl, seq, (Z1f (ofT cl seq x p)), (p.length : Int), 0, 0⟩ : Zg)).length) c85) (Zv (⟨cl, seq, (Z1f (ofT cl seq x p)), (p.length : Int), 0, 0⟩ : Zg)) (H83.fn [0, 1, 7]) (by omega) hn (1000 + cl)) ?_
 rintro _ w88 ⟨a90, c91, rfl, T89⟩
 have H92 : Sat w [Z0 r 98 (Z0E a90 ((Zk L (⟨1000 + cl, (Zv (⟨cl, seq, (Z1f (ofT cl seq x p)), (p.length : Int), 0, 0⟩ : Zg))⟩ : Signed)).length) c91), (Z0F a90 (Zk L (⟨1000 + cl, (Zv (⟨cl, seq, (Z1f (ofT cl seq x p)), (p.length : Int), 0, 0⟩ : Zg))⟩ : Signed)) c91), Z6 w (Z0c (rb2 r a c L)).fp, Z0 b2 24 (Z0m cl seq), Z0 b6 26 (hc x), Z0 b10 50 (Z0V), Z0 b60 50 (Z1I cl seq (Z1f (ofT cl seq x p)) ((p.length : Int))), (Z1N a84 (Zv (⟨cl, seq, (Z1f (ofT cl seq x p)), (p.length : Int), 0, 0⟩ : Zg)) c85)] w88 := (Sat.turnL (L' := [Z0 r 98 (Z0E a90 ((Zk L (⟨1000 + cl, (Zv (⟨cl, seq, (Z1f (ofT cl seq x p)), (p.length : Int), 0, 0⟩ : Zg))⟩ : Signed)).length) c91), (Z0F a90 (Zk L (⟨1000 + cl, (Zv (⟨cl, seq, (Z1f (ofT cl seq x p)), (p.length : Int), 0, 0⟩ : Zg))⟩ : Signed)) c91), (Z1N a84 (Zv (⟨cl, seq, (Z1f (ofT cl seq x p)), (p.length : Int), 0, 0⟩ : Zg)) c85)]) (R := [Z6 w (Z0c (rb2 r a c L)).fp, Z0 b2 24 (Z0m cl seq), Z0 b6 26 (hc x), Z0 b10 50 (Z0V), Z0 b60 50 (Z1I cl seq (Z1f (ofT cl seq x p)) ((p.length : Int)))]) H83 [0, 1, 7] [2, 3, 4, 5, 6] (by decide) (by kernel_rfl) rfl T89).pk [0, 1, 3, 4, 5, 6, 7, 2]
 refine ⟨_, rfl, ?_⟩
 have S93 := H92.pk [2, 3, 4, 5, 6]
 refine kq _ _ S93 ?_
 clear kq Kq
 refine zkp 7 S93 25 (pt b60 35) ?_
 refine Z30 8 (Sat w [Z6 w (Z0c (rb2 r a c L)).fp, Z0 b2 24 (Z0m cl seq), Z0 b6 26 (hc x), Z0 b10 50 (Z0V)]) rfl (by kernel_rfl) (Zs rfl) rfl (fun Kq kq => ?_)
 refine zds (Z0m (1000 + cl) (Zu (Zk L (⟨1000 + cl, (Zv (⟨cl, seq, (Z1f (ofT cl seq x p)), (p.length : Int), 0, 0⟩ : Zg))⟩ : Signed)) (⟨1000 + cl, (Zv (⟨cl, seq, (Z1f (ofT cl seq x p)), (p.length : Int), 0, 0⟩ : Zg))⟩ : Signed))) (Z2h cl seq (Z1f (ofT cl seq x p)) ((p.length : Int)) (1000 + cl) (Zu (Zk L (⟨1000 + cl, (Zv (⟨cl, seq, (Z1f (ofT cl seq x p)), (p.length : Int), 0, 0⟩ : Zg))⟩ : Signed)) (⟨1000 + cl, (Zv (⟨cl, seq, (Z1f (ofT cl seq x p)), (p.length : Int), 0, 0⟩ : Zg))⟩ : Signed))) H92 6 ?_
 intro w95 H96
 have S98 := H96.pk [2, 3, 4, 5]
 refine kq _ _ S98 ?_
 clear kq Kq
 refine zhf ?_
 apply ztn
 apply zsl
 refine zwN 26 (Z2h cl seq (Z1f (ofT cl seq x p)) ((p.length : Int)) (1000 + cl) (Zu (Zk L (⟨1000 + cl, (Zv (⟨cl, seq, (Z1f (ofT cl seq x p)), (p.length : Int), 0, 0⟩ : Zg))⟩ : Signed)) (⟨1000 + cl, (Zv (⟨cl, seq, (Z1f (ofT cl seq x p)), (p.length : Int), 0, 0⟩ : Zg))⟩ : Signed))) (H96.at 6 rfl) ?_
 refine zwd fun Kq kq => ?_
 refine Z2k (Z2h cl seq (Z1f (ofT cl seq x p)) ((p.length : Int)) (1000 + cl) (Zu (Zk L (⟨1000 + cl, (Zv (⟨cl, seq, (Z1f (ofT cl seq x p)), (p.length : Int), 0, 0⟩ : Zg))⟩ : Signed)) (⟨1000 + cl, (Zv (⟨cl, seq, (Z1f (ofT cl seq x p)), (p.length : Int), 0, 0⟩ : Zg))⟩ : Signed))) H96 5 ?_
 intro w100 (H101 : Sat w [Z0 r 98 (Z0E a90 ((Zk L (⟨1000 + cl, (Zv (⟨cl, seq, (Z1f (ofT cl seq x p)), (p.length : Int), 0, 0⟩ : Zg))⟩ : Signed)).length) c91), (Z0F a90 (Zk L (⟨1000 + cl, (Zv (⟨cl, seq, (Z1f (ofT cl seq x p)), (p.length : Int), 0, 0⟩ : Zg))⟩ : Signed)) c91), Z6 w (Z0c (rb2 r a c L)).fp, Z0 b2 24 (Z0m cl seq), Z0 b6 26 (hc x), Z0 b10 50 (Z2h cl seq (Z1f (ofT cl seq x p)) ((p.length : Int)) (1000 + cl) (Zu (Zk L (⟨1000 + cl, (Zv (⟨cl, seq, (Z1f (ofT cl seq x p)), (p.length : Int), 0, 0⟩ : Zg))⟩ : Signed)) (⟨1000 + cl, (Zv (⟨cl, seq, (Z1f (ofT cl seq x p)), (p.length : Int), 0, 0⟩ : Zg))⟩ : Signed))), Z0 b60 50 (Z2h cl seq (Z1f (ofT cl seq x p)) ((p.length : Int)) (1000 + cl) (Zu (Zk L (⟨1000 + cl, (Zv (⟨cl, seq, (Z1f (ofT cl seq x p)), (p.length : Int), 0, 0⟩ : Zg))⟩ : Signed)) (⟨1000 + cl, (Zv (⟨cl, seq, (Z1f (ofT cl seq x p)), (p.length : Int), 0, 0⟩ : Zg))⟩ : Signed))), (Z1N a84 (Zv (⟨cl, seq, (Z1f (ofT cl seq x p)), (p.length : Int), 0, 0⟩ : Zg)) c85)] w100)
 refine kq _ _ ?_
 clear kq Kq
 apply znt
 apply ZA
 refine Z6E rfl (Z0i (vs := (Z2h cl seq (Z1f (ofT cl seq x p)) ((p.length : Int)) (1000 + cl) (Zu (Zk L (⟨1000 + cl, (Zv (⟨cl, seq, (Z1f (ofT cl seq x p)), (p.length : Int), 0, 0⟩ : Zg))⟩ : Signed)) (⟨1000 + cl, (Zv (⟨cl, seq, (Z1f (ofT cl seq x p)), (p.length : Int), 0, 0⟩ : Zg))⟩ : Signed)))) rfl (by kernel_rfl) (by kernel_rfl) (by exact Nat.le_of_ble_eq_true (by kernel_rfl)) (H101.at 5 rfl) (by kernel_rfl)) ?_
 exact ⟨a90, c91, rfl, H101.pk [0, 1, 2]⟩
theorem Z50 (w : World) (b mb r : Nat) (a : Option Addr) (c : Nat) (L : List Signed) (hB : (Z0c (Z1z b mb r a c L)).ok w) (cl seq : Int) (pa : Option Addr) (pc : Nat) (p : List UInt8) (hp : ListAt ZN 1 w (.slice pa p.length pc) p) (hoff : 0 < p.length → ∀ ad, pa = some ad → ¬ (Z0c (Z1z b mb r a c L)).fp ad.block) (hlp : p.length ≤ 1000) (hcl : 0 ≤ cl ∧ cl ≤ 1000000) (hsq : seq ≤ 9223372036854775807) (hL : L.length ≤ 100000) (hn : L.Nodup) :
  Calls Tryz.prog 10 #[(.agg ⟨([(.pointer (some ⟨b, 0, none⟩)), (.pointer (some ⟨r, 0, none⟩))] : List Value)⟩), (.agg ⟨([(.int .i64 (cl)), (.int .i64 (seq))] : List Value)⟩), (.slice pa p.length pc)] w fun e w' => ∃ a' c', e = .returned (.agg ⟨Z61 (mkC L cl seq Z0d p)⟩) ∧ Sat w [Z0 b 110 [.map (some mb)], Z3d mb Z0e (Value.int .i64) (Z04 (Zk L (yC cl seq Z0d p))), Z0 r 98 [.slice a' (Zk L (yC cl seq Z0d p)).length c'], ZH 114 2 (.slice a' (Zk L (yC cl seq Z0d p)).length c') (Zk L (yC cl seq Z0d p)).length ((Zk L (yC cl seq Z0d p)).flatMap Z43), Z6 w (Z0c (Z1z b mb r a c L)).fp] w' := by
 have hL0 : (1000 + cl) ≤ 9223372036854775807 := by omega
 have H := Sat.start (Z1z b mb r a c L) hB
 refine Zp Tryz.func10 rfl 24 rfl (Nat.le_of_ble_eq_true rfl) ?_
 apply zsl
 refine zwd fun Kq kq => ?_
 refine zdb (Z1s b r) H ?_
 intro b2 w3 (H4 : Sat w [Z0 b 110 (Z1O mb), (Z1P mb L), Z0 r 98 (Z0E a L.length c), (Z0F a L c), Z6 w (Z0c (Z1z b mb r a c L)).fp, Z0 b2 40 (Z1s b r)] w3)
 refine kq _ _ ?_
 clear kq Kq
 refine zwd fun Kq kq => ?_
 refine zdb (Z0m cl seq) H4 ?_
 intro b6 w7 H8
 refine kq _ _ ?_
 clear kq Kq
 refine zwd fun Kq kq => ?_
 refine zda (Z0V) H8 ?_
 intro b10 w11 (H12 : Sat w [Z0 b 110 (Z1O mb), (Z1P mb L), Z0 r 98 (Z0E a L.length c), (Z0F a L c), Z6 w (Z0c (Z1z b mb r a c L)).fp, Z0 b2 40 (Z1s b r), Z0 b6 24 (Z0m cl seq), Z0 b10 50 (Z0V)] w11)
 refine kq _ _ ?_
 clear kq Kq
 apply Z1y
 refine wv 8 (pt b2 1) ?_
 refine zw1 9 (pt r 0) (H12.cell 5 rfl rfl) ?_
 refine zwN 10 (Z0m cl seq) (H12.at 6 rfl) ?_
 refine wv 11 (.agg ⟨(hc Z0d)⟩) ?_
 refine wv 12 (.slice pa p.length pc) ?_
 refine zwd fun Kq kq => ?_
 refine zdc 13 (Z9r w11 r a c L (H12.fn [2, 3]) cl seq Z0d pa pc p (ListAt.nowD H12 4 rfl hp hoff) (fun h0 ad ha hf => hoff h0 ad ha (ZbC ad.block hf)) hlp (by omega) hsq hL hn) ?_
 rintro _ w14 ⟨a16, c17, rfl, T15⟩
 have H18 := H12.tl [Z0 r 98 (Z0E a16 ((Zk L (yC cl seq Z0d p)).length) c17), (Z0F a16 (Zk L (yC cl seq Z0d p)) c17)] [2, 3] [0, 1, 4, 5, 6, 7] T15 [2, 3, 0, 1, 4, 5, 6, 7]
 refine ⟨_, rfl, ?_⟩
 refine kq _ _ ?_
 clear kq Kq
 refine zwd fun Kq kq => ?_
 refine zda (Z0V) H18 ?_
 intro b20 w21 (H22 : Sat w [Z0 b 110 (Z1O mb), (Z1P mb L), Z0 r 98 (Z0E a16 ((Zk L (yC cl seq Z0d p)).length) c17), (Z0F a16 (Zk L (yC cl seq Z0d p)) c17), Z6 w (Z0c (Z1z b mb r a c L)).fp, Z0 b2 40 (Z1s b r), Z0 b6 24 (Z0m cl seq), Z0 b10 50 (Z0V), Z0 b20 50 (Z0V)] w21)
 refine kq _ _ ?_
 clear kq Kq
 refine zwd fun Kq kq => ?_
 refine Z2k (Z1p (mkC L cl seq Z0d p)) H22 8 ?_
 intro w24 H25
 refine kq _ _ ?_
 clear kq Kq
 apply znt
 apply Zt
 refine Z1k H25 [Z0 r 98 (Z0E a16 ((Zk L (yC cl seq Z0d p)).length) c17), (Z0F a16 (Zk L (yC cl seq Z0d p)) c17), Z6 w (Z0c (Z1z b mb r a c L)).fp, Z0 b2 40 (Z1s b r), Z0 b6 24 (Z0m cl seq), Z0 b10 50 (Z0V), Z0 b20 50 (Z1p (mkC L cl seq Z0d p))] [9] 10 rfl (by kernel_rfl) (fun Hx => (Hx.pk [2, 3, 4, 5, 6, 7, 8])) ?_
 intro w27 H28 S29
 refine zkp 0 S29 14 (pt b2 0) ?_
 refine zkv 1 S29 15 (pt b 0) ?_ (he := fun _ H' => (Z2 rfl (by kernel_rfl) (H'.cell 3 rfl rfl)))
 refine zkp 2 S29 16 (pt b6 0) ?_
 refine zkv 3 S29 17 (.int .i64 (cl)) ?_ (he := fun _ H' => (Z2 rfl (by kernel_rfl) (H'.cell 4 rfl rfl)))
 refine zkp 4 S29 18 (.int .i64 (1000 + cl)) ?_ (he := fun _ => (Z0I (z := 1000 + cl) (by kernel_rfl) (IntWalk.i64_in _ (by omega))))
 refine zkv 5 S29 19 (.agg ⟨(Z1p (mkC L cl seq Z0d p))⟩) ?_ (he := fun _ H' => (Zc (vs := (Z1p (mkC L cl seq Z0d p))) rfl (by kernel_rfl) (by kernel_rfl) (by exact Nat.le_of_ble_eq_true (by kernel_rfl)) (H'.at 6 rfl) (by kernel_rfl)))
 refine Z3p 6 fun Kq kq => ?_
 refine zdc 20 (Z1Y w27 (mkC L cl seq Z0d p) ⟨by show cl ≤ _; omega, hsq, by show (p.length : Int) ≤ _; omega⟩) ?_
 rintro _ w31 ⟨u32, rfl, k33, p34, q35⟩
 have H36 : Sat w [Z0 b 110 (Z1O mb), (Z1P mb L), Z0 r 98 (Z0E a16 ((Zk L (yC cl seq Z0d p)).length) c17), (Z0F a16 (Zk L (yC cl seq Z0d p)) c17), Z6 w (Z0c (Z1z b mb r a c L)).fp, Z0 b2 40 (Z1s b r), Z0 b6 24 (Z0m cl seq), Z0 b10 50 (Z0V), Z0 b20 50 (Z1p (mkC L cl seq Z0d p)), ZH 5 1 u32 ((Zv (mkC L cl seq Z0d p)).length) ((Zv (mkC L cl seq Z0d p)).flatMap ZN)] w31 := H28.addU p34 k33 q35
 obtain ⟨a37, c38, rfl⟩ := Z1 (H36.at 9 rfl)
 refine ⟨_, rfl, ?_⟩
 have S39 := H36.pk [2, 3, 4, 5, 6, 7, 8]
 refine kq _ _ S39 ?_
 clear kq Kq
 refine Z3p 7 fun Kq kq => ?_
 refine zdc 21 (Z31 w31 b mb L (.slice a37 ((Zv (mkC L cl seq Z0d p)).length) c38) (Zv (mkC L cl seq Z0d p)) (H36.fn [0, 1, 9]) (by omega) (1000 + cl)) ?_
 rintro _ w41 ⟨rfl, T42⟩
 have H43 := H36.tl [Z0 b 110 (Z1O mb), (Z1P mb (Zk L (⟨1000 + cl, (Zv (mkC L cl seq Z0d p))⟩ : Signed))), (Z1N a37 (Zv (mkC L cl seq Z0d p)) c38)] [0, 1, 9] [2, 3, 4, 5, 6, 7, 8] T42 [0, 1, 3, 4, 5, 6, 7, 8, 9, 2]
 refine ⟨_, rfl, ?_⟩
 have S44 := H43.pk [2, 3, 4, 5, 6, 7, 8]
 refine kq _ _ S44 ?_
 clear kq Kq
 refine zkp 8 S44 22 (pt b20 35) ?_
 refine Z30 9 (Sat w [Z0 r 98 (Z0E a16 ((Zk L (yC cl seq Z0d p)).length) c17), (Z0F a16 (Zk L (yC cl seq Z0d p)) c17), Z6 w (Z0c (Z1z b mb r a c L)).fp, Z0 b2 40 (Z1s b r), Z0 b6 24 (Z0m cl seq), Z0 b10 50 (Z0V)]) rfl (by kernel_rfl) (Zs rfl) rfl (fun Kq kq => ?_)
 refine zds (Z0m (1000 + cl) (Zu (Zk L (⟨1000 + cl, (Zv (mkC L cl seq Z0d p))⟩ : Signed)) (⟨1000 + cl, (Zv (mkC L cl seq Z0d p))⟩ : Signed))) (Z4p (mkC L cl seq Z0d p) (1000 + cl) (Zu (Zk L (⟨1000 + cl, (Zv (mkC L cl seq Z0d p))⟩ : Signed)) (⟨1000 + cl, (Zv (mkC L cl seq Z0d p))⟩ : Signed))) H43 8 ?_
 intro w46 (H47 : Sat w [Z0 b 110 (Z1O mb), (Z1P mb (Zk L (⟨1000 + cl, (Zv (mkC L cl seq Z0d p))⟩ : Signed))), Z0 r 98 (Z0E a16 ((Zk L (yC cl seq Z0d p)).length) c17), (Z0F a16 (Zk L (yC cl seq Z0d p)) c17), Z6 w (Z0c (Z1z b mb r a c L)).fp, Z0 b2 40 (Z1s b r), Z0 b6 24 (Z0m cl seq), Z0 b10 50 (Z0V), Z0 b20 50 (Z4p (mkC L cl seq Z0d p) (1000 + cl) (Zu (Zk L (⟨1000 + cl, (Zv (mkC L cl seq Z0d p))⟩ : Signed)) (⟨1000 + cl, (Zv (mkC L cl seq Z0d p))⟩ : Signed))), (Z1N a37 (Zv (mkC L cl seq Z0d p)) c38)] w46)
 have S49 := H47.pk [2, 3, 4, 5, 6, 7]
 refine kq _ _ S49 ?_
 clear kq Kq
 refine zhf ?_
 apply ztn
 apply zsl
 refine zwN 23 (Z4p (mkC L cl seq Z0d p) (1000 + cl) (Zu (Zk L (⟨1000 + cl, (Zv (mkC L cl seq Z0d p))⟩ : Signed)) (⟨1000 + cl, (Zv (mkC L cl seq Z0d p))⟩ : Signed))) (H47.at 8 rfl) ?_
 refine zwd fun Kq kq => ?_
 refine Z2k (Z4p (mkC L cl seq Z0d p) (1000 + cl) (Zu (Zk L (⟨1000 + cl, (Zv (mkC L cl seq Z0d p))⟩ : Signed)) (⟨1000 + cl, (Zv (mkC L cl seq Z0d p))⟩ : Signed))) H47 7 ?_
 intro w51 H52
 refine kq _ _ ?_
 clear kq Kq
 apply znt
 apply ZA
 refine Z6E rfl (Z0i (vs := (Z4p (mkC L cl seq Z0d p) (1000 + cl) (Zu (Zk L (⟨1000 + cl, (Zv (mkC L cl seq Z0d p))⟩ : Signed)) (⟨1000 + cl, (Zv (mkC L cl seq Z0d p))⟩ : Signed)))) rfl (by kernel_rfl) (by kernel_rfl) (by exact Nat.le_of_ble_eq_true (by kernel_rfl)) (H52.at 7 rfl) (by kernel_rfl)) ?_
 exact ⟨a16, c17, rfl, H52.pk [0, 1, 2, 3, 4]⟩
theorem Z5p (w : World) (b mb r : Nat) (a : Option Addr) (c : Nat) (L : List Signed) (hB : (Z0c (Z1z b mb r a c L)).ok w) (q : Int) (x : Zg) (t : Int) (hr : q ≤ 9223372036854775807) (hx : ZbL x) (ht : 0 ≤ t ∧ t < 18446744073709551616) (hL : L.length ≤ 100000) (hn : L.Nodup) :
  Calls Tryz.prog 38 #[(.agg ⟨([(.pointer (some ⟨b, 0, none⟩)), (.pointer (some ⟨r, 0, none⟩))] : List Value)⟩), (.int .i64 (q)), (.agg ⟨(([(.int .i64 (x.cl)), (.int .i64 (x.seq))] : List Value) ++ hc x.h ++ ([(.int .i64 (x.len)), (.int .i64 (x.sb)), (.int .i64 (x.sm))] : List Value))⟩), (.int .u64 (t))] w fun e w' => ∃ a' c', e = .returned (.agg ⟨Z0J (mkS L q x t)⟩) ∧ Sat w [Z0 b 110 [.map (some mb)], Z3d mb Z0e (Value.int .i64) (Z04 (Zk L (yS q x t))), Z0 r 98 [.slice a' (Zk L (yS q x t)).length c'], ZH 114 2 (.slice a' (Zk L (yS q x t)).length c') (Zk L (yS q x t)).length ((Zk L (yS q x t)).flatMap Z43), Z6 w (Z0c (Z1z b mb r a c L)).fp] w' := by
 have H : Sat w [Z0 b 110 (Z1O mb), (Z1P mb L), Z0 r 98 (Z0E a L.length c), (Z0F a L c), Z6 w (Z0c (Z1z b mb r a c L)).fp] w := Sat.start (Z1z b mb r a c L) hB
 refine Zp Tryz.func38 rfl 36 rfl (Nat.le_of_ble_eq_true rfl) ?_
 apply zsl
 refine zwd fun Kq kq => ?_
 refine zdb (Z1s b r) H ?_
 intro b2 w3 H4
 refine kq _ _ ?_
 clear kq Kq
 refine zwd fun Kq kq => ?_
 refine zdb (Z1p x) H4 ?_
 intro b6 w7 (H8 : Sat w [Z0 b 110 (Z1O mb), (Z1P mb L), Z0 r 98 (Z0E a L.length c), (Z0F a L c), Z6 w (Z0c (Z1z b mb r a c L)).fp, Z0 b2 40 (Z1s b r), Z0 b6 50 (Z1p x)] w7)
 refine kq _ _ ?_
 clear kq Kq
 refine zwd fun Kq kq => ?_
 refine zda (Z1U) H8 ?_
 intro b10 w11 H12
 refine kq _ _ ?_
 clear kq Kq
 apply Z1y
 refine wv 10 (.int .i64 (q)) ?_
 refine wv 11 (pt b6 0) ?_
 refine zwN 12 (Z0m x.cl x.seq) (H12.at 6 rfl) ?_
 refine wv 13 (pt b6 2) ?_
 refine zwN 14 (hc x.h) (H12.at 6 rfl) ?_
 refine wv 15 (.int .u64 (t)) ?_
 refine wv 16 (.agg ⟨(Z3E q x t)⟩) ?_
 refine zwd fun Kq kq => ?_
 refine zda (Z1U) H12 ?_
 intro b14 w15 (H16 : Sat w [Z0 b 110 (Z1O mb), (Z1P mb L), Z0 r 98 (Z0E a L.length c), (Z0F a L c), Z6 w (Z0c (Z1z b mb r a c L)).fp, Z0 b2 40 (Z1s b r), Z0 b6 50 (Z1p x), Z0 b10 101 (Z1U), Z0 b14 101 (Z1U)] w15)
 refine kq _ _ ?_
 clear kq Kq
 refine zwd fun Kq kq => ?_
 refine Z2k (Z3E q x t) H16 8 ?_
 intro w18 H19
 refine kq _ _ ?_
 clear kq Kq
 apply znt
 apply Zt
 refine Z1k H19 [Z0 b 110 (Z1O mb), (Z1P mb L), Z6 w (Z0c (Z1z b mb r a c L)).fp, Z0 b2 40 (Z1s b r), Z0 b6 50 (Z1p x), Z0 b10 101 (Z1U), Z0 b14 101 (Z3E q x t)] [7] 8 rfl (by kernel_rfl) (fun Hx => (Hx.pk [0, 1, 4, 5, 6, 7, 8])) ?_
 intro w21 H22 S23
 refine zkp 0 S23 17 (pt b2 1) ?_
 refine zkv 1 S23 18 (pt r 0) ?_ (he := fun _ H' => (Z2 rfl (by kernel_rfl) (H'.cell 3 rfl rfl)))
 refine zkp 2 S23 19 (.int .i64 (q)) ?_
 refine zkv 3 S23 20 (.agg ⟨(Z3E q x t)⟩) ?_ (he := fun _ H' => (Zc (vs := (Z3E q x t)) rfl (by kernel_rfl) (by kernel_rfl) (by exact Nat.le_of_ble_eq_true (by kernel_rfl)) (H'.at 6 rfl) (by kernel_rfl)))
 refine Z3p 4 fun Kq kq => ?_
 refine zdc 21 (Z2N w21 (⟨q, x.cl, x.seq, x.h, t, 0, 0⟩ : Z5) ⟨hr, hx.1, hx.2.1, ht.1, ht.2⟩) ?_
 rintro _ w25 ⟨u26, rfl, k27, p28, q29⟩
 have H30 : Sat w [Z0 b 110 (Z1O mb), (Z1P mb L), Z0 r 98 (Z0E a L.length c), (Z0F a L c), Z6 w (Z0c (Z1z b mb r a c L)).fp, Z0 b2 40 (Z1s b r), Z0 b6 50 (Z1p x), Z0 b10 101 (Z1U), Z0 b14 101 (Z3E q x t), ZH 5 1 u26 ((Zz (⟨q, x.cl, x.seq, x.h, t, 0, 0⟩ : Z5)).length) ((Zz (⟨q, x.cl, x.seq, x.h, t, 0, 0⟩ : Z5)).flatMap ZN)] w25 := H22.addU p28 k27 q29
 obtain ⟨a31, c32, rfl⟩ := Z1 (H30.at 9 rfl)
 refine ⟨_, rfl, ?_⟩
 have S33 := H30.pk [0, 1, 4, 5, 6, 7, 8]
 refine kq _ _ S33 ?_
 clear kq Kq
 refine Z3p 5 fun Kq kq => ?_
 refine zdc 22 (Z26 w25 r a c L (.slice a31 ((Zz (⟨q, x.cl, x.seq, x.h, t, 0, 0⟩ : Z5)).length) c32) (Zz (⟨q, x.cl, x.seq, x.h, t, 0, 0⟩ : Z5)) (H30.fn [2, 3, 9]) (by omega) hn q) ?_
 rintro _ w35 ⟨a37, c38, rfl, T36⟩
 have H39 := H30.tl [Z0 r 98 (Z0E a37 ((Zk L (⟨q, (Zz (⟨q, x.cl, x.seq, x.h, t, 0, 0⟩ : Z5))⟩ : Signed)).length) c38), (Z0F a37 (Zk L (⟨q, (Zz (⟨q, x.cl, x.seq, x.h, t, 0, 0⟩ : Z5))⟩ : Signed)) c38), (Z1N a31 (Zz (⟨q, x.cl, x.seq, x.h, t, 0, 0⟩ : Z5)) c32)] [2, 3, 9] [0, 1, 4, 5, 6, 7, 8] T36 [3, 4, 0, 1, 5, 6, 7, 8, 9, 2]
 refine ⟨_, rfl, ?_⟩
 have S40 := H39.pk [0, 1, 4, 5, 6, 7, 8]
 refine kq _ _ S40 ?_
 clear kq Kq
 refine zkp 6 S40 23 (pt b14 36) ?_
 refine Z30 7 (Sat w [Z0 b 110 (Z1O mb), (Z1P mb L), Z6 w (Z0c (Z1z b mb r a c L)).fp, Z0 b2 40 (Z1s b r), Z0 b6 50 (Z1p x), Z0 b10 101 (Z1U)]) rfl (by kernel_rfl) (Zs rfl) rfl (fun Kq kq => ?_)
 refine zds (Z0m q (Zu (Zk L (⟨q, (Zz (⟨q, x.cl, x.seq, x.h, t, 0, 0⟩ : Z5))⟩ : Signed)) (⟨q, (Zz (⟨q, x.cl, x.seq, x.h, t, 0, 0⟩ : Z5))⟩ : Signed))) (Z28 q x t (Zu (Zk L (⟨q, (Zz (⟨q, x.cl, x.seq, x.h, t, 0, 0⟩ : Z5))⟩ : Signed)) (⟨q, (Zz (⟨q, x.cl, x.seq, x.h, t, 0, 0⟩ : Z5))⟩ : Signed))) H39 8 ?_
 intro w42 (H43 : Sat w [Z0 b 110 (Z1O mb), (Z1P mb L), Z0 r 98 (Z0E a37 ((Zk L (⟨q, (Zz (⟨q, x.cl, x.seq, x.h, t, 0, 0⟩ : Z5))⟩ : Signed)).length) c38), (Z0F a37 (Zk L (⟨q, (Zz (⟨q, x.cl, x.seq, x.h, t, 0, 0⟩ : Z5))⟩ : Signed)) c38), Z6 w (Z0c (Z1z b mb r a c L)).fp, Z0 b2 40 (Z1s b r), Z0 b6 50 (Z1p x), Z0 b10 101 (Z1U), Z0 b14 101 (Z28 q x t (Zu (Zk L (⟨q, (Zz (⟨q, x.cl, x.seq, x.h, t, 0, 0⟩ : Z5))⟩ : Signed)) (⟨q, (Zz (⟨q, x.cl, x.seq, x.h, t, 0, 0⟩ : Z5))⟩ : Signed))), (Z1N a31 (Zz (⟨q, x.cl, x.seq, x.h, t, 0, 0⟩ : Z5)) c32)] w42)
 have S45 := H43.pk [0, 1, 4, 5, 6, 7]
 refine kq _ _ S45 ?_
 clear kq Kq
 refine zhf ?_
 apply ztn
 apply Zt
 apply Zt
 refine Z00 H43 [Z0 r 98 (Z0E a37 ((Zk L (⟨q, (Zz (⟨q, x.cl, x.seq, x.h, t, 0, 0⟩ : Z5))⟩ : Signed)).length) c38), (Z0F a37 (Zk L (⟨q, (Zz (⟨q, x.cl, x.seq, x.h, t, 0, 0⟩ : Z5))⟩ : Signed)) c38), Z6 w (Z0c (Z1z b mb r a c L)).fp, Z0 b2 40 (Z1s b r), Z0 b6 50 (Z1p x), Z0 b10 101 (Z1U), Z0 b14 101 (Z28 q x t (Zu (Zk L (⟨q, (Zz (⟨q, x.cl, x.seq, x.h, t, 0, 0⟩ : Z5))⟩ : Signed)) (⟨q, (Zz (⟨q, x.cl, x.seq, x.h, t, 0, 0⟩ : Z5))⟩ : Signed))), (Z1N a31 (Zz (⟨q, x.cl, x.seq, x.h, t, 0, 0⟩ : Z5)) c32)] 9 rfl (by kernel_rfl) (fun Hx => (Hx.pk [2, 3, 4, 5, 6, 7, 8, 9])) ?_
 intro w46 H47 S48
 refine hv0 0 S48 24 (pt b14 36) ?_
 refine hv0 1 S48 25 (.agg ⟨(Z0m q (Zu (Zk L (⟨q, (Zz (⟨q, x.cl, x.seq, x.h, t, 0, 0⟩ : Z5))⟩ : Signed)) (⟨q, (Zz (⟨q, x.cl, x.seq, x.h, t, 0, 0⟩ : Z5))⟩ : Signed)))⟩) ?_ (he := fun _ H' => (Zc (vs := (Z0m q (Zu (Zk L (⟨q, (Zz (⟨q, x.cl, x.seq, x.h, t, 0, 0⟩ : Z5))⟩ : Signed)) (⟨q, (Zz (⟨q, x.cl, x.seq, x.h, t, 0, 0⟩ : Z5))⟩ : Signed)))) rfl (by kernel_rfl) (by kernel_rfl) (by exact Nat.le_of_ble_eq_true (by kernel_rfl)) (H'.at 6 rfl) (by kernel_rfl)))
 refine hv0 2 S48 26 (pt b2 0) ?_
 refine hv0 3 S48 27 (pt b 0) ?_ (he := fun _ H' => (Z2 rfl (by kernel_rfl) (H'.cell 3 rfl rfl)))
 refine hv0 4 S48 28 (.int .i64 (q)) ?_
 refine hv0 5 S48 29 (.agg ⟨(Z28 q x t (Zu (Zk L (⟨q, (Zz (⟨q, x.cl, x.seq, x.h, t, 0, 0⟩ : Z5))⟩ : Signed)) (⟨q, (Zz (⟨q, x.cl, x.seq, x.h, t, 0, 0⟩ : Z5))⟩ : Signed)))⟩) ?_ (he := fun _ H' => (Zc (vs := (Z28 q x t (Zu (Zk L (⟨q, (Zz (⟨q, x.cl, x.seq, x.h, t, 0, 0⟩ : Z5))⟩ : Signed)) (⟨q, (Zz (⟨q, x.cl, x.seq, x.h, t, 0, 0⟩ : Z5))⟩ : Signed)))) rfl (by kernel_rfl) (by kernel_rfl) (by exact Nat.le_of_ble_eq_true (by kernel_rfl)) (H'.at 6 rfl) (by kernel_rfl)))
 refine Z09 6 fun Kq kq => ?_
 refine zdc 30 (Z2N w46 (⟨q, x.cl, x.seq, x.h, t, q, Zu (Zk L (⟨q, (Zz (⟨q, x.cl, x.seq, x.h, t, 0, 0⟩ : Z5))⟩ : Signed)) (⟨q, (Zz (⟨q, x.cl, x.seq, x.h, t, 0, 0⟩ : Z5))⟩ : Signed)⟩ : Z5) ⟨hr, hx.1, hx.2.1, ht.1, ht.2⟩) ?_
 rintro _ w50 ⟨u51, rfl, k52, p53, q54⟩
 have H55 := H47.addU p53 k52 q54
 obtain ⟨a56, c57, rfl⟩ := Z1 (H55.at 10 rfl)
 refine ⟨_, rfl, ?_⟩
 have S58 := H55.pk [2, 3, 4, 5, 6, 7, 8, 9]
 refine kq _ _ S58 ?_
 clear kq Kq
 refine Z09 7 fun Kq kq => ?_
 refine zdc 31 (Z31 w50 b mb L (.slice a56 ((Zz (⟨q, x.cl, x.seq, x.h, t, q, Zu (Zk L (⟨q, (Zz (⟨q, x.cl, x.seq, x.h, t, 0, 0⟩ : Z5))⟩ : Signed)) (⟨q, (Zz (⟨q, x.cl, x.seq, x.h, t, 0, 0⟩ : Z5))⟩ : Signed)⟩ : Z5)).length) c57) (Zz (⟨q, x.cl, x.seq, x.h, t, q, Zu (Zk L (⟨q, (Zz (⟨q, x.cl, x.seq, x.h, t, 0, 0⟩ : Z5))⟩ : Signed)) (⟨q, (Zz (⟨q, x.cl, x.seq, x.h, t, 0, 0⟩ : Z5))⟩ : Signed)⟩ : Z5)) (H55.fn [0, 1, 10]) (by omega) q) ?_
 rintro _ w60 ⟨rfl, T61⟩
 have H62 : Sat w [Z0 b 110 (Z1O mb), (Z1P mb (Zk L (⟨q, (Zz (⟨q, x.cl, x.seq, x.h, t, q, Zu (Zk L (⟨q, (Zz (⟨q, x.cl, x.seq, x.h, t, 0, 0⟩ : Z5))⟩ : Signed)) (⟨q, (Zz (⟨q, x.cl, x.seq, x.h, t, 0, 0⟩ : Z5))⟩ : Signed)⟩ : Z5))⟩ : Signed))), Z0 r 98 (Z0E a37 ((Zk L (⟨q, (Zz (⟨q, x.cl, x.seq, x.h, t, 0, 0⟩ : Z5))⟩ : Signed)).length) c38), (Z0F a37 (Zk L (⟨q, (Zz (⟨q, x.cl, x.seq, x.h, t, 0, 0⟩ : Z5))⟩ : Signed)) c38), Z6 w (Z0c (Z1z b mb r a c L)).fp, Z0 b2 40 (Z1s b r), Z0 b6 50 (Z1p x), Z0 b10 101 (Z1U), Z0 b14 101 (Z28 q x t (Zu (Zk L (⟨q, (Zz (⟨q, x.cl, x.seq, x.h, t, 0, 0⟩ : Z5))⟩ : Signed)) (⟨q, (Zz (⟨q, x.cl, x.seq, x.h, t, 0, 0⟩ : Z5))⟩ : Signed))), (Z1N a31 (Zz (⟨q, x.cl, x.seq, x.h, t, 0, 0⟩ : Z5)) c32), (Z1N a56 (Zz (⟨q, x.cl, x.seq, x.h, t, q, Zu (Zk L (⟨q, (Zz (⟨q, x.cl, x.seq, x.h, t, 0, 0⟩ : Z5))⟩ : Signed)) (⟨q, (Zz (⟨q, x.cl, x.seq, x.h, t, 0, 0⟩ : Z5))⟩ : Signed)⟩ : Z5)) c57)] w60 := (Sat.turnL (L' := [Z0 b 110 (Z1O mb), (Z1P mb (Zk L (⟨q, (Zz (⟨q, x.cl, x.seq, x.h, t, q, Zu (Zk L (⟨q, (Zz (⟨q, x.cl, x.seq, x.h, t, 0, 0⟩ : Z5))⟩ : Signed)) (⟨q, (Zz (⟨q, x.cl, x.seq, x.h, t, 0, 0⟩ : Z5))⟩ : Signed)⟩ : Z5))⟩ : Signed))), (Z1N a56 (Zz (⟨q, x.cl, x.seq, x.h, t, q, Zu (Zk L (⟨q, (Zz (⟨q, x.cl, x.seq, x.h, t, 0, 0⟩ : Z5))⟩ : Signed)) (⟨q, (Zz (⟨q, x.cl, x.seq, x.h, t, 0, 0⟩ : Z5))⟩ : Signed)⟩ : Z5)) c57)]) (R := [Z0 r 98 (Z0E a37 ((Zk L (⟨q, (Zz (⟨q, x.cl, x.seq, x.h, t, 0, 0⟩ : Z5))⟩ : Signed)).length) c38), (Z0F a37 (Zk L (⟨q, (Zz (⟨q, x.cl, x.seq, x.h, t, 0, 0⟩ : Z5))⟩ : Signed)) c38), Z6 w (Z0c (Z1z b mb r a c L)).fp, Z0 b2 40 (Z1s b r), Z0 b6 50 (Z1p x), Z0 b10 101 (Z1U), Z0 b14 101 (Z28 q x t (Zu (Zk L (⟨q, (Zz (⟨q, x.cl, x.seq, x.h, t, 0, 0⟩ : Z5))⟩ : Signed)) (⟨q, (Zz (⟨q, x.cl, x.seq, x.h, t, 0, 0⟩ : Z5))⟩ : Signed))), (Z1N a31 (Zz (⟨q, x.cl, x.seq, x.h, t, 0, 0⟩ : Z5)) c32)]) H55 [0, 1, 10] [2, 3, 4, 5, 6, 7, 8, 9] (by decide) (by kernel_rfl) rfl T61).pk [0, 1, 3, 4, 5, 6, 7, 8, 9, 10, 2]
 refine ⟨_, rfl, ?_⟩
 have S63 := H62.pk [2, 3, 4, 5, 6, 7, 8, 9]
 refine kq _ _ S63 ?_
 clear kq Kq
 refine hv0 8 S63 32 (.bool (!(decide (q = q ∧ (Zu (Zk L (⟨q, (Zz (⟨q, x.cl, x.seq, x.h, t, 0, 0⟩ : Z5))⟩ : Signed)) (⟨q, (Zz (⟨q, x.cl, x.seq, x.h, t, 0, 0⟩ : Z5))⟩ : Signed)) = (Zu (Zk L (⟨q, (Zz (⟨q, x.cl, x.seq, x.h, t, q, Zu (Zk L (⟨q, (Zz (⟨q, x.cl, x.seq, x.h, t, 0, 0⟩ : Z5))⟩ : Signed)) (⟨q, (Zz (⟨q, x.cl, x.seq, x.h, t, 0, 0⟩ : Z5))⟩ : Signed)⟩ : Z5))⟩ : Signed)) (⟨q, (Zz (⟨q, x.cl, x.seq, x.h, t, q, Zu (Zk L (⟨q, (Zz (⟨q, x.cl, x.seq, x.h, t, 0, 0⟩ : Z5))⟩ : Signed)) (⟨q, (Zz (⟨q, x.cl, x.seq, x.h, t, 0, 0⟩ : Z5))⟩ : Signed)⟩ : Z5))⟩ : Signed)))))) ?_ (he := fun _ H' => (Zb5 q (Zu (Zk L (⟨q, (Zz (⟨q, x.cl, x.seq, x.h, t, 0, 0⟩ : Z5))⟩ : Signed)) (⟨q, (Zz (⟨q, x.cl, x.seq, x.h, t, 0, 0⟩ : Z5))⟩ : Signed)) q (Zu (Zk L (⟨q, (Zz (⟨q, x.cl, x.seq, x.h, t, q, Zu (Zk L (⟨q, (Zz (⟨q, x.cl, x.seq, x.h, t, 0, 0⟩ : Z5))⟩ : Signed)) (⟨q, (Zz (⟨q, x.cl, x.seq, x.h, t, 0, 0⟩ : Z5))⟩ : Signed)⟩ : Z5))⟩ : Signed)) (⟨q, (Zz (⟨q, x.cl, x.seq, x.h, t, q, Zu (Zk L (⟨q, (Zz (⟨q, x.cl, x.seq, x.h, t, 0, 0⟩ : Z5))⟩ : Signed)) (⟨q, (Zz (⟨q, x.cl, x.seq, x.h, t, 0, 0⟩ : Z5))⟩ : Signed)⟩ : Z5))⟩ : Signed)) rfl rfl))
 refine zhf ?_
 apply ztn
 have b64 : (!(decide (q = q ∧ (Zu (Zk L (⟨q, (Zz (⟨q, x.cl, x.seq, x.h, t, 0, 0⟩ : Z5))⟩ : Signed)) (⟨q, (Zz (⟨q, x.cl, x.seq, x.h, t, 0, 0⟩ : Z5))⟩ : Signed)) = (Zu (Zk L (⟨q, (Zz (⟨q, x.cl, x.seq, x.h, t, q, Zu (Zk L (⟨q, (Zz (⟨q, x.cl, x.seq, x.h, t, 0, 0⟩ : Z5))⟩ : Signed)) (⟨q, (Zz (⟨q, x.cl, x.seq, x.h, t, 0, 0⟩ : Z5))⟩ : Signed)⟩ : Z5))⟩ : Signed)) (⟨q, (Zz (⟨q, x.cl, x.seq, x.h, t, q, Zu (Zk L (⟨q, (Zz (⟨q, x.cl, x.seq, x.h, t, 0, 0⟩ : Z5))⟩ : Signed)) (⟨q, (Zz (⟨q, x.cl, x.seq, x.h, t, 0, 0⟩ : Z5))⟩ : Signed)⟩ : Z5))⟩ : Signed))))) = false := by rw [decide_eq_true ⟨rfl, rfl⟩]; rfl
 have g65 := Za b64
 refine Z18 _ b64 ?_
 apply ZL
 apply ztn
 apply zsl
 refine zwN 35 (Z28 q x t (Zu (Zk L (⟨q, (Zz (⟨q, x.cl, x.seq, x.h, t, 0, 0⟩ : Z5))⟩ : Signed)) (⟨q, (Zz (⟨q, x.cl, x.seq, x.h, t, 0, 0⟩ : Z5))⟩ : Signed))) (H62.at 8 rfl) ?_
 refine zwd fun Kq kq => ?_
 refine Z2k (Z28 q x t (Zu (Zk L (⟨q, (Zz (⟨q, x.cl, x.seq, x.h, t, 0, 0⟩ : Z5))⟩ : Signed)) (⟨q, (Zz (⟨q, x.cl, x.seq, x.h, t, 0, 0⟩ : Z5))⟩ : Signed))) H62 7 ?_
 intro w67 H68
 refine kq _ _ ?_
 clear kq Kq
 apply znt
 apply ZA
 refine Z6E rfl (Z0i (vs := (Z28 q x t (Zu (Zk L (⟨q, (Zz (⟨q, x.cl, x.seq, x.h, t, 0, 0⟩ : Z5))⟩ : Signed)) (⟨q, (Zz (⟨q, x.cl, x.seq, x.h, t, 0, 0⟩ : Z5))⟩ : Signed)))) rfl (by kernel_rfl) (by kernel_rfl) (by exact Nat.le_of_ble_eq_true (by kernel_rfl)) (H68.at 7 rfl) (by kernel_rfl)) ?_
 exact ⟨a37, c38, rfl, H68.pk [0, 1, 2, 3, 4]⟩
end Go.Proofs.YtoaifondpohniaaGreat
