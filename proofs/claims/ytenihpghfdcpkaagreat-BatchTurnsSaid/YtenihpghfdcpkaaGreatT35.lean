/- WHAT IS PROVED: contracts and plain laws of Bk10. Conditions: stated with each. -/
import Derived.Test.YtenihpghfdcpkaaGreatT05
import Derived.Test.YtenihpghfdcpkaaGreatT08
import Derived.Test.YtenihpghfdcpkaaGreatT10
import Derived.Test.YtenihpghfdcpkaaGreatT12
import Derived.Test.YtenihpghfdcpkaaGreatT15
import Derived.Test.YtenihpghfdcpkaaGreatT30
set_option maxHeartbeats 4000000
set_option maxRecDepth 100000
namespace Go.Proofs.YtenihpghfdcpkaaGreat
open Go.RowKit
abbrev kBk10_0 (p0 : Option Addr) (p1 : Nat) (p2 : Nat) : List Value := ([(.slice p0 p1 p2)] : List Value)
abbrev kBk10_1 (p0 : Option Addr) (p1 : List Signed) (p2 : Nat) : Ck := rowC 181 2 (.slice p0 p1.length p2) p1.length (p1.flatMap encS)
abbrev kBk10_2 (p0 : Int) (p1 : Int) : List Value := ([(.int .i64 p0), (.int .i64 p1)] : List Value)
abbrev kBk10_3 : List Value := ([(.int .i64 (0)), (.int .i64 (0))] : List Value) ++ hc hash0 ++ ([(.int .i64 (0)), (.int .i64 (0)), (.int .i64 (0))] : List Value)
abbrev kBk10_4 (p0 : Int) (p1 : Int) (p2 : Hash) (p3 : Int) : List Value := ([(.int .i64 p0), (.int .i64 p1)] : List Value) ++ hc p2 ++ ([(.int .i64 p3), (.int .i64 (0)), (.int .i64 (0))] : List Value)
abbrev kBk10_5 (p0 : Option Addr) (p1 : List UInt8) (p2 : Nat) : Ck := rowC 5 1 (.slice p0 p1.length p2) p1.length (p1.flatMap encB)
abbrev kBk10_6 (p0 : Int) (p1 : Int) (p2 : Hash) (p3 : Int) (p4 : Int) (p5 : Int) : List Value := ([(.int .i64 p0), (.int .i64 p1)] : List Value) ++ hc p2 ++ ([(.int .i64 p3), (.int .i64 p4), (.int .i64 p5)] : List Value)
abbrev kBk10_7 (p0 : Nat) : List Value := ([(.map (some p0))] : List Value)
abbrev kBk10_8 (p0 : Nat) (p1 : List Signed) : Ck := mapC p0 signedV (Value.int .i64) (marks p1)
abbrev kBk10_9 (p0 : Nat) (p1 : Nat) : List Value := ([(pt p0 0), (pt p1 0)] : List Value)
abbrev kBk10_10 (p0 : CommitD) : List Value := ([(.int .i64 p0.cl), (.int .i64 p0.seq)] : List Value) ++ hc p0.h ++ ([(.int .i64 p0.len), (.int .i64 p0.sb), (.int .i64 p0.sm)] : List Value)
abbrev kBk10_11 (p0 : CommitD) (p1 : Int) (p2 : Int) : List Value := ([(.int .i64 p0.cl), (.int .i64 p0.seq)] : List Value) ++ hc p0.h ++ ([(.int .i64 p0.len), (.int .i64 p1), (.int .i64 p2)] : List Value)
abbrev kBk10_12 : List Value := ([(.int .i64 (0)), (.int .i64 (0)), (.int .i64 (0))] : List Value) ++ hc hash0 ++ ([(.int .u64 (0)), (.int .i64 (0)), (.int .i64 (0))] : List Value)
abbrev kBk10_13 (p0 : Int) (p1 : CommitD) (p2 : Int) : List Value := ([(.int .i64 p0), (.int .i64 p1.cl), (.int .i64 p1.seq)] : List Value) ++ hc p1.h ++ ([(.int .u64 p2), (.int .i64 (0)), (.int .i64 (0))] : List Value)
abbrev kBk10_14 (p0 : Int) (p1 : CommitD) (p2 : Int) (p3 : Int) : List Value := ([(.int .i64 p0), (.int .i64 p1.cl), (.int .i64 p1.seq)] : List Value) ++ hc p1.h ++ ([(.int .u64 p2), (.int .i64 p0), (.int .i64 p3)] : List Value)
theorem e_neqSig {n : Nat} {f : Nat → Value} {w : World} {dst : Option Tmp} {ty : TypeId} {pos : String} {aft : Array Edge} {gd : Option (Nat × Bool)} {x y : Operand} {T : TypeId} (a b c d : Int) (hx : ev n f x = .agg ⟨[.int .i64 a, .int .i64 b]⟩) (hy : ev n f y = .agg ⟨[.int .i64 c, .int .i64 d]⟩) :
  (execOp (ev n f) ⟨dst, .binOp .neq 69 x y T, ty, pos, aft, gd⟩).run Tryz.prog w = .ok (.value (.bool (!decide (a = c ∧ b = d)))) w := by
 simp only [execOp, hx, hy]
 simp [go_sem]
 by_cases h1 : a = c <;> by_cases h2 : b = d <;> simp_all
def mkC0 (cl seq : Int) (x : Hash) (p : List UInt8) : CommitD := ⟨cl, seq, shaR (ofT cl seq x p), p.length, 0, 0⟩
def yC (cl seq : Int) (x : Hash) (p : List UInt8) : Signed := ⟨1000 + cl, commitB (mkC0 cl seq x p)⟩
def mkC (L : List Signed) (cl seq : Int) (x : Hash) (p : List UInt8) : CommitD := ⟨cl, seq, shaR (ofT cl seq x p), p.length, 1000 + cl, markOf (signL L (yC cl seq x p)) (yC cl seq x p)⟩
def mkS0 (q : Int) (x : CommitD) (t : Int) : StampD := ⟨q, x.cl, x.seq, x.h, t, 0, 0⟩
def yS (q : Int) (x : CommitD) (t : Int) : Signed := ⟨q, stampB (mkS0 q x t)⟩
def mkS (L : List Signed) (q : Int) (x : CommitD) (t : Int) : StampD := ⟨q, x.cl, x.seq, x.h, t, q, markOf (signL L (yS q x t)) (yS q x t)⟩
def rb2 (r : Nat) (a : Option Addr) (c : Nat) (L : List Signed) : List Ck := [cellC r 165 [.slice a (L).length c], rowC 181 2 (.slice a (L).length c) (L).length ((L).flatMap encS)]
def bothL (b mb r : Nat) (a : Option Addr) (c : Nat) (L : List Signed) : List Ck := [cellC b 179 [.map (some mb)], mapC mb signedV (Value.int .i64) (marks L), cellC r 165 [.slice a (L).length c], rowC 181 2 (.slice a (L).length c) (L).length ((L).flatMap encS)]
theorem rb2_both {b mb r : Nat} {a : Option Addr} {c : Nat} {L : List Signed} (k : Nat) (h : (sepC (rb2 r a c L)).fp k) : (sepC (bothL b mb r a c L)).fp k := by
 obtain ⟨A, hA, hk⟩ := h
 exact ⟨A, List.mem_cons_of_mem _ (List.mem_cons_of_mem _ hA), hk⟩
theorem rMakeC_any (w : World) (r : Nat) (a : Option Addr) (c : Nat) (L : List Signed) (hB : (sepC (rb2 r a c L)).ok w) (cl seq : Int) (x : Hash) (pa : Option Addr) (pc : Nat) (p : List UInt8) (hp : ListAt encB 1 w (.slice pa p.length pc) p) (hoff : 0 < p.length → ∀ ad, pa = some ad → ¬ (sepC (rb2 r a c L)).fp ad.block) (hlp : p.length ≤ 1000) (hcl : 0 ≤ cl ∧ cl ≤ 1000000) (hsq : seq ≤ 9223372036854775807) (hL : L.length ≤ 100000) (hn : L.Nodup) :
  Calls Tryz.prog 83 #[(.pointer (some ⟨r, 0, none⟩)), (.agg ⟨([(.int .i64 (cl)), (.int .i64 (seq))] : List Value)⟩), (.agg ⟨(hc x)⟩), (.slice pa p.length pc)] w fun e w' => ∃ a' c', e = .returned (.agg ⟨encCo (mkC L cl seq x p)⟩) ∧ Sat w [cellC r 165 [.slice a' (signL L (yC cl seq x p)).length c'], rowC 181 2 (.slice a' (signL L (yC cl seq x p)).length c') (signL L (yC cl seq x p)).length ((signL L (yC cl seq x p)).flatMap encS), restC w (sepC (rb2 r a c L)).fp] w' := by
 have hL0 : (1000 + cl) ≤ 9223372036854775807 := by omega
 have H := Sat.start (rb2 r a c L) hB
 refine calls_fr Tryz.func83 rfl 27 rfl (Nat.le_of_ble_eq_true rfl) ?_
 apply zsl
 refine zwd fun Kq kq => ?_
 refine zdb (kBk10_2 cl seq) H ?_
 intro b2 w3 (H4 : Sat w [cellC r 165 (kBk10_0 a L.length c), (kBk10_1 a L c), restC w (sepC (rb2 r a c L)).fp, cellC b2 59 (kBk10_2 cl seq)] w3)
 refine kq _ _ ?_
 clear kq Kq
 refine zwd fun Kq kq => ?_
 refine zdb (hc x) H4 ?_
 intro b6 w7 H8
 refine kq _ _ ?_
 clear kq Kq
 refine zwd fun Kq kq => ?_
 refine zda (kBk10_3) H8 ?_
 intro b10 w11 (H12 : Sat w [cellC r 165 (kBk10_0 a L.length c), (kBk10_1 a L c), restC w (sepC (rb2 r a c L)).fp, cellC b2 59 (kBk10_2 cl seq), cellC b6 61 (hc x), cellC b10 73 (kBk10_3)] w11)
 refine kq _ _ ?_
 clear kq Kq
 apply znt
 apply w_seq
 refine h_start H12 [cellC r 165 (kBk10_0 a L.length c), (kBk10_1 a L c), restC w (sepC (rb2 r a c L)).fp, cellC b2 59 (kBk10_2 cl seq), cellC b6 61 (hc x), cellC b10 73 (kBk10_3)] 10 rfl (by kernel_rfl) (fun Hx => (Hx.pk [0, 1, 2, 3, 4, 5])) ?_
 intro w13 H14 S15
 refine hv0 0 S15 10 (.agg ⟨(kBk10_2 cl seq)⟩) ?_ (he := fun _ H' => (e_loadN (vs := (kBk10_2 cl seq)) rfl (by kernel_rfl) (by kernel_rfl) (by exact Nat.le_of_ble_eq_true (by kernel_rfl)) (H'.at 3 rfl) (by kernel_rfl)))
 refine hv0 1 S15 11 (.agg ⟨(kBk10_2 cl seq)⟩) ?_ (he := fun _ H' => (e_loadN (vs := (kBk10_2 cl seq)) rfl (by kernel_rfl) (by kernel_rfl) (by exact Nat.le_of_ble_eq_true (by kernel_rfl)) (H'.at 3 rfl) (by kernel_rfl)))
 refine hv0 2 S15 12 (.agg ⟨(hc x)⟩) ?_ (he := fun _ H' => (e_loadN (vs := (hc x)) rfl (by kernel_rfl) (by kernel_rfl) (by exact Nat.le_of_ble_eq_true (by kernel_rfl)) (H'.at 4 rfl) (by kernel_rfl)))
 refine hv0 3 S15 13 (.slice pa p.length pc) ?_
 refine hv0 5 S15 15 (.slice pa p.length pc) ?_
 refine h_val 6 rfl (by kernel_rfl) (by kernel_rfl) (by kernel_rfl) (fun _ _ _ h => h) S15 (wants0 rfl) (d := 16) (v := (.int .i64 ((p.length : Int)))) rfl (fun _ H' => (by kernel_rfl)) ?_
 refine h_do2 4 8 rfl rfl (by kernel_rfl) (wants0 rfl) (wants0 rfl) (fun Kq kq => ?_) (fun Kq kq => ?_)
 ·refine zdq 14 (rOf_any w13 cl seq x pa pc p (ListAt.nowD H14 2 rfl hp hoff) (by omega) (by omega) hlp) H14 ?_
  intro w17 H18
  have S20 := H18.pk [0, 1, 2, 3, 4, 5]
  refine kq _ _ S20 ?_
  clear kq Kq
  refine h_val 7 rfl (by kernel_rfl) (by kernel_rfl) (by kernel_rfl) (fun _ _ _ h => h) S20 (wants0 rfl) (d := 17) (v := (.agg ⟨(kBk10_4 cl seq (shaR (ofT cl seq x p)) ((p.length : Int)))⟩)) rfl (fun _ H' => (by kernel_rfl)) ?_
  refine zhd0 8 fun Kq kq => ?_
  refine zda (kBk10_3) H18 ?_
  intro b22 w23 H24
  have S25 := H24.pk [0, 1, 2, 3, 4, 5]
  refine kq _ _ S25 ?_
  clear kq Kq
  refine zhd0 9 fun Kq kq => ?_
  refine zds1 (kBk10_4 cl seq (shaR (ofT cl seq x p)) ((p.length : Int))) H24 6 ?_
  intro w27 (H28 : Sat w [cellC r 165 (kBk10_0 a L.length c), (kBk10_1 a L c), restC w (sepC (rb2 r a c L)).fp, cellC b2 59 (kBk10_2 cl seq), cellC b6 61 (hc x), cellC b10 73 (kBk10_3), cellC b22 73 (kBk10_4 cl seq (shaR (ofT cl seq x p)) ((p.length : Int)))] w27)
  have S30 := H28.pk [0, 1, 2, 3, 4, 5]
  refine kq _ _ S30 ?_
  clear kq Kq
  refine zhf ?_
  apply ztn
  apply w_seq
  refine k_start H28 [restC w (sepC (rb2 r a c L)).fp, cellC b2 59 (kBk10_2 cl seq), cellC b6 61 (hc x), cellC b10 73 (kBk10_3), cellC b22 73 (kBk10_4 cl seq (shaR (ofT cl seq x p)) ((p.length : Int)))] [8] 9 rfl (by kernel_rfl) (fun Hx => (Hx.pk [2, 3, 4, 5, 6])) ?_
  intro w31 H32 S33
  refine zkp 0 S33 18 (pt r 0) ?_
  refine zkp 1 S33 19 (pt b2 0) ?_
  refine zkv 2 S33 20 (.int .i64 (cl)) ?_ (he := fun _ H' => (e_load1 rfl (by kernel_rfl) (H'.cell 1 rfl rfl)))
  refine zkp 3 S33 21 (.int .i64 (1000 + cl)) ?_ (he := fun _ => (e_int (z := 1000 + cl) (by kernel_rfl) (IntWalk.i64_in _ (by omega))))
  refine zkv 4 S33 22 (.agg ⟨(kBk10_4 cl seq (shaR (ofT cl seq x p)) ((p.length : Int)))⟩) ?_ (he := fun _ H' => (e_loadN (vs := (kBk10_4 cl seq (shaR (ofT cl seq x p)) ((p.length : Int)))) rfl (by kernel_rfl) (by kernel_rfl) (by exact Nat.le_of_ble_eq_true (by kernel_rfl)) (H'.at 4 rfl) (by kernel_rfl)))
  refine zkd0 5 fun Kq kq => ?_
  refine zdc 23 (rCommitText_any w31 (⟨cl, seq, (shaR (ofT cl seq x p)), (p.length : Int), 0, 0⟩ : CommitD) ⟨by show cl ≤ _; omega, hsq, by show (p.length : Int) ≤ _; omega⟩) ?_
  rintro _ w35 ⟨u36, rfl, k37, p38, q39⟩
  have H40 := H32.addU p38 k37 q39
  obtain ⟨a41, c42, rfl⟩ := ownsRow_shape (H40.at 7 rfl)
  refine ⟨_, rfl, ?_⟩
  have S43 := H40.pk [2, 3, 4, 5, 6]
  refine kq _ _ S43 ?_
  clear kq Kq
  refine zkd0 6 fun Kq kq => ?_
  refine zdc 24 (rbSign_any w35 r a c L (.slice a41 ((commitB (⟨cl, seq, (shaR (ofT cl seq x p)), (p.length : Int), 0, 0⟩ : CommitD)).length) c42) (commitB (⟨cl, seq, (shaR (ofT cl seq x p)), (p.length : Int), 0, 0⟩ : CommitD)) (H40.fn [0, 1, 7]) (by omega) hn (1000 + cl)) ?_
  rintro _ w45 ⟨a47, c48, rfl, T46⟩
  have H49 : Sat w [cellC r 165 (kBk10_0 a47 ((signL L (⟨1000 + cl, (commitB (⟨cl, seq, (shaR (ofT cl seq x p)), (p.length : Int), 0, 0⟩ : CommitD))⟩ : Signed)).length) c48), (kBk10_1 a47 (signL L (⟨1000 + cl, (commitB (⟨cl, seq, (shaR (ofT cl seq x p)), (p.length : Int), 0, 0⟩ : CommitD))⟩ : Signed)) c48), restC w (sepC (rb2 r a c L)).fp, cellC b2 59 (kBk10_2 cl seq), cellC b6 61 (hc x), cellC b10 73 (kBk10_3), cellC b22 73 (kBk10_4 cl seq (shaR (ofT cl seq x p)) ((p.length : Int))), (kBk10_5 a41 (commitB (⟨cl, seq, (shaR (ofT cl seq x p)), (p.length : Int), 0, 0⟩ : CommitD)) c42)] w45 := (Sat.turnL (L' := [cellC r 165 (kBk10_0 a47 ((signL L (⟨1000 + cl, (commitB (⟨cl, seq, (shaR (ofT cl seq x p)), (p.length : Int), 0, 0⟩ : CommitD))⟩ : Signed)).length) c48), (kBk10_1 a47 (signL L (⟨1000 + cl, (commitB (⟨cl, seq, (shaR (ofT cl seq x p)), (p.length : Int), 0, 0⟩ : CommitD))⟩ : Signed)) c48), (kBk10_5 a41 (commitB (⟨cl, seq, (shaR (ofT cl seq x p)), (p.length : Int), 0, 0⟩ : CommitD)) c42)]) (R := [restC w (sepC (rb2 r a c L)).fp, cellC b2 59 (kBk10_2 cl seq), cellC b6 61 (hc x), cellC b10 73 (kBk10_3), cellC b22 73 (kBk10_4 cl seq (shaR (ofT cl seq x p)) ((p.length : Int)))]) H40 [0, 1, 7] [2, 3, 4, 5, 6] (by decide) (by kernel_rfl) rfl T46).pk [0, 1, 3, 4, 5, 6, 7, 2]
  refine ⟨_, rfl, ?_⟩
  have S50 := H49.pk [2, 3, 4, 5, 6]
  refine kq _ _ S50 ?_
  clear kq Kq
  refine zkp 7 S50 25 (pt b22 35) ?_
  refine k_brk 8 (Sat w [restC w (sepC (rb2 r a c L)).fp, cellC b2 59 (kBk10_2 cl seq), cellC b6 61 (hc x), cellC b10 73 (kBk10_3)]) rfl (by kernel_rfl) (wants0 rfl) rfl (fun Kq kq => ?_)
  refine zds (kBk10_2 (1000 + cl) (markOf (signL L (⟨1000 + cl, (commitB (⟨cl, seq, (shaR (ofT cl seq x p)), (p.length : Int), 0, 0⟩ : CommitD))⟩ : Signed)) (⟨1000 + cl, (commitB (⟨cl, seq, (shaR (ofT cl seq x p)), (p.length : Int), 0, 0⟩ : CommitD))⟩ : Signed))) (kBk10_6 cl seq (shaR (ofT cl seq x p)) ((p.length : Int)) (1000 + cl) (markOf (signL L (⟨1000 + cl, (commitB (⟨cl, seq, (shaR (ofT cl seq x p)), (p.length : Int), 0, 0⟩ : CommitD))⟩ : Signed)) (⟨1000 + cl, (commitB (⟨cl, seq, (shaR (ofT cl seq x p)), (p.length : Int), 0, 0⟩ : CommitD))⟩ : Signed))) H49 6 ?_
  intro w52 H53
  have S55 := H53.pk [2, 3, 4, 5]
  refine kq _ _ S55 ?_
  clear kq Kq
  refine zhf ?_
  apply ztn
  apply zsl
  refine zwN 26 (kBk10_6 cl seq (shaR (ofT cl seq x p)) ((p.length : Int)) (1000 + cl) (markOf (signL L (⟨1000 + cl, (commitB (⟨cl, seq, (shaR (ofT cl seq x p)), (p.length : Int), 0, 0⟩ : CommitD))⟩ : Signed)) (⟨1000 + cl, (commitB (⟨cl, seq, (shaR (ofT cl seq x p)), (p.length : Int), 0, 0⟩ : CommitD))⟩ : Signed))) (H53.at 6 rfl) ?_
  refine zwd fun Kq kq => ?_
  refine zds1 (kBk10_6 cl seq (shaR (ofT cl seq x p)) ((p.length : Int)) (1000 + cl) (markOf (signL L (⟨1000 + cl, (commitB (⟨cl, seq, (shaR (ofT cl seq x p)), (p.length : Int), 0, 0⟩ : CommitD))⟩ : Signed)) (⟨1000 + cl, (commitB (⟨cl, seq, (shaR (ofT cl seq x p)), (p.length : Int), 0, 0⟩ : CommitD))⟩ : Signed))) H53 5 ?_
  intro w57 (H58 : Sat w [cellC r 165 (kBk10_0 a47 ((signL L (⟨1000 + cl, (commitB (⟨cl, seq, (shaR (ofT cl seq x p)), (p.length : Int), 0, 0⟩ : CommitD))⟩ : Signed)).length) c48), (kBk10_1 a47 (signL L (⟨1000 + cl, (commitB (⟨cl, seq, (shaR (ofT cl seq x p)), (p.length : Int), 0, 0⟩ : CommitD))⟩ : Signed)) c48), restC w (sepC (rb2 r a c L)).fp, cellC b2 59 (kBk10_2 cl seq), cellC b6 61 (hc x), cellC b10 73 (kBk10_6 cl seq (shaR (ofT cl seq x p)) ((p.length : Int)) (1000 + cl) (markOf (signL L (⟨1000 + cl, (commitB (⟨cl, seq, (shaR (ofT cl seq x p)), (p.length : Int), 0, 0⟩ : CommitD))⟩ : Signed)) (⟨1000 + cl, (commitB (⟨cl, seq, (shaR (ofT cl seq x p)), (p.length : Int), 0, 0⟩ : CommitD))⟩ : Signed))), cellC b22 73 (kBk10_6 cl seq (shaR (ofT cl seq x p)) ((p.length : Int)) (1000 + cl) (markOf (signL L (⟨1000 + cl, (commitB (⟨cl, seq, (shaR (ofT cl seq x p)), (p.length : Int), 0, 0⟩ : CommitD))⟩ : Signed)) (⟨1000 + cl, (commitB (⟨cl, seq, (shaR (ofT cl seq x p)), (p.length : Int), 0, 0⟩ : CommitD))⟩ : Signed))), (kBk10_5 a41 (commitB (⟨cl, seq, (shaR (ofT cl seq x p)), (p.length : Int), 0, 0⟩ : CommitD)) c42)] w57)
  refine kq _ _ ?_
  clear kq Kq
  apply znt
  apply w_ret
  refine end1 rfl (res_cellN (vs := (kBk10_6 cl seq (shaR (ofT cl seq x p)) ((p.length : Int)) (1000 + cl) (markOf (signL L (⟨1000 + cl, (commitB (⟨cl, seq, (shaR (ofT cl seq x p)), (p.length : Int), 0, 0⟩ : CommitD))⟩ : Signed)) (⟨1000 + cl, (commitB (⟨cl, seq, (shaR (ofT cl seq x p)), (p.length : Int), 0, 0⟩ : CommitD))⟩ : Signed)))) rfl (by kernel_rfl) (by kernel_rfl) (by exact Nat.le_of_ble_eq_true (by kernel_rfl)) (H58.at 5 rfl) (by kernel_rfl)) ?_
  exact ⟨a47, c48, rfl, H58.pk [0, 1, 2]⟩
 refine zda (kBk10_3) H14 ?_
 intro b60 w61 H62
 have S63 := H62.pk [0, 1, 2, 3, 4, 5]
 refine kq _ _ S63 ?_
 clear kq Kq
 refine zhd0 4 fun Kq kq => ?_
 refine zdq 14 (rOf_any w61 cl seq x pa pc p (ListAt.nowD H62 2 rfl hp hoff) (by omega) (by omega) hlp) H62 ?_
 intro w65 H66
 have S68 := H66.pk [0, 1, 2, 3, 4, 5]
 refine kq _ _ S68 ?_
 clear kq Kq
 refine h_val 7 rfl (by kernel_rfl) (by kernel_rfl) (by kernel_rfl) (fun _ _ _ h => h) S68 (wants0 rfl) (d := 17) (v := (.agg ⟨(kBk10_4 cl seq (shaR (ofT cl seq x p)) ((p.length : Int)))⟩)) rfl (fun _ H' => (by kernel_rfl)) ?_
 refine zhd0 9 fun Kq kq => ?_
 refine zds1 (kBk10_4 cl seq (shaR (ofT cl seq x p)) ((p.length : Int))) H66 6 ?_
 intro w70 (H71 : Sat w [cellC r 165 (kBk10_0 a L.length c), (kBk10_1 a L c), restC w (sepC (rb2 r a c L)).fp, cellC b2 59 (kBk10_2 cl seq), cellC b6 61 (hc x), cellC b10 73 (kBk10_3), cellC b60 73 (kBk10_4 cl seq (shaR (ofT cl seq x p)) ((p.length : Int)))] w70)
 have S73 := H71.pk [0, 1, 2, 3, 4, 5]
 refine kq _ _ S73 ?_
 clear kq Kq
 refine zhf ?_
 apply ztn
 apply w_seq
 refine k_start H71 [restC w (sepC (rb2 r a c L)).fp, cellC b2 59 (kBk10_2 cl seq), cellC b6 61 (hc x), cellC b10 73 (kBk10_3), cellC b60 73 (kBk10_4 cl seq (shaR (ofT cl seq x p)) ((p.length : Int)))] [8] 9 rfl (by kernel_rfl) (fun Hx => (Hx.pk [2, 3, 4, 5, 6])) ?_
 intro w74 H75 S76
 refine zkp 0 S76 18 (pt r 0) ?_
 refine zkp 1 S76 19 (pt b2 0) ?_
 refine zkv 2 S76 20 (.int .i64 (cl)) ?_ (he := fun _ H' => (e_load1 rfl (by kernel_rfl) (H'.cell 1 rfl rfl)))
 refine zkp 3 S76 21 (.int .i64 (1000 + cl)) ?_ (he := fun _ => (e_int (z := 1000 + cl) (by kernel_rfl) (IntWalk.i64_in _ (by omega))))
 refine zkv 4 S76 22 (.agg ⟨(kBk10_4 cl seq (shaR (ofT cl seq x p)) ((p.length : Int)))⟩) ?_ (he := fun _ H' => (e_loadN (vs := (kBk10_4 cl seq (shaR (ofT cl seq x p)) ((p.length : Int)))) rfl (by kernel_rfl) (by kernel_rfl) (by exact Nat.le_of_ble_eq_true (by kernel_rfl)) (H'.at 4 rfl) (by kernel_rfl)))
 refine zkd0 5 fun Kq kq => ?_
 refine zdc 23 (rCommitText_any w74 (⟨cl, seq, (shaR (ofT cl seq x p)), (p.length : Int), 0, 0⟩ : CommitD) ⟨by show cl ≤ _; omega, hsq, by show (p.length : Int) ≤ _; omega⟩) ?_
 rintro _ w78 ⟨u79, rfl, k80, p81, q82⟩
 have H83 := H75.addU p81 k80 q82
 obtain ⟨a84, c85, rfl⟩ := ownsRow_shape (H83.at 7 rfl)
 refine ⟨_, rfl, ?_⟩
 have S86 := H83.pk [2, 3, 4, 5, 6]
 refine kq _ _ S86 ?_
 clear kq Kq
 refine zkd0 6 fun Kq kq => ?_
 refine zdc 24 (rbSign_any w78 r a c L (.slice a84 ((commitB (⟨cl, seq, (shaR (ofT cl seq x p)), (p.length : Int), 0, 0⟩ : CommitD)).length) c85) (commitB (⟨cl, seq, (shaR (ofT cl seq x p)), (p.length : Int), 0, 0⟩ : CommitD)) (H83.fn [0, 1, 7]) (by omega) hn (1000 + cl)) ?_
 rintro _ w88 ⟨a90, c91, rfl, T89⟩
 have H92 : Sat w [cellC r 165 (kBk10_0 a90 ((signL L (⟨1000 + cl, (commitB (⟨cl, seq, (shaR (ofT cl seq x p)), (p.length : Int), 0, 0⟩ : CommitD))⟩ : Signed)).length) c91), (kBk10_1 a90 (signL L (⟨1000 + cl, (commitB (⟨cl, seq, (shaR (ofT cl seq x p)), (p.length : Int), 0, 0⟩ : CommitD))⟩ : Signed)) c91), restC w (sepC (rb2 r a c L)).fp, cellC b2 59 (kBk10_2 cl seq), cellC b6 61 (hc x), cellC b10 73 (kBk10_3), cellC b60 73 (kBk10_4 cl seq (shaR (ofT cl seq x p)) ((p.length : Int))), (kBk10_5 a84 (commitB (⟨cl, seq, (shaR (ofT cl seq x p)), (p.length : Int), 0, 0⟩ : CommitD)) c85)] w88 := (Sat.turnL (L' := [cellC r 165 (kBk10_0 a90 ((signL L (⟨1000 + cl, (commitB (⟨cl, seq, (shaR (ofT cl seq x p)), (p.length : Int), 0, 0⟩ : CommitD))⟩ : Signed)).length) c91), (kBk10_1 a90 (signL L (⟨1000 + cl, (commitB (⟨cl, seq, (shaR (ofT cl seq x p)), (p.length : Int), 0, 0⟩ : CommitD))⟩ : Signed)) c91), (kBk10_5 a84 (commitB (⟨cl, seq, (shaR (ofT cl seq x p)), (p.length : Int), 0, 0⟩ : CommitD)) c85)]) (R := [restC w (sepC (rb2 r a c L)).fp, cellC b2 59 (kBk10_2 cl seq), cellC b6 61 (hc x), cellC b10 73 (kBk10_3), cellC b60 73 (kBk10_4 cl seq (shaR (ofT cl seq x p)) ((p.length : Int)))]) H83 [0, 1, 7] [2, 3, 4, 5, 6] (by decide) (by kernel_rfl) rfl T89).pk [0, 1, 3, 4, 5, 6, 7, 2]
 refine ⟨_, rfl, ?_⟩
 have S93 := H92.pk [2, 3, 4, 5, 6]
 refine kq _ _ S93 ?_
 clear kq Kq
 refine zkp 7 S93 25 (pt b60 35) ?_
 refine k_brk 8 (Sat w [restC w (sepC (rb2 r a c L)).fp, cellC b2 59 (kBk10_2 cl seq), cellC b6 61 (hc x), cellC b10 73 (kBk10_3)]) rfl (by kernel_rfl) (wants0 rfl) rfl (fun Kq kq => ?_)
 refine zds (kBk10_2 (1000 + cl) (markOf (signL L (⟨1000 + cl, (commitB (⟨cl, seq, (shaR (ofT cl seq x p)), (p.length : Int), 0, 0⟩ : CommitD))⟩ : Signed)) (⟨1000 + cl, (commitB (⟨cl, seq, (shaR (ofT cl seq x p)), (p.length : Int), 0, 0⟩ : CommitD))⟩ : Signed))) (kBk10_6 cl seq (shaR (ofT cl seq x p)) ((p.length : Int)) (1000 + cl) (markOf (signL L (⟨1000 + cl, (commitB (⟨cl, seq, (shaR (ofT cl seq x p)), (p.length : Int), 0, 0⟩ : CommitD))⟩ : Signed)) (⟨1000 + cl, (commitB (⟨cl, seq, (shaR (ofT cl seq x p)), (p.length : Int), 0, 0⟩ : CommitD))⟩ : Signed))) H92 6 ?_
 intro w95 H96
 have S98 := H96.pk [2, 3, 4, 5]
 refine kq _ _ S98 ?_
 clear kq Kq
 refine zhf ?_
 apply ztn
 apply zsl
 refine zwN 26 (kBk10_6 cl seq (shaR (ofT cl seq x p)) ((p.length : Int)) (1000 + cl) (markOf (signL L (⟨1000 + cl, (commitB (⟨cl, seq, (shaR (ofT cl seq x p)), (p.length : Int), 0, 0⟩ : CommitD))⟩ : Signed)) (⟨1000 + cl, (commitB (⟨cl, seq, (shaR (ofT cl seq x p)), (p.length : Int), 0, 0⟩ : CommitD))⟩ : Signed))) (H96.at 6 rfl) ?_
 refine zwd fun Kq kq => ?_
 refine zds1 (kBk10_6 cl seq (shaR (ofT cl seq x p)) ((p.length : Int)) (1000 + cl) (markOf (signL L (⟨1000 + cl, (commitB (⟨cl, seq, (shaR (ofT cl seq x p)), (p.length : Int), 0, 0⟩ : CommitD))⟩ : Signed)) (⟨1000 + cl, (commitB (⟨cl, seq, (shaR (ofT cl seq x p)), (p.length : Int), 0, 0⟩ : CommitD))⟩ : Signed))) H96 5 ?_
 intro w100 (H101 : Sat w [cellC r 165 (kBk10_0 a90 ((signL L (⟨1000 + cl, (commitB (⟨cl, seq, (shaR (ofT cl seq x p)), (p.length : Int), 0, 0⟩ : CommitD))⟩ : Signed)).length) c91), (kBk10_1 a90 (signL L (⟨1000 + cl, (commitB (⟨cl, seq, (shaR (ofT cl seq x p)), (p.length : Int), 0, 0⟩ : CommitD))⟩ : Signed)) c91), restC w (sepC (rb2 r a c L)).fp, cellC b2 59 (kBk10_2 cl seq), cellC b6 61 (hc x), cellC b10 73 (kBk10_6 cl seq (shaR (ofT cl seq x p)) ((p.length : Int)) (1000 + cl) (markOf (signL L (⟨1000 + cl, (commitB (⟨cl, seq, (shaR (ofT cl seq x p)), (p.length : Int), 0, 0⟩ : CommitD))⟩ : Signed)) (⟨1000 + cl, (commitB (⟨cl, seq, (shaR (ofT cl seq x p)), (p.length : Int), 0, 0⟩ : CommitD))⟩ : Signed))), cellC b60 73 (kBk10_6 cl seq (shaR (ofT cl seq x p)) ((p.length : Int)) (1000 + cl) (markOf (signL L (⟨1000 + cl, (commitB (⟨cl, seq, (shaR (ofT cl seq x p)), (p.length : Int), 0, 0⟩ : CommitD))⟩ : Signed)) (⟨1000 + cl, (commitB (⟨cl, seq, (shaR (ofT cl seq x p)), (p.length : Int), 0, 0⟩ : CommitD))⟩ : Signed))), (kBk10_5 a84 (commitB (⟨cl, seq, (shaR (ofT cl seq x p)), (p.length : Int), 0, 0⟩ : CommitD)) c85)] w100)
 refine kq _ _ ?_
 clear kq Kq
 apply znt
 apply w_ret
 refine end1 rfl (res_cellN (vs := (kBk10_6 cl seq (shaR (ofT cl seq x p)) ((p.length : Int)) (1000 + cl) (markOf (signL L (⟨1000 + cl, (commitB (⟨cl, seq, (shaR (ofT cl seq x p)), (p.length : Int), 0, 0⟩ : CommitD))⟩ : Signed)) (⟨1000 + cl, (commitB (⟨cl, seq, (shaR (ofT cl seq x p)), (p.length : Int), 0, 0⟩ : CommitD))⟩ : Signed)))) rfl (by kernel_rfl) (by kernel_rfl) (by exact Nat.le_of_ble_eq_true (by kernel_rfl)) (H101.at 5 rfl) (by kernel_rfl)) ?_
 exact ⟨a90, c91, rfl, H101.pk [0, 1, 2]⟩
theorem bkCommit_any (w : World) (b mb r : Nat) (a : Option Addr) (c : Nat) (L : List Signed) (hB : (sepC (bothL b mb r a c L)).ok w) (cl seq : Int) (pa : Option Addr) (pc : Nat) (p : List UInt8) (hp : ListAt encB 1 w (.slice pa p.length pc) p) (hoff : 0 < p.length → ∀ ad, pa = some ad → ¬ (sepC (bothL b mb r a c L)).fp ad.block) (hlp : p.length ≤ 1000) (hcl : 0 ≤ cl ∧ cl ≤ 1000000) (hsq : seq ≤ 9223372036854775807) (hL : L.length ≤ 100000) (hn : L.Nodup) :
  Calls Tryz.prog 33 #[(.agg ⟨([(.pointer (some ⟨b, 0, none⟩)), (.pointer (some ⟨r, 0, none⟩))] : List Value)⟩), (.agg ⟨([(.int .i64 (cl)), (.int .i64 (seq))] : List Value)⟩), (.slice pa p.length pc)] w fun e w' => ∃ a' c', e = .returned (.agg ⟨encCo (mkC L cl seq hash0 p)⟩) ∧ Sat w [cellC b 179 [.map (some mb)], mapC mb signedV (Value.int .i64) (marks (signL L (yC cl seq hash0 p))), cellC r 165 [.slice a' (signL L (yC cl seq hash0 p)).length c'], rowC 181 2 (.slice a' (signL L (yC cl seq hash0 p)).length c') (signL L (yC cl seq hash0 p)).length ((signL L (yC cl seq hash0 p)).flatMap encS), restC w (sepC (bothL b mb r a c L)).fp] w' := by
 have hL0 : (1000 + cl) ≤ 9223372036854775807 := by omega
 have H := Sat.start (bothL b mb r a c L) hB
 refine calls_fr Tryz.func33 rfl 24 rfl (Nat.le_of_ble_eq_true rfl) ?_
 apply zsl
 refine zwd fun Kq kq => ?_
 refine zdb (kBk10_9 b r) H ?_
 intro b2 w3 (H4 : Sat w [cellC b 179 (kBk10_7 mb), (kBk10_8 mb L), cellC r 165 (kBk10_0 a L.length c), (kBk10_1 a L c), restC w (sepC (bothL b mb r a c L)).fp, cellC b2 33 (kBk10_9 b r)] w3)
 refine kq _ _ ?_
 clear kq Kq
 refine zwd fun Kq kq => ?_
 refine zdb (kBk10_2 cl seq) H4 ?_
 intro b6 w7 H8
 refine kq _ _ ?_
 clear kq Kq
 refine zwd fun Kq kq => ?_
 refine zda (kBk10_3) H8 ?_
 intro b10 w11 (H12 : Sat w [cellC b 179 (kBk10_7 mb), (kBk10_8 mb L), cellC r 165 (kBk10_0 a L.length c), (kBk10_1 a L c), restC w (sepC (bothL b mb r a c L)).fp, cellC b2 33 (kBk10_9 b r), cellC b6 59 (kBk10_2 cl seq), cellC b10 73 (kBk10_3)] w11)
 refine kq _ _ ?_
 clear kq Kq
 apply znsl
 refine wv 8 (pt b2 1) ?_
 refine zw1 9 (pt r 0) (H12.cell 5 rfl rfl) ?_
 refine zwN 10 (kBk10_2 cl seq) (H12.at 6 rfl) ?_
 refine wv 11 (.agg ⟨(hc hash0)⟩) ?_
 refine wv 12 (.slice pa p.length pc) ?_
 refine zwd fun Kq kq => ?_
 refine zdc 13 (rMakeC_any w11 r a c L (H12.fn [2, 3]) cl seq hash0 pa pc p (ListAt.nowD H12 4 rfl hp hoff) (fun h0 ad ha hf => hoff h0 ad ha (rb2_both ad.block hf)) hlp (by omega) hsq hL hn) ?_
 rintro _ w14 ⟨a16, c17, rfl, T15⟩
 have H18 := H12.tl [cellC r 165 (kBk10_0 a16 ((signL L (yC cl seq hash0 p)).length) c17), (kBk10_1 a16 (signL L (yC cl seq hash0 p)) c17)] [2, 3] [0, 1, 4, 5, 6, 7] T15 [2, 3, 0, 1, 4, 5, 6, 7]
 refine ⟨_, rfl, ?_⟩
 refine kq _ _ ?_
 clear kq Kq
 refine zwd fun Kq kq => ?_
 refine zda (kBk10_3) H18 ?_
 intro b20 w21 (H22 : Sat w [cellC b 179 (kBk10_7 mb), (kBk10_8 mb L), cellC r 165 (kBk10_0 a16 ((signL L (yC cl seq hash0 p)).length) c17), (kBk10_1 a16 (signL L (yC cl seq hash0 p)) c17), restC w (sepC (bothL b mb r a c L)).fp, cellC b2 33 (kBk10_9 b r), cellC b6 59 (kBk10_2 cl seq), cellC b10 73 (kBk10_3), cellC b20 73 (kBk10_3)] w21)
 refine kq _ _ ?_
 clear kq Kq
 refine zwd fun Kq kq => ?_
 refine zds1 (kBk10_10 (mkC L cl seq hash0 p)) H22 8 ?_
 intro w24 H25
 refine kq _ _ ?_
 clear kq Kq
 apply znt
 apply w_seq
 refine k_start H25 [cellC r 165 (kBk10_0 a16 ((signL L (yC cl seq hash0 p)).length) c17), (kBk10_1 a16 (signL L (yC cl seq hash0 p)) c17), restC w (sepC (bothL b mb r a c L)).fp, cellC b2 33 (kBk10_9 b r), cellC b6 59 (kBk10_2 cl seq), cellC b10 73 (kBk10_3), cellC b20 73 (kBk10_10 (mkC L cl seq hash0 p))] [9] 10 rfl (by kernel_rfl) (fun Hx => (Hx.pk [2, 3, 4, 5, 6, 7, 8])) ?_
 intro w27 H28 S29
 refine zkp 0 S29 14 (pt b2 0) ?_
 refine zkv 1 S29 15 (pt b 0) ?_ (he := fun _ H' => (e_load1 rfl (by kernel_rfl) (H'.cell 3 rfl rfl)))
 refine zkp 2 S29 16 (pt b6 0) ?_
 refine zkv 3 S29 17 (.int .i64 (cl)) ?_ (he := fun _ H' => (e_load1 rfl (by kernel_rfl) (H'.cell 4 rfl rfl)))
 refine zkp 4 S29 18 (.int .i64 (1000 + cl)) ?_ (he := fun _ => (e_int (z := 1000 + cl) (by kernel_rfl) (IntWalk.i64_in _ (by omega))))
 refine zkv 5 S29 19 (.agg ⟨(kBk10_10 (mkC L cl seq hash0 p))⟩) ?_ (he := fun _ H' => (e_loadN (vs := (kBk10_10 (mkC L cl seq hash0 p))) rfl (by kernel_rfl) (by kernel_rfl) (by exact Nat.le_of_ble_eq_true (by kernel_rfl)) (H'.at 6 rfl) (by kernel_rfl)))
 refine zkd0 6 fun Kq kq => ?_
 refine zdc 20 (rCommitText_any w27 (mkC L cl seq hash0 p) ⟨by show cl ≤ _; omega, hsq, by show (p.length : Int) ≤ _; omega⟩) ?_
 rintro _ w31 ⟨u32, rfl, k33, p34, q35⟩
 have H36 : Sat w [cellC b 179 (kBk10_7 mb), (kBk10_8 mb L), cellC r 165 (kBk10_0 a16 ((signL L (yC cl seq hash0 p)).length) c17), (kBk10_1 a16 (signL L (yC cl seq hash0 p)) c17), restC w (sepC (bothL b mb r a c L)).fp, cellC b2 33 (kBk10_9 b r), cellC b6 59 (kBk10_2 cl seq), cellC b10 73 (kBk10_3), cellC b20 73 (kBk10_10 (mkC L cl seq hash0 p)), rowC 5 1 u32 ((commitB (mkC L cl seq hash0 p)).length) ((commitB (mkC L cl seq hash0 p)).flatMap encB)] w31 := H28.addU p34 k33 q35
 obtain ⟨a37, c38, rfl⟩ := ownsRow_shape (H36.at 9 rfl)
 refine ⟨_, rfl, ?_⟩
 have S39 := H36.pk [2, 3, 4, 5, 6, 7, 8]
 refine kq _ _ S39 ?_
 clear kq Kq
 refine zkd0 7 fun Kq kq => ?_
 refine zdc 21 (pSign_any w31 b mb L (.slice a37 ((commitB (mkC L cl seq hash0 p)).length) c38) (commitB (mkC L cl seq hash0 p)) (H36.fn [0, 1, 9]) (by omega) (1000 + cl)) ?_
 rintro _ w41 ⟨rfl, T42⟩
 have H43 := H36.tl [cellC b 179 (kBk10_7 mb), (kBk10_8 mb (signL L (⟨1000 + cl, (commitB (mkC L cl seq hash0 p))⟩ : Signed))), (kBk10_5 a37 (commitB (mkC L cl seq hash0 p)) c38)] [0, 1, 9] [2, 3, 4, 5, 6, 7, 8] T42 [0, 1, 3, 4, 5, 6, 7, 8, 9, 2]
 refine ⟨_, rfl, ?_⟩
 have S44 := H43.pk [2, 3, 4, 5, 6, 7, 8]
 refine kq _ _ S44 ?_
 clear kq Kq
 refine zkp 8 S44 22 (pt b20 35) ?_
 refine k_brk 9 (Sat w [cellC r 165 (kBk10_0 a16 ((signL L (yC cl seq hash0 p)).length) c17), (kBk10_1 a16 (signL L (yC cl seq hash0 p)) c17), restC w (sepC (bothL b mb r a c L)).fp, cellC b2 33 (kBk10_9 b r), cellC b6 59 (kBk10_2 cl seq), cellC b10 73 (kBk10_3)]) rfl (by kernel_rfl) (wants0 rfl) rfl (fun Kq kq => ?_)
 refine zds (kBk10_2 (1000 + cl) (markOf (signL L (⟨1000 + cl, (commitB (mkC L cl seq hash0 p))⟩ : Signed)) (⟨1000 + cl, (commitB (mkC L cl seq hash0 p))⟩ : Signed))) (kBk10_11 (mkC L cl seq hash0 p) (1000 + cl) (markOf (signL L (⟨1000 + cl, (commitB (mkC L cl seq hash0 p))⟩ : Signed)) (⟨1000 + cl, (commitB (mkC L cl seq hash0 p))⟩ : Signed))) H43 8 ?_
 intro w46 (H47 : Sat w [cellC b 179 (kBk10_7 mb), (kBk10_8 mb (signL L (⟨1000 + cl, (commitB (mkC L cl seq hash0 p))⟩ : Signed))), cellC r 165 (kBk10_0 a16 ((signL L (yC cl seq hash0 p)).length) c17), (kBk10_1 a16 (signL L (yC cl seq hash0 p)) c17), restC w (sepC (bothL b mb r a c L)).fp, cellC b2 33 (kBk10_9 b r), cellC b6 59 (kBk10_2 cl seq), cellC b10 73 (kBk10_3), cellC b20 73 (kBk10_11 (mkC L cl seq hash0 p) (1000 + cl) (markOf (signL L (⟨1000 + cl, (commitB (mkC L cl seq hash0 p))⟩ : Signed)) (⟨1000 + cl, (commitB (mkC L cl seq hash0 p))⟩ : Signed))), (kBk10_5 a37 (commitB (mkC L cl seq hash0 p)) c38)] w46)
 have S49 := H47.pk [2, 3, 4, 5, 6, 7]
 refine kq _ _ S49 ?_
 clear kq Kq
 refine zhf ?_
 apply ztn
 apply zsl
 refine zwN 23 (kBk10_11 (mkC L cl seq hash0 p) (1000 + cl) (markOf (signL L (⟨1000 + cl, (commitB (mkC L cl seq hash0 p))⟩ : Signed)) (⟨1000 + cl, (commitB (mkC L cl seq hash0 p))⟩ : Signed))) (H47.at 8 rfl) ?_
 refine zwd fun Kq kq => ?_
 refine zds1 (kBk10_11 (mkC L cl seq hash0 p) (1000 + cl) (markOf (signL L (⟨1000 + cl, (commitB (mkC L cl seq hash0 p))⟩ : Signed)) (⟨1000 + cl, (commitB (mkC L cl seq hash0 p))⟩ : Signed))) H47 7 ?_
 intro w51 H52
 refine kq _ _ ?_
 clear kq Kq
 apply znt
 apply w_ret
 refine end1 rfl (res_cellN (vs := (kBk10_11 (mkC L cl seq hash0 p) (1000 + cl) (markOf (signL L (⟨1000 + cl, (commitB (mkC L cl seq hash0 p))⟩ : Signed)) (⟨1000 + cl, (commitB (mkC L cl seq hash0 p))⟩ : Signed)))) rfl (by kernel_rfl) (by kernel_rfl) (by exact Nat.le_of_ble_eq_true (by kernel_rfl)) (H52.at 7 rfl) (by kernel_rfl)) ?_
 exact ⟨a16, c17, rfl, H52.pk [0, 1, 2, 3, 4]⟩
theorem bkStamp_any (w : World) (b mb r : Nat) (a : Option Addr) (c : Nat) (L : List Signed) (hB : (sepC (bothL b mb r a c L)).ok w) (q : Int) (x : CommitD) (t : Int) (hr : q ≤ 9223372036854775807) (hx : CoOk x) (ht : 0 ≤ t ∧ t < 18446744073709551616) (hL : L.length ≤ 100000) (hn : L.Nodup) :
  Calls Tryz.prog 82 #[(.agg ⟨([(.pointer (some ⟨b, 0, none⟩)), (.pointer (some ⟨r, 0, none⟩))] : List Value)⟩), (.int .i64 (q)), (.agg ⟨(([(.int .i64 (x.cl)), (.int .i64 (x.seq))] : List Value) ++ hc x.h ++ ([(.int .i64 (x.len)), (.int .i64 (x.sb)), (.int .i64 (x.sm))] : List Value))⟩), (.int .u64 (t))] w fun e w' => ∃ a' c', e = .returned (.agg ⟨encSt (mkS L q x t)⟩) ∧ Sat w [cellC b 179 [.map (some mb)], mapC mb signedV (Value.int .i64) (marks (signL L (yS q x t))), cellC r 165 [.slice a' (signL L (yS q x t)).length c'], rowC 181 2 (.slice a' (signL L (yS q x t)).length c') (signL L (yS q x t)).length ((signL L (yS q x t)).flatMap encS), restC w (sepC (bothL b mb r a c L)).fp] w' := by
 have H : Sat w [cellC b 179 (kBk10_7 mb), (kBk10_8 mb L), cellC r 165 (kBk10_0 a L.length c), (kBk10_1 a L c), restC w (sepC (bothL b mb r a c L)).fp] w := Sat.start (bothL b mb r a c L) hB
 refine calls_fr Tryz.func82 rfl 36 rfl (Nat.le_of_ble_eq_true rfl) ?_
 apply zsl
 refine zwd fun Kq kq => ?_
 refine zdb (kBk10_9 b r) H ?_
 intro b2 w3 H4
 refine kq _ _ ?_
 clear kq Kq
 refine zwd fun Kq kq => ?_
 refine zdb (kBk10_10 x) H4 ?_
 intro b6 w7 (H8 : Sat w [cellC b 179 (kBk10_7 mb), (kBk10_8 mb L), cellC r 165 (kBk10_0 a L.length c), (kBk10_1 a L c), restC w (sepC (bothL b mb r a c L)).fp, cellC b2 33 (kBk10_9 b r), cellC b6 73 (kBk10_10 x)] w7)
 refine kq _ _ ?_
 clear kq Kq
 refine zwd fun Kq kq => ?_
 refine zda (kBk10_12) H8 ?_
 intro b10 w11 H12
 refine kq _ _ ?_
 clear kq Kq
 apply znsl
 refine wv 10 (.int .i64 (q)) ?_
 refine wv 11 (pt b6 0) ?_
 refine zwN 12 (kBk10_2 x.cl x.seq) (H12.at 6 rfl) ?_
 refine wv 13 (pt b6 2) ?_
 refine zwN 14 (hc x.h) (H12.at 6 rfl) ?_
 refine wv 15 (.int .u64 (t)) ?_
 refine wv 16 (.agg ⟨(kBk10_13 q x t)⟩) ?_
 refine zwd fun Kq kq => ?_
 refine zda (kBk10_12) H12 ?_
 intro b14 w15 (H16 : Sat w [cellC b 179 (kBk10_7 mb), (kBk10_8 mb L), cellC r 165 (kBk10_0 a L.length c), (kBk10_1 a L c), restC w (sepC (bothL b mb r a c L)).fp, cellC b2 33 (kBk10_9 b r), cellC b6 73 (kBk10_10 x), cellC b10 149 (kBk10_12), cellC b14 149 (kBk10_12)] w15)
 refine kq _ _ ?_
 clear kq Kq
 refine zwd fun Kq kq => ?_
 refine zds1 (kBk10_13 q x t) H16 8 ?_
 intro w18 H19
 refine kq _ _ ?_
 clear kq Kq
 apply znt
 apply w_seq
 refine k_start H19 [cellC b 179 (kBk10_7 mb), (kBk10_8 mb L), restC w (sepC (bothL b mb r a c L)).fp, cellC b2 33 (kBk10_9 b r), cellC b6 73 (kBk10_10 x), cellC b10 149 (kBk10_12), cellC b14 149 (kBk10_13 q x t)] [7] 8 rfl (by kernel_rfl) (fun Hx => (Hx.pk [0, 1, 4, 5, 6, 7, 8])) ?_
 intro w21 H22 S23
 refine zkp 0 S23 17 (pt b2 1) ?_
 refine zkv 1 S23 18 (pt r 0) ?_ (he := fun _ H' => (e_load1 rfl (by kernel_rfl) (H'.cell 3 rfl rfl)))
 refine zkp 2 S23 19 (.int .i64 (q)) ?_
 refine zkv 3 S23 20 (.agg ⟨(kBk10_13 q x t)⟩) ?_ (he := fun _ H' => (e_loadN (vs := (kBk10_13 q x t)) rfl (by kernel_rfl) (by kernel_rfl) (by exact Nat.le_of_ble_eq_true (by kernel_rfl)) (H'.at 6 rfl) (by kernel_rfl)))
 refine zkd0 4 fun Kq kq => ?_
 refine zdc 21 (rStampText_any w21 (⟨q, x.cl, x.seq, x.h, t, 0, 0⟩ : StampD) ⟨hr, hx.1, hx.2.1, ht.1, ht.2⟩) ?_
 rintro _ w25 ⟨u26, rfl, k27, p28, q29⟩
 have H30 : Sat w [cellC b 179 (kBk10_7 mb), (kBk10_8 mb L), cellC r 165 (kBk10_0 a L.length c), (kBk10_1 a L c), restC w (sepC (bothL b mb r a c L)).fp, cellC b2 33 (kBk10_9 b r), cellC b6 73 (kBk10_10 x), cellC b10 149 (kBk10_12), cellC b14 149 (kBk10_13 q x t), rowC 5 1 u26 ((stampB (⟨q, x.cl, x.seq, x.h, t, 0, 0⟩ : StampD)).length) ((stampB (⟨q, x.cl, x.seq, x.h, t, 0, 0⟩ : StampD)).flatMap encB)] w25 := H22.addU p28 k27 q29
 obtain ⟨a31, c32, rfl⟩ := ownsRow_shape (H30.at 9 rfl)
 refine ⟨_, rfl, ?_⟩
 have S33 := H30.pk [0, 1, 4, 5, 6, 7, 8]
 refine kq _ _ S33 ?_
 clear kq Kq
 refine zkd0 5 fun Kq kq => ?_
 refine zdc 22 (rbSign_any w25 r a c L (.slice a31 ((stampB (⟨q, x.cl, x.seq, x.h, t, 0, 0⟩ : StampD)).length) c32) (stampB (⟨q, x.cl, x.seq, x.h, t, 0, 0⟩ : StampD)) (H30.fn [2, 3, 9]) (by omega) hn q) ?_
 rintro _ w35 ⟨a37, c38, rfl, T36⟩
 have H39 := H30.tl [cellC r 165 (kBk10_0 a37 ((signL L (⟨q, (stampB (⟨q, x.cl, x.seq, x.h, t, 0, 0⟩ : StampD))⟩ : Signed)).length) c38), (kBk10_1 a37 (signL L (⟨q, (stampB (⟨q, x.cl, x.seq, x.h, t, 0, 0⟩ : StampD))⟩ : Signed)) c38), (kBk10_5 a31 (stampB (⟨q, x.cl, x.seq, x.h, t, 0, 0⟩ : StampD)) c32)] [2, 3, 9] [0, 1, 4, 5, 6, 7, 8] T36 [3, 4, 0, 1, 5, 6, 7, 8, 9, 2]
 refine ⟨_, rfl, ?_⟩
 have S40 := H39.pk [0, 1, 4, 5, 6, 7, 8]
 refine kq _ _ S40 ?_
 clear kq Kq
 refine zkp 6 S40 23 (pt b14 36) ?_
 refine k_brk 7 (Sat w [cellC b 179 (kBk10_7 mb), (kBk10_8 mb L), restC w (sepC (bothL b mb r a c L)).fp, cellC b2 33 (kBk10_9 b r), cellC b6 73 (kBk10_10 x), cellC b10 149 (kBk10_12)]) rfl (by kernel_rfl) (wants0 rfl) rfl (fun Kq kq => ?_)
 refine zds (kBk10_2 q (markOf (signL L (⟨q, (stampB (⟨q, x.cl, x.seq, x.h, t, 0, 0⟩ : StampD))⟩ : Signed)) (⟨q, (stampB (⟨q, x.cl, x.seq, x.h, t, 0, 0⟩ : StampD))⟩ : Signed))) (kBk10_14 q x t (markOf (signL L (⟨q, (stampB (⟨q, x.cl, x.seq, x.h, t, 0, 0⟩ : StampD))⟩ : Signed)) (⟨q, (stampB (⟨q, x.cl, x.seq, x.h, t, 0, 0⟩ : StampD))⟩ : Signed))) H39 8 ?_
 intro w42 (H43 : Sat w [cellC b 179 (kBk10_7 mb), (kBk10_8 mb L), cellC r 165 (kBk10_0 a37 ((signL L (⟨q, (stampB (⟨q, x.cl, x.seq, x.h, t, 0, 0⟩ : StampD))⟩ : Signed)).length) c38), (kBk10_1 a37 (signL L (⟨q, (stampB (⟨q, x.cl, x.seq, x.h, t, 0, 0⟩ : StampD))⟩ : Signed)) c38), restC w (sepC (bothL b mb r a c L)).fp, cellC b2 33 (kBk10_9 b r), cellC b6 73 (kBk10_10 x), cellC b10 149 (kBk10_12), cellC b14 149 (kBk10_14 q x t (markOf (signL L (⟨q, (stampB (⟨q, x.cl, x.seq, x.h, t, 0, 0⟩ : StampD))⟩ : Signed)) (⟨q, (stampB (⟨q, x.cl, x.seq, x.h, t, 0, 0⟩ : StampD))⟩ : Signed))), (kBk10_5 a31 (stampB (⟨q, x.cl, x.seq, x.h, t, 0, 0⟩ : StampD)) c32)] w42)
 have S45 := H43.pk [0, 1, 4, 5, 6, 7]
 refine kq _ _ S45 ?_
 clear kq Kq
 refine zhf ?_
 apply ztn
 apply w_seq
 apply w_seq
 refine h_start H43 [cellC r 165 (kBk10_0 a37 ((signL L (⟨q, (stampB (⟨q, x.cl, x.seq, x.h, t, 0, 0⟩ : StampD))⟩ : Signed)).length) c38), (kBk10_1 a37 (signL L (⟨q, (stampB (⟨q, x.cl, x.seq, x.h, t, 0, 0⟩ : StampD))⟩ : Signed)) c38), restC w (sepC (bothL b mb r a c L)).fp, cellC b2 33 (kBk10_9 b r), cellC b6 73 (kBk10_10 x), cellC b10 149 (kBk10_12), cellC b14 149 (kBk10_14 q x t (markOf (signL L (⟨q, (stampB (⟨q, x.cl, x.seq, x.h, t, 0, 0⟩ : StampD))⟩ : Signed)) (⟨q, (stampB (⟨q, x.cl, x.seq, x.h, t, 0, 0⟩ : StampD))⟩ : Signed))), (kBk10_5 a31 (stampB (⟨q, x.cl, x.seq, x.h, t, 0, 0⟩ : StampD)) c32)] 9 rfl (by kernel_rfl) (fun Hx => (Hx.pk [2, 3, 4, 5, 6, 7, 8, 9])) ?_
 intro w46 H47 S48
 refine hv0 0 S48 24 (pt b14 36) ?_
 refine hv0 1 S48 25 (.agg ⟨(kBk10_2 q (markOf (signL L (⟨q, (stampB (⟨q, x.cl, x.seq, x.h, t, 0, 0⟩ : StampD))⟩ : Signed)) (⟨q, (stampB (⟨q, x.cl, x.seq, x.h, t, 0, 0⟩ : StampD))⟩ : Signed)))⟩) ?_ (he := fun _ H' => (e_loadN (vs := (kBk10_2 q (markOf (signL L (⟨q, (stampB (⟨q, x.cl, x.seq, x.h, t, 0, 0⟩ : StampD))⟩ : Signed)) (⟨q, (stampB (⟨q, x.cl, x.seq, x.h, t, 0, 0⟩ : StampD))⟩ : Signed)))) rfl (by kernel_rfl) (by kernel_rfl) (by exact Nat.le_of_ble_eq_true (by kernel_rfl)) (H'.at 6 rfl) (by kernel_rfl)))
 refine hv0 2 S48 26 (pt b2 0) ?_
 refine hv0 3 S48 27 (pt b 0) ?_ (he := fun _ H' => (e_load1 rfl (by kernel_rfl) (H'.cell 3 rfl rfl)))
 refine hv0 4 S48 28 (.int .i64 (q)) ?_
 refine hv0 5 S48 29 (.agg ⟨(kBk10_14 q x t (markOf (signL L (⟨q, (stampB (⟨q, x.cl, x.seq, x.h, t, 0, 0⟩ : StampD))⟩ : Signed)) (⟨q, (stampB (⟨q, x.cl, x.seq, x.h, t, 0, 0⟩ : StampD))⟩ : Signed)))⟩) ?_ (he := fun _ H' => (e_loadN (vs := (kBk10_14 q x t (markOf (signL L (⟨q, (stampB (⟨q, x.cl, x.seq, x.h, t, 0, 0⟩ : StampD))⟩ : Signed)) (⟨q, (stampB (⟨q, x.cl, x.seq, x.h, t, 0, 0⟩ : StampD))⟩ : Signed)))) rfl (by kernel_rfl) (by kernel_rfl) (by exact Nat.le_of_ble_eq_true (by kernel_rfl)) (H'.at 6 rfl) (by kernel_rfl)))
 refine zhd0 6 fun Kq kq => ?_
 refine zdc 30 (rStampText_any w46 (⟨q, x.cl, x.seq, x.h, t, q, markOf (signL L (⟨q, (stampB (⟨q, x.cl, x.seq, x.h, t, 0, 0⟩ : StampD))⟩ : Signed)) (⟨q, (stampB (⟨q, x.cl, x.seq, x.h, t, 0, 0⟩ : StampD))⟩ : Signed)⟩ : StampD) ⟨hr, hx.1, hx.2.1, ht.1, ht.2⟩) ?_
 rintro _ w50 ⟨u51, rfl, k52, p53, q54⟩
 have H55 := H47.addU p53 k52 q54
 obtain ⟨a56, c57, rfl⟩ := ownsRow_shape (H55.at 10 rfl)
 refine ⟨_, rfl, ?_⟩
 have S58 := H55.pk [2, 3, 4, 5, 6, 7, 8, 9]
 refine kq _ _ S58 ?_
 clear kq Kq
 refine zhd0 7 fun Kq kq => ?_
 refine zdc 31 (pSign_any w50 b mb L (.slice a56 ((stampB (⟨q, x.cl, x.seq, x.h, t, q, markOf (signL L (⟨q, (stampB (⟨q, x.cl, x.seq, x.h, t, 0, 0⟩ : StampD))⟩ : Signed)) (⟨q, (stampB (⟨q, x.cl, x.seq, x.h, t, 0, 0⟩ : StampD))⟩ : Signed)⟩ : StampD)).length) c57) (stampB (⟨q, x.cl, x.seq, x.h, t, q, markOf (signL L (⟨q, (stampB (⟨q, x.cl, x.seq, x.h, t, 0, 0⟩ : StampD))⟩ : Signed)) (⟨q, (stampB (⟨q, x.cl, x.seq, x.h, t, 0, 0⟩ : StampD))⟩ : Signed)⟩ : StampD)) (H55.fn [0, 1, 10]) (by omega) q) ?_
 rintro _ w60 ⟨rfl, T61⟩
 have H62 : Sat w [cellC b 179 (kBk10_7 mb), (kBk10_8 mb (signL L (⟨q, (stampB (⟨q, x.cl, x.seq, x.h, t, q, markOf (signL L (⟨q, (stampB (⟨q, x.cl, x.seq, x.h, t, 0, 0⟩ : StampD))⟩ : Signed)) (⟨q, (stampB (⟨q, x.cl, x.seq, x.h, t, 0, 0⟩ : StampD))⟩ : Signed)⟩ : StampD))⟩ : Signed))), cellC r 165 (kBk10_0 a37 ((signL L (⟨q, (stampB (⟨q, x.cl, x.seq, x.h, t, 0, 0⟩ : StampD))⟩ : Signed)).length) c38), (kBk10_1 a37 (signL L (⟨q, (stampB (⟨q, x.cl, x.seq, x.h, t, 0, 0⟩ : StampD))⟩ : Signed)) c38), restC w (sepC (bothL b mb r a c L)).fp, cellC b2 33 (kBk10_9 b r), cellC b6 73 (kBk10_10 x), cellC b10 149 (kBk10_12), cellC b14 149 (kBk10_14 q x t (markOf (signL L (⟨q, (stampB (⟨q, x.cl, x.seq, x.h, t, 0, 0⟩ : StampD))⟩ : Signed)) (⟨q, (stampB (⟨q, x.cl, x.seq, x.h, t, 0, 0⟩ : StampD))⟩ : Signed))), (kBk10_5 a31 (stampB (⟨q, x.cl, x.seq, x.h, t, 0, 0⟩ : StampD)) c32), (kBk10_5 a56 (stampB (⟨q, x.cl, x.seq, x.h, t, q, markOf (signL L (⟨q, (stampB (⟨q, x.cl, x.seq, x.h, t, 0, 0⟩ : StampD))⟩ : Signed)) (⟨q, (stampB (⟨q, x.cl, x.seq, x.h, t, 0, 0⟩ : StampD))⟩ : Signed)⟩ : StampD)) c57)] w60 := (Sat.turnL (L' := [cellC b 179 (kBk10_7 mb), (kBk10_8 mb (signL L (⟨q, (stampB (⟨q, x.cl, x.seq, x.h, t, q, markOf (signL L (⟨q, (stampB (⟨q, x.cl, x.seq, x.h, t, 0, 0⟩ : StampD))⟩ : Signed)) (⟨q, (stampB (⟨q, x.cl, x.seq, x.h, t, 0, 0⟩ : StampD))⟩ : Signed)⟩ : StampD))⟩ : Signed))), (kBk10_5 a56 (stampB (⟨q, x.cl, x.seq, x.h, t, q, markOf (signL L (⟨q, (stampB (⟨q, x.cl, x.seq, x.h, t, 0, 0⟩ : StampD))⟩ : Signed)) (⟨q, (stampB (⟨q, x.cl, x.seq, x.h, t, 0, 0⟩ : StampD))⟩ : Signed)⟩ : StampD)) c57)]) (R := [cellC r 165 (kBk10_0 a37 ((signL L (⟨q, (stampB (⟨q, x.cl, x.seq, x.h, t, 0, 0⟩ : StampD))⟩ : Signed)).length) c38), (kBk10_1 a37 (signL L (⟨q, (stampB (⟨q, x.cl, x.seq, x.h, t, 0, 0⟩ : StampD))⟩ : Signed)) c38), restC w (sepC (bothL b mb r a c L)).fp, cellC b2 33 (kBk10_9 b r), cellC b6 73 (kBk10_10 x), cellC b10 149 (kBk10_12), cellC b14 149 (kBk10_14 q x t (markOf (signL L (⟨q, (stampB (⟨q, x.cl, x.seq, x.h, t, 0, 0⟩ : StampD))⟩ : Signed)) (⟨q, (stampB (⟨q, x.cl, x.seq, x.h, t, 0, 0⟩ : StampD))⟩ : Signed))), (kBk10_5 a31 (stampB (⟨q, x.cl, x.seq, x.h, t, 0, 0⟩ : StampD)) c32)]) H55 [0, 1, 10] [2, 3, 4, 5, 6, 7, 8, 9] (by decide) (by kernel_rfl) rfl T61).pk [0, 1, 3, 4, 5, 6, 7, 8, 9, 10, 2]
 refine ⟨_, rfl, ?_⟩
 have S63 := H62.pk [2, 3, 4, 5, 6, 7, 8, 9]
 refine kq _ _ S63 ?_
 clear kq Kq
 refine hv0 8 S63 32 (.bool (!(decide (q = q ∧ (markOf (signL L (⟨q, (stampB (⟨q, x.cl, x.seq, x.h, t, 0, 0⟩ : StampD))⟩ : Signed)) (⟨q, (stampB (⟨q, x.cl, x.seq, x.h, t, 0, 0⟩ : StampD))⟩ : Signed)) = (markOf (signL L (⟨q, (stampB (⟨q, x.cl, x.seq, x.h, t, q, markOf (signL L (⟨q, (stampB (⟨q, x.cl, x.seq, x.h, t, 0, 0⟩ : StampD))⟩ : Signed)) (⟨q, (stampB (⟨q, x.cl, x.seq, x.h, t, 0, 0⟩ : StampD))⟩ : Signed)⟩ : StampD))⟩ : Signed)) (⟨q, (stampB (⟨q, x.cl, x.seq, x.h, t, q, markOf (signL L (⟨q, (stampB (⟨q, x.cl, x.seq, x.h, t, 0, 0⟩ : StampD))⟩ : Signed)) (⟨q, (stampB (⟨q, x.cl, x.seq, x.h, t, 0, 0⟩ : StampD))⟩ : Signed)⟩ : StampD))⟩ : Signed)))))) ?_ (he := fun _ H' => (e_neqSig q (markOf (signL L (⟨q, (stampB (⟨q, x.cl, x.seq, x.h, t, 0, 0⟩ : StampD))⟩ : Signed)) (⟨q, (stampB (⟨q, x.cl, x.seq, x.h, t, 0, 0⟩ : StampD))⟩ : Signed)) q (markOf (signL L (⟨q, (stampB (⟨q, x.cl, x.seq, x.h, t, q, markOf (signL L (⟨q, (stampB (⟨q, x.cl, x.seq, x.h, t, 0, 0⟩ : StampD))⟩ : Signed)) (⟨q, (stampB (⟨q, x.cl, x.seq, x.h, t, 0, 0⟩ : StampD))⟩ : Signed)⟩ : StampD))⟩ : Signed)) (⟨q, (stampB (⟨q, x.cl, x.seq, x.h, t, q, markOf (signL L (⟨q, (stampB (⟨q, x.cl, x.seq, x.h, t, 0, 0⟩ : StampD))⟩ : Signed)) (⟨q, (stampB (⟨q, x.cl, x.seq, x.h, t, 0, 0⟩ : StampD))⟩ : Signed)⟩ : StampD))⟩ : Signed)) rfl rfl))
 refine zhf ?_
 apply ztn
 have b64 : (!(decide (q = q ∧ (markOf (signL L (⟨q, (stampB (⟨q, x.cl, x.seq, x.h, t, 0, 0⟩ : StampD))⟩ : Signed)) (⟨q, (stampB (⟨q, x.cl, x.seq, x.h, t, 0, 0⟩ : StampD))⟩ : Signed)) = (markOf (signL L (⟨q, (stampB (⟨q, x.cl, x.seq, x.h, t, q, markOf (signL L (⟨q, (stampB (⟨q, x.cl, x.seq, x.h, t, 0, 0⟩ : StampD))⟩ : Signed)) (⟨q, (stampB (⟨q, x.cl, x.seq, x.h, t, 0, 0⟩ : StampD))⟩ : Signed)⟩ : StampD))⟩ : Signed)) (⟨q, (stampB (⟨q, x.cl, x.seq, x.h, t, q, markOf (signL L (⟨q, (stampB (⟨q, x.cl, x.seq, x.h, t, 0, 0⟩ : StampD))⟩ : Signed)) (⟨q, (stampB (⟨q, x.cl, x.seq, x.h, t, 0, 0⟩ : StampD))⟩ : Signed)⟩ : StampD))⟩ : Signed))))) = false := by rw [decide_eq_true ⟨rfl, rfl⟩]; rfl
 have g65 := bnot_false b64
 refine zwkf _ b64 ?_
 apply w_skip
 apply ztn
 apply zsl
 refine zwN 35 (kBk10_14 q x t (markOf (signL L (⟨q, (stampB (⟨q, x.cl, x.seq, x.h, t, 0, 0⟩ : StampD))⟩ : Signed)) (⟨q, (stampB (⟨q, x.cl, x.seq, x.h, t, 0, 0⟩ : StampD))⟩ : Signed))) (H62.at 8 rfl) ?_
 refine zwd fun Kq kq => ?_
 refine zds1 (kBk10_14 q x t (markOf (signL L (⟨q, (stampB (⟨q, x.cl, x.seq, x.h, t, 0, 0⟩ : StampD))⟩ : Signed)) (⟨q, (stampB (⟨q, x.cl, x.seq, x.h, t, 0, 0⟩ : StampD))⟩ : Signed))) H62 7 ?_
 intro w67 H68
 refine kq _ _ ?_
 clear kq Kq
 apply znt
 apply w_ret
 refine end1 rfl (res_cellN (vs := (kBk10_14 q x t (markOf (signL L (⟨q, (stampB (⟨q, x.cl, x.seq, x.h, t, 0, 0⟩ : StampD))⟩ : Signed)) (⟨q, (stampB (⟨q, x.cl, x.seq, x.h, t, 0, 0⟩ : StampD))⟩ : Signed)))) rfl (by kernel_rfl) (by kernel_rfl) (by exact Nat.le_of_ble_eq_true (by kernel_rfl)) (H68.at 7 rfl) (by kernel_rfl)) ?_
 exact ⟨a37, c38, rfl, H68.pk [0, 1, 2, 3, 4]⟩
end Go.Proofs.YtenihpghfdcpkaaGreat
