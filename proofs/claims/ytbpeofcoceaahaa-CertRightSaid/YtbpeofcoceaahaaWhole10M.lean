/- WHAT IS PROVED: stamps that are signed in a book, and what a certificate of them is: plain laws. Conditions: stated with each. -/
import Derived.Test.YtbpeofcoceaahaaShort
import Derived.Test.YtbpeofcoceaahaaRightD
import Derived.Test.YtbpeofcoceaahaaRt2
import Derived.Test.YtbpeofcoceaahaaWt
import Derived.Test.YtbpeofcoceaahaaPBook
import Derived.Test.YtbpeofcoceaahaaRefB
import Derived.Test.YtbpeofcoceaahaaOfR
import Derived.Test.YtbpeofcoceaahaaMake10M
namespace Go.Proofs.Ytbpeofcoceaahaa
open Go.RowKit
theorem e_neqSig {n : Nat} {f : Nat → Value} {w : World} {dst : Option Tmp} {ty : TypeId} {pos : String} {aft : Array Edge} {gd : Option (Nat × Bool)} {x y : Operand} {T : TypeId} (a b c d : Int) (hx : ev n f x = .agg ⟨[.int .i64 a, .int .i64 b]⟩) (hy : ev n f y = .agg ⟨[.int .i64 c, .int .i64 d]⟩) :
  (execOp (ev n f) ⟨dst, .binOp .neq 42 x y T, ty, pos, aft, gd⟩).run Try.prog w = .ok (.value (.bool (!decide (a = c ∧ b = d)))) w := by
 simp only [execOp, hx, hy]
 simp [go_sem]
 by_cases h1 : a = c <;> by_cases h2 : b = d <;> simp_all
def mkC0 (cl seq : Int) (x : Hash) (p : List UInt8) : CommitD := ⟨cl, seq, shaR (ofT cl seq x p), p.length, 0, 0⟩
/-- what is signed of a commitment, and by whom -/
def yC (cl seq : Int) (x : Hash) (p : List UInt8) : Signed := ⟨1000 + cl, commitB (mkC0 cl seq x p)⟩
def mkC (L : List Signed) (cl seq : Int) (x : Hash) (p : List UInt8) : CommitD := ⟨cl, seq, shaR (ofT cl seq x p), p.length, 1000 + cl, markOf (signL L (yC cl seq x p)) (yC cl seq x p)⟩
def mkS0 (q : Int) (x : CommitD) (t : Int) : StampD := ⟨q, x.cl, x.seq, x.h, t, 0, 0⟩
def yS (q : Int) (x : CommitD) (t : Int) : Signed := ⟨q, stampB (mkS0 q x t)⟩
def mkS (L : List Signed) (q : Int) (x : CommitD) (t : Int) : StampD := ⟨q, x.cl, x.seq, x.h, t, q, markOf (signL L (yS q x t)) (yS q x t)⟩
def rb2 (r : Nat) (a : Option Addr) (c : Nat) (L : List Signed) : List Ck := [cellC r 88 [.slice a (L).length c], rowC 120 2 (.slice a (L).length c) (L).length ((L).flatMap encS)]
def bothL (b mb r : Nat) (a : Option Addr) (c : Nat) (L : List Signed) : List Ck := [cellC b 107 [.map (some mb)], mapC mb signedV (Value.int .i64) (marks L), cellC r 88 [.slice a (L).length c], rowC 120 2 (.slice a (L).length c) (L).length ((L).flatMap encS)]
theorem rb2_both {b mb r : Nat} {a : Option Addr} {c : Nat} {L : List Signed} (k : Nat) (h : (sepC (rb2 r a c L)).fp k) : (sepC (bothL b mb r a c L)).fp k := by
 obtain ⟨A, hA, hk⟩ := h
 exact ⟨A, List.mem_cons_of_mem _ (List.mem_cons_of_mem _ hA), hk⟩

set_option maxRecDepth 100000 in
set_option maxHeartbeats 2000000 in
theorem rMakeC_any (w : World) (r : Nat) (a : Option Addr) (c : Nat) (L : List Signed) (hB : (sepC (rb2 r a c L)).ok w) (cl seq : Int) (x : Hash) (pa : Option Addr) (pc : Nat) (p : List UInt8) (hp : ListAt encB 1 w (.slice pa p.length pc) p) (hoff : 0 < p.length → ∀ ad, pa = some ad → ¬ (sepC (rb2 r a c L)).fp ad.block) (hlp : p.length ≤ 1000) (hcl : 0 ≤ cl ∧ cl ≤ 1000000) (hsq : seq ≤ 9223372036854775807) (hL : L.length ≤ 100000) (hn : L.Nodup) :
  Calls Try.prog 47 #[(.pointer (some ⟨r, 0, none⟩)), (.agg ⟨([(.int .i64 (cl)), (.int .i64 (seq))] : List Value)⟩), (.agg ⟨(hc x)⟩), (.slice pa p.length pc)] w fun e w' => ∃ a' c', e = .returned (.agg ⟨encCo (mkC L cl seq x p)⟩) ∧ Sat w [cellC r 88 [.slice a' (signL L (yC cl seq x p)).length c'], rowC 120 2 (.slice a' (signL L (yC cl seq x p)).length c') (signL L (yC cl seq x p)).length ((signL L (yC cl seq x p)).flatMap encS), restC w (sepC (rb2 r a c L)).fp] w' := by
 have hL0 : (1000 + cl) ≤ 9223372036854775807 := by omega
 have H : Sat w [cellC r 88 ([(.slice a L.length c)] : List Value), rowC 120 2 (.slice a L.length c) L.length (L.flatMap encS), restC w (sepC (rb2 r a c L)).fp] w := Sat.start (rb2 r a c L) hB
 refine calls_fr Try.func47 rfl 27 rfl (Nat.le_of_ble_eq_true rfl) ?_
 refine w_seq ?_
 refine w_lit ?_
 refine wl_do (wants0 rfl) (fun K1 hK1 => ?_)
 refine d_box (vs := ([(.int .i64 (cl)), (.int .i64 (seq))] : List Value)) rfl H rfl rfl ?_
 intro b2 w3 (H4 : Sat w [cellC r 88 ([(.slice a L.length c)] : List Value), rowC 120 2 (.slice a L.length c) L.length (L.flatMap encS), restC w (sepC (rb2 r a c L)).fp, cellC b2 38 ([(.int .i64 (cl)), (.int .i64 (seq))] : List Value)] w3)
 refine hK1 _ _ ?_
 clear hK1 K1
 refine wl_do (wants0 rfl) (fun K5 hK5 => ?_)
 refine d_box (vs := (hc x)) rfl H4 rfl rfl ?_
 intro b6 w7 (H8 : Sat w [cellC r 88 ([(.slice a L.length c)] : List Value), rowC 120 2 (.slice a L.length c) L.length (L.flatMap encS), restC w (sepC (rb2 r a c L)).fp, cellC b2 38 ([(.int .i64 (cl)), (.int .i64 (seq))] : List Value), cellC b6 40 (hc x)] w7)
 refine hK5 _ _ ?_
 clear hK5 K5
 refine wl_do (wants0 rfl) (fun K9 hK9 => ?_)
 refine d_alloc (zs := (([(.int .i64 (0)), (.int .i64 (0))] : List Value) ++ hc hash0 ++ ([(.int .i64 (0)), (.int .i64 (0)), (.int .i64 (0))] : List Value))) (z := (.agg ⟨(([(.int .i64 (0)), (.int .i64 (0))] : List Value) ++ hc hash0 ++ ([(.int .i64 (0)), (.int .i64 (0)), (.int .i64 (0))] : List Value))⟩)) rfl H8 (by kernel_rfl) (by kernel_rfl) ?_
 intro b10 w11 (H12 : Sat w [cellC r 88 ([(.slice a L.length c)] : List Value), rowC 120 2 (.slice a L.length c) L.length (L.flatMap encS), restC w (sepC (rb2 r a c L)).fp, cellC b2 38 ([(.int .i64 (cl)), (.int .i64 (seq))] : List Value), cellC b6 40 (hc x), cellC b10 44 (([(.int .i64 (0)), (.int .i64 (0))] : List Value) ++ hc hash0 ++ ([(.int .i64 (0)), (.int .i64 (0)), (.int .i64 (0))] : List Value))] w11)
 refine hK9 _ _ ?_
 clear hK9 K9
 refine w_nil ?_
 refine then_normal ?_
 refine w_seq ?_
 refine h_start H12 [cellC r 88 ([(.slice a L.length c)] : List Value), rowC 120 2 (.slice a L.length c) L.length (L.flatMap encS), restC w (sepC (rb2 r a c L)).fp, cellC b2 38 ([(.int .i64 (cl)), (.int .i64 (seq))] : List Value), cellC b6 40 (hc x), cellC b10 44 (([(.int .i64 (0)), (.int .i64 (0))] : List Value) ++ hc hash0 ++ ([(.int .i64 (0)), (.int .i64 (0)), (.int .i64 (0))] : List Value))] 10 rfl (by kernel_rfl) (fun Hx => (Hx.pick [0, 1, 2, 3, 4, 5] (by decide))) ?_
 intro w13 H14 S15
 refine hv0 0 S15 10 (.agg ⟨([(.int .i64 (cl)), (.int .i64 (seq))] : List Value)⟩) ?_ (he := fun _ H' => (e_loadN (vs := ([(.int .i64 (cl)), (.int .i64 (seq))] : List Value)) rfl (by kernel_rfl) (by kernel_rfl) (by exact Nat.le_of_ble_eq_true (by kernel_rfl)) (H'.at 3 rfl) (by kernel_rfl)))
 refine hv0 1 S15 11 (.agg ⟨([(.int .i64 (cl)), (.int .i64 (seq))] : List Value)⟩) ?_ (he := fun _ H' => (e_loadN (vs := ([(.int .i64 (cl)), (.int .i64 (seq))] : List Value)) rfl (by kernel_rfl) (by kernel_rfl) (by exact Nat.le_of_ble_eq_true (by kernel_rfl)) (H'.at 3 rfl) (by kernel_rfl)))
 refine hv0 2 S15 12 (.agg ⟨(hc x)⟩) ?_ (he := fun _ H' => (e_loadN (vs := (hc x)) rfl (by kernel_rfl) (by kernel_rfl) (by exact Nat.le_of_ble_eq_true (by kernel_rfl)) (H'.at 4 rfl) (by kernel_rfl)))
 refine hv0 3 S15 13 (.slice pa p.length pc) ?_
 refine hv0 5 S15 15 (.slice pa p.length pc) ?_
 refine h_val 6 rfl (by kernel_rfl) (by kernel_rfl) (by kernel_rfl) (fun _ _ _ h => h) S15 (wants0 rfl) (d := 16) (v := (.int .i64 ((p.length : Int)))) rfl (fun _ H' => (by kernel_rfl)) ?_
 refine h_do2 4 8 rfl rfl (by kernel_rfl) (wants0 rfl) (wants0 rfl) (fun K16 hK16 => ?_) (fun K16 hK16 => ?_)
 ·refine d_call (d := 14) rfl (by kernel_rfl) (rOf_any w13 cl seq x pa pc p (ListAt.nowD H14 2 rfl hp hoff) (by omega) (by omega) hlp) ?_
  rintro _ w17 ⟨rfl, u19⟩
  have H18 := H14.keepU u19
  refine ⟨_, rfl, ?_⟩
  have S20 := H18.pick [0, 1, 2, 3, 4, 5] (by decide)
  refine hK16 _ _ S20 ?_
  clear hK16 K16
  refine h_val 7 rfl (by kernel_rfl) (by kernel_rfl) (by kernel_rfl) (fun _ _ _ h => h) S20 (wants0 rfl) (d := 17) (v := (.agg ⟨(([(.int .i64 (cl)), (.int .i64 (seq))] : List Value) ++ hc (shaR (ofT cl seq x p)) ++ ([(.int .i64 ((p.length : Int))), (.int .i64 (0)), (.int .i64 (0))] : List Value))⟩)) rfl (fun _ H' => (by kernel_rfl)) ?_
  refine h_do 8 rfl (by kernel_rfl) (wants0 rfl) (fun K21 hK21 => ?_)
  refine d_alloc (zs := (([(.int .i64 (0)), (.int .i64 (0))] : List Value) ++ hc hash0 ++ ([(.int .i64 (0)), (.int .i64 (0)), (.int .i64 (0))] : List Value))) (z := (.agg ⟨(([(.int .i64 (0)), (.int .i64 (0))] : List Value) ++ hc hash0 ++ ([(.int .i64 (0)), (.int .i64 (0)), (.int .i64 (0))] : List Value))⟩)) rfl H18 (by kernel_rfl) (by kernel_rfl) ?_
  intro b22 w23 (H24 : Sat w [cellC r 88 ([(.slice a L.length c)] : List Value), rowC 120 2 (.slice a L.length c) L.length (L.flatMap encS), restC w (sepC (rb2 r a c L)).fp, cellC b2 38 ([(.int .i64 (cl)), (.int .i64 (seq))] : List Value), cellC b6 40 (hc x), cellC b10 44 (([(.int .i64 (0)), (.int .i64 (0))] : List Value) ++ hc hash0 ++ ([(.int .i64 (0)), (.int .i64 (0)), (.int .i64 (0))] : List Value)), cellC b22 44 (([(.int .i64 (0)), (.int .i64 (0))] : List Value) ++ hc hash0 ++ ([(.int .i64 (0)), (.int .i64 (0)), (.int .i64 (0))] : List Value))] w23)
  have S25 := H24.pick [0, 1, 2, 3, 4, 5] (by decide)
  refine hK21 _ _ S25 ?_
  clear hK21 K21
  refine h_do 9 rfl (by kernel_rfl) (wants0 rfl) (fun K26 hK26 => ?_)
  refine d_storeX (vs := (([(.int .i64 (cl)), (.int .i64 (seq))] : List Value) ++ hc (shaR (ofT cl seq x p)) ++ ([(.int .i64 ((p.length : Int))), (.int .i64 (0)), (.int .i64 (0))] : List Value))) (cs' := (([(.int .i64 (cl)), (.int .i64 (seq))] : List Value) ++ hc (shaR (ofT cl seq x p)) ++ ([(.int .i64 ((p.length : Int))), (.int .i64 (0)), (.int .i64 (0))] : List Value))) rfl H24 6 rfl rfl rfl rfl (by kernel_rfl) (Nat.le_of_ble_eq_true (by kernel_rfl)) (Nat.le_of_ble_eq_true (by kernel_rfl)) (by kernel_rfl) (by kernel_rfl) ?_
  intro w27 (H28 : Sat w [cellC r 88 ([(.slice a L.length c)] : List Value), rowC 120 2 (.slice a L.length c) L.length (L.flatMap encS), restC w (sepC (rb2 r a c L)).fp, cellC b2 38 ([(.int .i64 (cl)), (.int .i64 (seq))] : List Value), cellC b6 40 (hc x), cellC b10 44 (([(.int .i64 (0)), (.int .i64 (0))] : List Value) ++ hc hash0 ++ ([(.int .i64 (0)), (.int .i64 (0)), (.int .i64 (0))] : List Value)), cellC b22 44 (([(.int .i64 (cl)), (.int .i64 (seq))] : List Value) ++ hc (shaR (ofT cl seq x p)) ++ ([(.int .i64 ((p.length : Int))), (.int .i64 (0)), (.int .i64 (0))] : List Value))] w27)
  have S30 := H28.pick [0, 1, 2, 3, 4, 5] (by decide)
  refine hK26 _ _ S30 ?_
  clear hK26 K26
  refine h_fin (by kernel_rfl) ?_
  refine then_normal ?_
  refine w_seq ?_
  refine k_start H28 [restC w (sepC (rb2 r a c L)).fp, cellC b2 38 ([(.int .i64 (cl)), (.int .i64 (seq))] : List Value), cellC b6 40 (hc x), cellC b10 44 (([(.int .i64 (0)), (.int .i64 (0))] : List Value) ++ hc hash0 ++ ([(.int .i64 (0)), (.int .i64 (0)), (.int .i64 (0))] : List Value)), cellC b22 44 (([(.int .i64 (cl)), (.int .i64 (seq))] : List Value) ++ hc (shaR (ofT cl seq x p)) ++ ([(.int .i64 ((p.length : Int))), (.int .i64 (0)), (.int .i64 (0))] : List Value))] [8] 9 rfl (by kernel_rfl) (fun Hx => (Hx.pick [2, 3, 4, 5, 6] (by decide))) ?_
  intro w31 H32 S33
  refine k_pure 0 rfl (by kernel_rfl) (by kernel_rfl) (by kernel_rfl) (fun _ _ _ h => h) S33 (wants0 rfl) rfl (d := 18) (v := (pt r 0)) rfl (fun _ => (by kernel_rfl)) ?_
  refine k_pure 1 rfl (by kernel_rfl) (by kernel_rfl) (by kernel_rfl) (fun _ _ _ h => h) S33 (wants0 rfl) rfl (d := 19) (v := (pt b2 0)) rfl (fun _ => (by kernel_rfl)) ?_
  refine k_val 2 rfl (by kernel_rfl) (by kernel_rfl) (by kernel_rfl) (fun _ _ _ h => h) S33 (wants0 rfl) rfl (by kernel_rfl) (d := 20) (v := (.int .i64 (cl))) rfl (fun _ H' => (e_load1 rfl (by kernel_rfl) (H'.cell 1 rfl rfl))) ?_
  refine k_pure 3 rfl (by kernel_rfl) (by kernel_rfl) (by kernel_rfl) (fun _ _ _ h => h) S33 (wants0 rfl) rfl (d := 21) (v := (.int .i64 (1000 + cl))) rfl (fun _ => (e_int (z := 1000 + cl) (by kernel_rfl) (IntWalk.i64_in _ (by omega)))) ?_
  refine k_val 4 rfl (by kernel_rfl) (by kernel_rfl) (by kernel_rfl) (fun _ _ _ h => h) S33 (wants0 rfl) rfl (by kernel_rfl) (d := 22) (v := (.agg ⟨(([(.int .i64 (cl)), (.int .i64 (seq))] : List Value) ++ hc (shaR (ofT cl seq x p)) ++ ([(.int .i64 ((p.length : Int))), (.int .i64 (0)), (.int .i64 (0))] : List Value))⟩)) rfl (fun _ H' => (e_loadN (vs := (([(.int .i64 (cl)), (.int .i64 (seq))] : List Value) ++ hc (shaR (ofT cl seq x p)) ++ ([(.int .i64 ((p.length : Int))), (.int .i64 (0)), (.int .i64 (0))] : List Value))) rfl (by kernel_rfl) (by kernel_rfl) (by exact Nat.le_of_ble_eq_true (by kernel_rfl)) (H'.at 4 rfl) (by kernel_rfl))) ?_
  refine k_do 5 rfl (by kernel_rfl) (wants0 rfl) rfl (fun K34 hK34 => ?_)
  refine d_call (d := 23) rfl (by kernel_rfl) (rCommitText_any w31 (⟨cl, seq, (shaR (ofT cl seq x p)), (p.length : Int), 0, 0⟩ : CommitD) ⟨by show cl ≤ _; omega, hsq, by show (p.length : Int) ≤ _; omega⟩) ?_
  rintro _ w35 ⟨u36, rfl, k37, p38, q39⟩
  have H40 : Sat w [cellC r 88 ([(.slice a L.length c)] : List Value), rowC 120 2 (.slice a L.length c) L.length (L.flatMap encS), restC w (sepC (rb2 r a c L)).fp, cellC b2 38 ([(.int .i64 (cl)), (.int .i64 (seq))] : List Value), cellC b6 40 (hc x), cellC b10 44 (([(.int .i64 (0)), (.int .i64 (0))] : List Value) ++ hc hash0 ++ ([(.int .i64 (0)), (.int .i64 (0)), (.int .i64 (0))] : List Value)), cellC b22 44 (([(.int .i64 (cl)), (.int .i64 (seq))] : List Value) ++ hc (shaR (ofT cl seq x p)) ++ ([(.int .i64 ((p.length : Int))), (.int .i64 (0)), (.int .i64 (0))] : List Value)), rowC 5 1 u36 ((commitB (⟨cl, seq, (shaR (ofT cl seq x p)), (p.length : Int), 0, 0⟩ : CommitD)).length) ((commitB (⟨cl, seq, (shaR (ofT cl seq x p)), (p.length : Int), 0, 0⟩ : CommitD)).flatMap encB)] w35 := H32.addU p38 k37 q39
  obtain ⟨a41, c42, rfl⟩ := ownsRow_shape (H40.at 7 rfl)
  refine ⟨_, rfl, ?_⟩
  have S43 := H40.pick [2, 3, 4, 5, 6] (by decide)
  refine hK34 _ _ S43 ?_
  clear hK34 K34
  refine k_do 6 rfl (by kernel_rfl) (wants0 rfl) rfl (fun K44 hK44 => ?_)
  refine d_call (d := 24) rfl (by kernel_rfl) (rbSign_any w35 r a c L (.slice a41 ((commitB (⟨cl, seq, (shaR (ofT cl seq x p)), (p.length : Int), 0, 0⟩ : CommitD)).length) c42) (commitB (⟨cl, seq, (shaR (ofT cl seq x p)), (p.length : Int), 0, 0⟩ : CommitD)) (H40.fin [0, 1, 7] (by decide) rfl) (by omega) hn (1000 + cl)) ?_
  rintro _ w45 ⟨a47, c48, rfl, T46⟩
  have H49 : Sat w [cellC r 88 ([(.slice a47 ((signL L (⟨1000 + cl, (commitB (⟨cl, seq, (shaR (ofT cl seq x p)), (p.length : Int), 0, 0⟩ : CommitD))⟩ : Signed)).length) c48)] : List Value), rowC 120 2 (.slice a47 ((signL L (⟨1000 + cl, (commitB (⟨cl, seq, (shaR (ofT cl seq x p)), (p.length : Int), 0, 0⟩ : CommitD))⟩ : Signed)).length) c48) ((signL L (⟨1000 + cl, (commitB (⟨cl, seq, (shaR (ofT cl seq x p)), (p.length : Int), 0, 0⟩ : CommitD))⟩ : Signed)).length) ((signL L (⟨1000 + cl, (commitB (⟨cl, seq, (shaR (ofT cl seq x p)), (p.length : Int), 0, 0⟩ : CommitD))⟩ : Signed)).flatMap encS), restC w (sepC (rb2 r a c L)).fp, cellC b2 38 ([(.int .i64 (cl)), (.int .i64 (seq))] : List Value), cellC b6 40 (hc x), cellC b10 44 (([(.int .i64 (0)), (.int .i64 (0))] : List Value) ++ hc hash0 ++ ([(.int .i64 (0)), (.int .i64 (0)), (.int .i64 (0))] : List Value)), cellC b22 44 (([(.int .i64 (cl)), (.int .i64 (seq))] : List Value) ++ hc (shaR (ofT cl seq x p)) ++ ([(.int .i64 ((p.length : Int))), (.int .i64 (0)), (.int .i64 (0))] : List Value)), rowC 5 1 (.slice a41 ((commitB (⟨cl, seq, (shaR (ofT cl seq x p)), (p.length : Int), 0, 0⟩ : CommitD)).length) c42) ((commitB (⟨cl, seq, (shaR (ofT cl seq x p)), (p.length : Int), 0, 0⟩ : CommitD)).length) ((commitB (⟨cl, seq, (shaR (ofT cl seq x p)), (p.length : Int), 0, 0⟩ : CommitD)).flatMap encB)] w45 := (Sat.turnL (L' := [cellC r 88 ([(.slice a47 ((signL L (⟨1000 + cl, (commitB (⟨cl, seq, (shaR (ofT cl seq x p)), (p.length : Int), 0, 0⟩ : CommitD))⟩ : Signed)).length) c48)] : List Value), rowC 120 2 (.slice a47 ((signL L (⟨1000 + cl, (commitB (⟨cl, seq, (shaR (ofT cl seq x p)), (p.length : Int), 0, 0⟩ : CommitD))⟩ : Signed)).length) c48) ((signL L (⟨1000 + cl, (commitB (⟨cl, seq, (shaR (ofT cl seq x p)), (p.length : Int), 0, 0⟩ : CommitD))⟩ : Signed)).length) ((signL L (⟨1000 + cl, (commitB (⟨cl, seq, (shaR (ofT cl seq x p)), (p.length : Int), 0, 0⟩ : CommitD))⟩ : Signed)).flatMap encS), rowC 5 1 (.slice a41 ((commitB (⟨cl, seq, (shaR (ofT cl seq x p)), (p.length : Int), 0, 0⟩ : CommitD)).length) c42) ((commitB (⟨cl, seq, (shaR (ofT cl seq x p)), (p.length : Int), 0, 0⟩ : CommitD)).length) ((commitB (⟨cl, seq, (shaR (ofT cl seq x p)), (p.length : Int), 0, 0⟩ : CommitD)).flatMap encB)]) (R := [restC w (sepC (rb2 r a c L)).fp, cellC b2 38 ([(.int .i64 (cl)), (.int .i64 (seq))] : List Value), cellC b6 40 (hc x), cellC b10 44 (([(.int .i64 (0)), (.int .i64 (0))] : List Value) ++ hc hash0 ++ ([(.int .i64 (0)), (.int .i64 (0)), (.int .i64 (0))] : List Value)), cellC b22 44 (([(.int .i64 (cl)), (.int .i64 (seq))] : List Value) ++ hc (shaR (ofT cl seq x p)) ++ ([(.int .i64 ((p.length : Int))), (.int .i64 (0)), (.int .i64 (0))] : List Value))]) H40 [0, 1, 7] [2, 3, 4, 5, 6] (by decide) (by kernel_rfl) rfl T46).pick [0, 1, 3, 4, 5, 6, 7, 2] (by decide)
  refine ⟨_, rfl, ?_⟩
  have S50 := H49.pick [2, 3, 4, 5, 6] (by decide)
  refine hK44 _ _ S50 ?_
  clear hK44 K44
  refine k_pure 7 rfl (by kernel_rfl) (by kernel_rfl) (by kernel_rfl) (fun _ _ _ h => h) S50 (wants0 rfl) rfl (d := 25) (v := (pt b22 35)) rfl (fun _ => (by kernel_rfl)) ?_
  refine k_brk 8 (Sat w [restC w (sepC (rb2 r a c L)).fp, cellC b2 38 ([(.int .i64 (cl)), (.int .i64 (seq))] : List Value), cellC b6 40 (hc x), cellC b10 44 (([(.int .i64 (0)), (.int .i64 (0))] : List Value) ++ hc hash0 ++ ([(.int .i64 (0)), (.int .i64 (0)), (.int .i64 (0))] : List Value))]) rfl (by kernel_rfl) (wants0 rfl) rfl (fun K51 hK51 => ?_)
  refine d_storeX (vs := ([(.int .i64 (1000 + cl)), (.int .i64 (markOf (signL L (⟨1000 + cl, (commitB (⟨cl, seq, (shaR (ofT cl seq x p)), (p.length : Int), 0, 0⟩ : CommitD))⟩ : Signed)) (⟨1000 + cl, (commitB (⟨cl, seq, (shaR (ofT cl seq x p)), (p.length : Int), 0, 0⟩ : CommitD))⟩ : Signed)))] : List Value)) (cs' := (([(.int .i64 (cl)), (.int .i64 (seq))] : List Value) ++ hc (shaR (ofT cl seq x p)) ++ ([(.int .i64 ((p.length : Int))), (.int .i64 (1000 + cl)), (.int .i64 (markOf (signL L (⟨1000 + cl, (commitB (⟨cl, seq, (shaR (ofT cl seq x p)), (p.length : Int), 0, 0⟩ : CommitD))⟩ : Signed)) (⟨1000 + cl, (commitB (⟨cl, seq, (shaR (ofT cl seq x p)), (p.length : Int), 0, 0⟩ : CommitD))⟩ : Signed)))] : List Value))) rfl H49 6 rfl rfl rfl rfl (by kernel_rfl) (Nat.le_of_ble_eq_true (by kernel_rfl)) (Nat.le_of_ble_eq_true (by kernel_rfl)) (by kernel_rfl) (by kernel_rfl) ?_
  intro w52 (H53 : Sat w [cellC r 88 ([(.slice a47 ((signL L (⟨1000 + cl, (commitB (⟨cl, seq, (shaR (ofT cl seq x p)), (p.length : Int), 0, 0⟩ : CommitD))⟩ : Signed)).length) c48)] : List Value), rowC 120 2 (.slice a47 ((signL L (⟨1000 + cl, (commitB (⟨cl, seq, (shaR (ofT cl seq x p)), (p.length : Int), 0, 0⟩ : CommitD))⟩ : Signed)).length) c48) ((signL L (⟨1000 + cl, (commitB (⟨cl, seq, (shaR (ofT cl seq x p)), (p.length : Int), 0, 0⟩ : CommitD))⟩ : Signed)).length) ((signL L (⟨1000 + cl, (commitB (⟨cl, seq, (shaR (ofT cl seq x p)), (p.length : Int), 0, 0⟩ : CommitD))⟩ : Signed)).flatMap encS), restC w (sepC (rb2 r a c L)).fp, cellC b2 38 ([(.int .i64 (cl)), (.int .i64 (seq))] : List Value), cellC b6 40 (hc x), cellC b10 44 (([(.int .i64 (0)), (.int .i64 (0))] : List Value) ++ hc hash0 ++ ([(.int .i64 (0)), (.int .i64 (0)), (.int .i64 (0))] : List Value)), cellC b22 44 (([(.int .i64 (cl)), (.int .i64 (seq))] : List Value) ++ hc (shaR (ofT cl seq x p)) ++ ([(.int .i64 ((p.length : Int))), (.int .i64 (1000 + cl)), (.int .i64 (markOf (signL L (⟨1000 + cl, (commitB (⟨cl, seq, (shaR (ofT cl seq x p)), (p.length : Int), 0, 0⟩ : CommitD))⟩ : Signed)) (⟨1000 + cl, (commitB (⟨cl, seq, (shaR (ofT cl seq x p)), (p.length : Int), 0, 0⟩ : CommitD))⟩ : Signed)))] : List Value)), rowC 5 1 (.slice a41 ((commitB (⟨cl, seq, (shaR (ofT cl seq x p)), (p.length : Int), 0, 0⟩ : CommitD)).length) c42) ((commitB (⟨cl, seq, (shaR (ofT cl seq x p)), (p.length : Int), 0, 0⟩ : CommitD)).length) ((commitB (⟨cl, seq, (shaR (ofT cl seq x p)), (p.length : Int), 0, 0⟩ : CommitD)).flatMap encB)] w52)
  have S55 := H53.pick [2, 3, 4, 5] (by decide)
  refine hK51 _ _ S55 ?_
  clear hK51 K51
  refine h_fin (by kernel_rfl) ?_
  refine then_normal ?_
  refine w_seq ?_
  refine w_lit ?_
  refine wv 26 (.agg ⟨(([(.int .i64 (cl)), (.int .i64 (seq))] : List Value) ++ hc (shaR (ofT cl seq x p)) ++ ([(.int .i64 ((p.length : Int))), (.int .i64 (1000 + cl)), (.int .i64 (markOf (signL L (⟨1000 + cl, (commitB (⟨cl, seq, (shaR (ofT cl seq x p)), (p.length : Int), 0, 0⟩ : CommitD))⟩ : Signed)) (⟨1000 + cl, (commitB (⟨cl, seq, (shaR (ofT cl seq x p)), (p.length : Int), 0, 0⟩ : CommitD))⟩ : Signed)))] : List Value))⟩) ?_ (hr := e_loadN (vs := (([(.int .i64 (cl)), (.int .i64 (seq))] : List Value) ++ hc (shaR (ofT cl seq x p)) ++ ([(.int .i64 ((p.length : Int))), (.int .i64 (1000 + cl)), (.int .i64 (markOf (signL L (⟨1000 + cl, (commitB (⟨cl, seq, (shaR (ofT cl seq x p)), (p.length : Int), 0, 0⟩ : CommitD))⟩ : Signed)) (⟨1000 + cl, (commitB (⟨cl, seq, (shaR (ofT cl seq x p)), (p.length : Int), 0, 0⟩ : CommitD))⟩ : Signed)))] : List Value))) rfl (by kernel_rfl) (by kernel_rfl) (by exact Nat.le_of_ble_eq_true (by kernel_rfl)) (H53.at 6 rfl) (by kernel_rfl))
  refine wl_do (wants0 rfl) (fun K56 hK56 => ?_)
  refine d_storeX (vs := (([(.int .i64 (cl)), (.int .i64 (seq))] : List Value) ++ hc (shaR (ofT cl seq x p)) ++ ([(.int .i64 ((p.length : Int))), (.int .i64 (1000 + cl)), (.int .i64 (markOf (signL L (⟨1000 + cl, (commitB (⟨cl, seq, (shaR (ofT cl seq x p)), (p.length : Int), 0, 0⟩ : CommitD))⟩ : Signed)) (⟨1000 + cl, (commitB (⟨cl, seq, (shaR (ofT cl seq x p)), (p.length : Int), 0, 0⟩ : CommitD))⟩ : Signed)))] : List Value))) (cs' := (([(.int .i64 (cl)), (.int .i64 (seq))] : List Value) ++ hc (shaR (ofT cl seq x p)) ++ ([(.int .i64 ((p.length : Int))), (.int .i64 (1000 + cl)), (.int .i64 (markOf (signL L (⟨1000 + cl, (commitB (⟨cl, seq, (shaR (ofT cl seq x p)), (p.length : Int), 0, 0⟩ : CommitD))⟩ : Signed)) (⟨1000 + cl, (commitB (⟨cl, seq, (shaR (ofT cl seq x p)), (p.length : Int), 0, 0⟩ : CommitD))⟩ : Signed)))] : List Value))) rfl H53 5 rfl rfl rfl rfl (by kernel_rfl) (Nat.le_of_ble_eq_true (by kernel_rfl)) (Nat.le_of_ble_eq_true (by kernel_rfl)) (by kernel_rfl) (by kernel_rfl) ?_
  intro w57 (H58 : Sat w [cellC r 88 ([(.slice a47 ((signL L (⟨1000 + cl, (commitB (⟨cl, seq, (shaR (ofT cl seq x p)), (p.length : Int), 0, 0⟩ : CommitD))⟩ : Signed)).length) c48)] : List Value), rowC 120 2 (.slice a47 ((signL L (⟨1000 + cl, (commitB (⟨cl, seq, (shaR (ofT cl seq x p)), (p.length : Int), 0, 0⟩ : CommitD))⟩ : Signed)).length) c48) ((signL L (⟨1000 + cl, (commitB (⟨cl, seq, (shaR (ofT cl seq x p)), (p.length : Int), 0, 0⟩ : CommitD))⟩ : Signed)).length) ((signL L (⟨1000 + cl, (commitB (⟨cl, seq, (shaR (ofT cl seq x p)), (p.length : Int), 0, 0⟩ : CommitD))⟩ : Signed)).flatMap encS), restC w (sepC (rb2 r a c L)).fp, cellC b2 38 ([(.int .i64 (cl)), (.int .i64 (seq))] : List Value), cellC b6 40 (hc x), cellC b10 44 (([(.int .i64 (cl)), (.int .i64 (seq))] : List Value) ++ hc (shaR (ofT cl seq x p)) ++ ([(.int .i64 ((p.length : Int))), (.int .i64 (1000 + cl)), (.int .i64 (markOf (signL L (⟨1000 + cl, (commitB (⟨cl, seq, (shaR (ofT cl seq x p)), (p.length : Int), 0, 0⟩ : CommitD))⟩ : Signed)) (⟨1000 + cl, (commitB (⟨cl, seq, (shaR (ofT cl seq x p)), (p.length : Int), 0, 0⟩ : CommitD))⟩ : Signed)))] : List Value)), cellC b22 44 (([(.int .i64 (cl)), (.int .i64 (seq))] : List Value) ++ hc (shaR (ofT cl seq x p)) ++ ([(.int .i64 ((p.length : Int))), (.int .i64 (1000 + cl)), (.int .i64 (markOf (signL L (⟨1000 + cl, (commitB (⟨cl, seq, (shaR (ofT cl seq x p)), (p.length : Int), 0, 0⟩ : CommitD))⟩ : Signed)) (⟨1000 + cl, (commitB (⟨cl, seq, (shaR (ofT cl seq x p)), (p.length : Int), 0, 0⟩ : CommitD))⟩ : Signed)))] : List Value)), rowC 5 1 (.slice a41 ((commitB (⟨cl, seq, (shaR (ofT cl seq x p)), (p.length : Int), 0, 0⟩ : CommitD)).length) c42) ((commitB (⟨cl, seq, (shaR (ofT cl seq x p)), (p.length : Int), 0, 0⟩ : CommitD)).length) ((commitB (⟨cl, seq, (shaR (ofT cl seq x p)), (p.length : Int), 0, 0⟩ : CommitD)).flatMap encB)] w57)
  refine hK56 _ _ ?_
  clear hK56 K56
  refine w_nil ?_
  refine then_normal ?_
  refine w_ret ?_
  refine end1 rfl (res_cellN (vs := (([(.int .i64 (cl)), (.int .i64 (seq))] : List Value) ++ hc (shaR (ofT cl seq x p)) ++ ([(.int .i64 ((p.length : Int))), (.int .i64 (1000 + cl)), (.int .i64 (markOf (signL L (⟨1000 + cl, (commitB (⟨cl, seq, (shaR (ofT cl seq x p)), (p.length : Int), 0, 0⟩ : CommitD))⟩ : Signed)) (⟨1000 + cl, (commitB (⟨cl, seq, (shaR (ofT cl seq x p)), (p.length : Int), 0, 0⟩ : CommitD))⟩ : Signed)))] : List Value))) rfl (by kernel_rfl) (by kernel_rfl) (by exact Nat.le_of_ble_eq_true (by kernel_rfl)) (H58.at 5 rfl) (by kernel_rfl)) ?_
  exact ⟨a47, c48, rfl, H58.pick [0, 1, 2] (by decide)⟩
 ·refine d_alloc (zs := (([(.int .i64 (0)), (.int .i64 (0))] : List Value) ++ hc hash0 ++ ([(.int .i64 (0)), (.int .i64 (0)), (.int .i64 (0))] : List Value))) (z := (.agg ⟨(([(.int .i64 (0)), (.int .i64 (0))] : List Value) ++ hc hash0 ++ ([(.int .i64 (0)), (.int .i64 (0)), (.int .i64 (0))] : List Value))⟩)) rfl H14 (by kernel_rfl) (by kernel_rfl) ?_
  intro b60 w61 (H62 : Sat w [cellC r 88 ([(.slice a L.length c)] : List Value), rowC 120 2 (.slice a L.length c) L.length (L.flatMap encS), restC w (sepC (rb2 r a c L)).fp, cellC b2 38 ([(.int .i64 (cl)), (.int .i64 (seq))] : List Value), cellC b6 40 (hc x), cellC b10 44 (([(.int .i64 (0)), (.int .i64 (0))] : List Value) ++ hc hash0 ++ ([(.int .i64 (0)), (.int .i64 (0)), (.int .i64 (0))] : List Value)), cellC b60 44 (([(.int .i64 (0)), (.int .i64 (0))] : List Value) ++ hc hash0 ++ ([(.int .i64 (0)), (.int .i64 (0)), (.int .i64 (0))] : List Value))] w61)
  have S63 := H62.pick [0, 1, 2, 3, 4, 5] (by decide)
  refine hK16 _ _ S63 ?_
  clear hK16 K16
  refine h_do 4 rfl (by kernel_rfl) (wants0 rfl) (fun K64 hK64 => ?_)
  refine d_call (d := 14) rfl (by kernel_rfl) (rOf_any w61 cl seq x pa pc p (ListAt.nowD H62 2 rfl hp hoff) (by omega) (by omega) hlp) ?_
  rintro _ w65 ⟨rfl, u67⟩
  have H66 := H62.keepU u67
  refine ⟨_, rfl, ?_⟩
  have S68 := H66.pick [0, 1, 2, 3, 4, 5] (by decide)
  refine hK64 _ _ S68 ?_
  clear hK64 K64
  refine h_val 7 rfl (by kernel_rfl) (by kernel_rfl) (by kernel_rfl) (fun _ _ _ h => h) S68 (wants0 rfl) (d := 17) (v := (.agg ⟨(([(.int .i64 (cl)), (.int .i64 (seq))] : List Value) ++ hc (shaR (ofT cl seq x p)) ++ ([(.int .i64 ((p.length : Int))), (.int .i64 (0)), (.int .i64 (0))] : List Value))⟩)) rfl (fun _ H' => (by kernel_rfl)) ?_
  refine h_do 9 rfl (by kernel_rfl) (wants0 rfl) (fun K69 hK69 => ?_)
  refine d_storeX (vs := (([(.int .i64 (cl)), (.int .i64 (seq))] : List Value) ++ hc (shaR (ofT cl seq x p)) ++ ([(.int .i64 ((p.length : Int))), (.int .i64 (0)), (.int .i64 (0))] : List Value))) (cs' := (([(.int .i64 (cl)), (.int .i64 (seq))] : List Value) ++ hc (shaR (ofT cl seq x p)) ++ ([(.int .i64 ((p.length : Int))), (.int .i64 (0)), (.int .i64 (0))] : List Value))) rfl H66 6 rfl rfl rfl rfl (by kernel_rfl) (Nat.le_of_ble_eq_true (by kernel_rfl)) (Nat.le_of_ble_eq_true (by kernel_rfl)) (by kernel_rfl) (by kernel_rfl) ?_
  intro w70 (H71 : Sat w [cellC r 88 ([(.slice a L.length c)] : List Value), rowC 120 2 (.slice a L.length c) L.length (L.flatMap encS), restC w (sepC (rb2 r a c L)).fp, cellC b2 38 ([(.int .i64 (cl)), (.int .i64 (seq))] : List Value), cellC b6 40 (hc x), cellC b10 44 (([(.int .i64 (0)), (.int .i64 (0))] : List Value) ++ hc hash0 ++ ([(.int .i64 (0)), (.int .i64 (0)), (.int .i64 (0))] : List Value)), cellC b60 44 (([(.int .i64 (cl)), (.int .i64 (seq))] : List Value) ++ hc (shaR (ofT cl seq x p)) ++ ([(.int .i64 ((p.length : Int))), (.int .i64 (0)), (.int .i64 (0))] : List Value))] w70)
  have S73 := H71.pick [0, 1, 2, 3, 4, 5] (by decide)
  refine hK69 _ _ S73 ?_
  clear hK69 K69
  refine h_fin (by kernel_rfl) ?_
  refine then_normal ?_
  refine w_seq ?_
  refine k_start H71 [restC w (sepC (rb2 r a c L)).fp, cellC b2 38 ([(.int .i64 (cl)), (.int .i64 (seq))] : List Value), cellC b6 40 (hc x), cellC b10 44 (([(.int .i64 (0)), (.int .i64 (0))] : List Value) ++ hc hash0 ++ ([(.int .i64 (0)), (.int .i64 (0)), (.int .i64 (0))] : List Value)), cellC b60 44 (([(.int .i64 (cl)), (.int .i64 (seq))] : List Value) ++ hc (shaR (ofT cl seq x p)) ++ ([(.int .i64 ((p.length : Int))), (.int .i64 (0)), (.int .i64 (0))] : List Value))] [8] 9 rfl (by kernel_rfl) (fun Hx => (Hx.pick [2, 3, 4, 5, 6] (by decide))) ?_
  intro w74 H75 S76
  refine k_pure 0 rfl (by kernel_rfl) (by kernel_rfl) (by kernel_rfl) (fun _ _ _ h => h) S76 (wants0 rfl) rfl (d := 18) (v := (pt r 0)) rfl (fun _ => (by kernel_rfl)) ?_
  refine k_pure 1 rfl (by kernel_rfl) (by kernel_rfl) (by kernel_rfl) (fun _ _ _ h => h) S76 (wants0 rfl) rfl (d := 19) (v := (pt b2 0)) rfl (fun _ => (by kernel_rfl)) ?_
  refine k_val 2 rfl (by kernel_rfl) (by kernel_rfl) (by kernel_rfl) (fun _ _ _ h => h) S76 (wants0 rfl) rfl (by kernel_rfl) (d := 20) (v := (.int .i64 (cl))) rfl (fun _ H' => (e_load1 rfl (by kernel_rfl) (H'.cell 1 rfl rfl))) ?_
  refine k_pure 3 rfl (by kernel_rfl) (by kernel_rfl) (by kernel_rfl) (fun _ _ _ h => h) S76 (wants0 rfl) rfl (d := 21) (v := (.int .i64 (1000 + cl))) rfl (fun _ => (e_int (z := 1000 + cl) (by kernel_rfl) (IntWalk.i64_in _ (by omega)))) ?_
  refine k_val 4 rfl (by kernel_rfl) (by kernel_rfl) (by kernel_rfl) (fun _ _ _ h => h) S76 (wants0 rfl) rfl (by kernel_rfl) (d := 22) (v := (.agg ⟨(([(.int .i64 (cl)), (.int .i64 (seq))] : List Value) ++ hc (shaR (ofT cl seq x p)) ++ ([(.int .i64 ((p.length : Int))), (.int .i64 (0)), (.int .i64 (0))] : List Value))⟩)) rfl (fun _ H' => (e_loadN (vs := (([(.int .i64 (cl)), (.int .i64 (seq))] : List Value) ++ hc (shaR (ofT cl seq x p)) ++ ([(.int .i64 ((p.length : Int))), (.int .i64 (0)), (.int .i64 (0))] : List Value))) rfl (by kernel_rfl) (by kernel_rfl) (by exact Nat.le_of_ble_eq_true (by kernel_rfl)) (H'.at 4 rfl) (by kernel_rfl))) ?_
  refine k_do 5 rfl (by kernel_rfl) (wants0 rfl) rfl (fun K77 hK77 => ?_)
  refine d_call (d := 23) rfl (by kernel_rfl) (rCommitText_any w74 (⟨cl, seq, (shaR (ofT cl seq x p)), (p.length : Int), 0, 0⟩ : CommitD) ⟨by show cl ≤ _; omega, hsq, by show (p.length : Int) ≤ _; omega⟩) ?_
  rintro _ w78 ⟨u79, rfl, k80, p81, q82⟩
  have H83 : Sat w [cellC r 88 ([(.slice a L.length c)] : List Value), rowC 120 2 (.slice a L.length c) L.length (L.flatMap encS), restC w (sepC (rb2 r a c L)).fp, cellC b2 38 ([(.int .i64 (cl)), (.int .i64 (seq))] : List Value), cellC b6 40 (hc x), cellC b10 44 (([(.int .i64 (0)), (.int .i64 (0))] : List Value) ++ hc hash0 ++ ([(.int .i64 (0)), (.int .i64 (0)), (.int .i64 (0))] : List Value)), cellC b60 44 (([(.int .i64 (cl)), (.int .i64 (seq))] : List Value) ++ hc (shaR (ofT cl seq x p)) ++ ([(.int .i64 ((p.length : Int))), (.int .i64 (0)), (.int .i64 (0))] : List Value)), rowC 5 1 u79 ((commitB (⟨cl, seq, (shaR (ofT cl seq x p)), (p.length : Int), 0, 0⟩ : CommitD)).length) ((commitB (⟨cl, seq, (shaR (ofT cl seq x p)), (p.length : Int), 0, 0⟩ : CommitD)).flatMap encB)] w78 := H75.addU p81 k80 q82
  obtain ⟨a84, c85, rfl⟩ := ownsRow_shape (H83.at 7 rfl)
  refine ⟨_, rfl, ?_⟩
  have S86 := H83.pick [2, 3, 4, 5, 6] (by decide)
  refine hK77 _ _ S86 ?_
  clear hK77 K77
  refine k_do 6 rfl (by kernel_rfl) (wants0 rfl) rfl (fun K87 hK87 => ?_)
  refine d_call (d := 24) rfl (by kernel_rfl) (rbSign_any w78 r a c L (.slice a84 ((commitB (⟨cl, seq, (shaR (ofT cl seq x p)), (p.length : Int), 0, 0⟩ : CommitD)).length) c85) (commitB (⟨cl, seq, (shaR (ofT cl seq x p)), (p.length : Int), 0, 0⟩ : CommitD)) (H83.fin [0, 1, 7] (by decide) rfl) (by omega) hn (1000 + cl)) ?_
  rintro _ w88 ⟨a90, c91, rfl, T89⟩
  have H92 : Sat w [cellC r 88 ([(.slice a90 ((signL L (⟨1000 + cl, (commitB (⟨cl, seq, (shaR (ofT cl seq x p)), (p.length : Int), 0, 0⟩ : CommitD))⟩ : Signed)).length) c91)] : List Value), rowC 120 2 (.slice a90 ((signL L (⟨1000 + cl, (commitB (⟨cl, seq, (shaR (ofT cl seq x p)), (p.length : Int), 0, 0⟩ : CommitD))⟩ : Signed)).length) c91) ((signL L (⟨1000 + cl, (commitB (⟨cl, seq, (shaR (ofT cl seq x p)), (p.length : Int), 0, 0⟩ : CommitD))⟩ : Signed)).length) ((signL L (⟨1000 + cl, (commitB (⟨cl, seq, (shaR (ofT cl seq x p)), (p.length : Int), 0, 0⟩ : CommitD))⟩ : Signed)).flatMap encS), restC w (sepC (rb2 r a c L)).fp, cellC b2 38 ([(.int .i64 (cl)), (.int .i64 (seq))] : List Value), cellC b6 40 (hc x), cellC b10 44 (([(.int .i64 (0)), (.int .i64 (0))] : List Value) ++ hc hash0 ++ ([(.int .i64 (0)), (.int .i64 (0)), (.int .i64 (0))] : List Value)), cellC b60 44 (([(.int .i64 (cl)), (.int .i64 (seq))] : List Value) ++ hc (shaR (ofT cl seq x p)) ++ ([(.int .i64 ((p.length : Int))), (.int .i64 (0)), (.int .i64 (0))] : List Value)), rowC 5 1 (.slice a84 ((commitB (⟨cl, seq, (shaR (ofT cl seq x p)), (p.length : Int), 0, 0⟩ : CommitD)).length) c85) ((commitB (⟨cl, seq, (shaR (ofT cl seq x p)), (p.length : Int), 0, 0⟩ : CommitD)).length) ((commitB (⟨cl, seq, (shaR (ofT cl seq x p)), (p.length : Int), 0, 0⟩ : CommitD)).flatMap encB)] w88 := (Sat.turnL (L' := [cellC r 88 ([(.slice a90 ((signL L (⟨1000 + cl, (commitB (⟨cl, seq, (shaR (ofT cl seq x p)), (p.length : Int), 0, 0⟩ : CommitD))⟩ : Signed)).length) c91)] : List Value), rowC 120 2 (.slice a90 ((signL L (⟨1000 + cl, (commitB (⟨cl, seq, (shaR (ofT cl seq x p)), (p.length : Int), 0, 0⟩ : CommitD))⟩ : Signed)).length) c91) ((signL L (⟨1000 + cl, (commitB (⟨cl, seq, (shaR (ofT cl seq x p)), (p.length : Int), 0, 0⟩ : CommitD))⟩ : Signed)).length) ((signL L (⟨1000 + cl, (commitB (⟨cl, seq, (shaR (ofT cl seq x p)), (p.length : Int), 0, 0⟩ : CommitD))⟩ : Signed)).flatMap encS), rowC 5 1 (.slice a84 ((commitB (⟨cl, seq, (shaR (ofT cl seq x p)), (p.length : Int), 0, 0⟩ : CommitD)).length) c85) ((commitB (⟨cl, seq, (shaR (ofT cl seq x p)), (p.length : Int), 0, 0⟩ : CommitD)).length) ((commitB (⟨cl, seq, (shaR (ofT cl seq x p)), (p.length : Int), 0, 0⟩ : CommitD)).flatMap encB)]) (R := [restC w (sepC (rb2 r a c L)).fp, cellC b2 38 ([(.int .i64 (cl)), (.int .i64 (seq))] : List Value), cellC b6 40 (hc x), cellC b10 44 (([(.int .i64 (0)), (.int .i64 (0))] : List Value) ++ hc hash0 ++ ([(.int .i64 (0)), (.int .i64 (0)), (.int .i64 (0))] : List Value)), cellC b60 44 (([(.int .i64 (cl)), (.int .i64 (seq))] : List Value) ++ hc (shaR (ofT cl seq x p)) ++ ([(.int .i64 ((p.length : Int))), (.int .i64 (0)), (.int .i64 (0))] : List Value))]) H83 [0, 1, 7] [2, 3, 4, 5, 6] (by decide) (by kernel_rfl) rfl T89).pick [0, 1, 3, 4, 5, 6, 7, 2] (by decide)
  refine ⟨_, rfl, ?_⟩
  have S93 := H92.pick [2, 3, 4, 5, 6] (by decide)
  refine hK87 _ _ S93 ?_
  clear hK87 K87
  refine k_pure 7 rfl (by kernel_rfl) (by kernel_rfl) (by kernel_rfl) (fun _ _ _ h => h) S93 (wants0 rfl) rfl (d := 25) (v := (pt b60 35)) rfl (fun _ => (by kernel_rfl)) ?_
  refine k_brk 8 (Sat w [restC w (sepC (rb2 r a c L)).fp, cellC b2 38 ([(.int .i64 (cl)), (.int .i64 (seq))] : List Value), cellC b6 40 (hc x), cellC b10 44 (([(.int .i64 (0)), (.int .i64 (0))] : List Value) ++ hc hash0 ++ ([(.int .i64 (0)), (.int .i64 (0)), (.int .i64 (0))] : List Value))]) rfl (by kernel_rfl) (wants0 rfl) rfl (fun K94 hK94 => ?_)
  refine d_storeX (vs := ([(.int .i64 (1000 + cl)), (.int .i64 (markOf (signL L (⟨1000 + cl, (commitB (⟨cl, seq, (shaR (ofT cl seq x p)), (p.length : Int), 0, 0⟩ : CommitD))⟩ : Signed)) (⟨1000 + cl, (commitB (⟨cl, seq, (shaR (ofT cl seq x p)), (p.length : Int), 0, 0⟩ : CommitD))⟩ : Signed)))] : List Value)) (cs' := (([(.int .i64 (cl)), (.int .i64 (seq))] : List Value) ++ hc (shaR (ofT cl seq x p)) ++ ([(.int .i64 ((p.length : Int))), (.int .i64 (1000 + cl)), (.int .i64 (markOf (signL L (⟨1000 + cl, (commitB (⟨cl, seq, (shaR (ofT cl seq x p)), (p.length : Int), 0, 0⟩ : CommitD))⟩ : Signed)) (⟨1000 + cl, (commitB (⟨cl, seq, (shaR (ofT cl seq x p)), (p.length : Int), 0, 0⟩ : CommitD))⟩ : Signed)))] : List Value))) rfl H92 6 rfl rfl rfl rfl (by kernel_rfl) (Nat.le_of_ble_eq_true (by kernel_rfl)) (Nat.le_of_ble_eq_true (by kernel_rfl)) (by kernel_rfl) (by kernel_rfl) ?_
  intro w95 (H96 : Sat w [cellC r 88 ([(.slice a90 ((signL L (⟨1000 + cl, (commitB (⟨cl, seq, (shaR (ofT cl seq x p)), (p.length : Int), 0, 0⟩ : CommitD))⟩ : Signed)).length) c91)] : List Value), rowC 120 2 (.slice a90 ((signL L (⟨1000 + cl, (commitB (⟨cl, seq, (shaR (ofT cl seq x p)), (p.length : Int), 0, 0⟩ : CommitD))⟩ : Signed)).length) c91) ((signL L (⟨1000 + cl, (commitB (⟨cl, seq, (shaR (ofT cl seq x p)), (p.length : Int), 0, 0⟩ : CommitD))⟩ : Signed)).length) ((signL L (⟨1000 + cl, (commitB (⟨cl, seq, (shaR (ofT cl seq x p)), (p.length : Int), 0, 0⟩ : CommitD))⟩ : Signed)).flatMap encS), restC w (sepC (rb2 r a c L)).fp, cellC b2 38 ([(.int .i64 (cl)), (.int .i64 (seq))] : List Value), cellC b6 40 (hc x), cellC b10 44 (([(.int .i64 (0)), (.int .i64 (0))] : List Value) ++ hc hash0 ++ ([(.int .i64 (0)), (.int .i64 (0)), (.int .i64 (0))] : List Value)), cellC b60 44 (([(.int .i64 (cl)), (.int .i64 (seq))] : List Value) ++ hc (shaR (ofT cl seq x p)) ++ ([(.int .i64 ((p.length : Int))), (.int .i64 (1000 + cl)), (.int .i64 (markOf (signL L (⟨1000 + cl, (commitB (⟨cl, seq, (shaR (ofT cl seq x p)), (p.length : Int), 0, 0⟩ : CommitD))⟩ : Signed)) (⟨1000 + cl, (commitB (⟨cl, seq, (shaR (ofT cl seq x p)), (p.length : Int), 0, 0⟩ : CommitD))⟩ : Signed)))] : List Value)), rowC 5 1 (.slice a84 ((commitB (⟨cl, seq, (shaR (ofT cl seq x p)), (p.length : Int), 0, 0⟩ : CommitD)).length) c85) ((commitB (⟨cl, seq, (shaR (ofT cl seq x p)), (p.length : Int), 0, 0⟩ : CommitD)).length) ((commitB (⟨cl, seq, (shaR (ofT cl seq x p)), (p.length : Int), 0, 0⟩ : CommitD)).flatMap encB)] w95)
  have S98 := H96.pick [2, 3, 4, 5] (by decide)
  refine hK94 _ _ S98 ?_
  clear hK94 K94
  refine h_fin (by kernel_rfl) ?_
  refine then_normal ?_
  refine w_seq ?_
  refine w_lit ?_
  refine wv 26 (.agg ⟨(([(.int .i64 (cl)), (.int .i64 (seq))] : List Value) ++ hc (shaR (ofT cl seq x p)) ++ ([(.int .i64 ((p.length : Int))), (.int .i64 (1000 + cl)), (.int .i64 (markOf (signL L (⟨1000 + cl, (commitB (⟨cl, seq, (shaR (ofT cl seq x p)), (p.length : Int), 0, 0⟩ : CommitD))⟩ : Signed)) (⟨1000 + cl, (commitB (⟨cl, seq, (shaR (ofT cl seq x p)), (p.length : Int), 0, 0⟩ : CommitD))⟩ : Signed)))] : List Value))⟩) ?_ (hr := e_loadN (vs := (([(.int .i64 (cl)), (.int .i64 (seq))] : List Value) ++ hc (shaR (ofT cl seq x p)) ++ ([(.int .i64 ((p.length : Int))), (.int .i64 (1000 + cl)), (.int .i64 (markOf (signL L (⟨1000 + cl, (commitB (⟨cl, seq, (shaR (ofT cl seq x p)), (p.length : Int), 0, 0⟩ : CommitD))⟩ : Signed)) (⟨1000 + cl, (commitB (⟨cl, seq, (shaR (ofT cl seq x p)), (p.length : Int), 0, 0⟩ : CommitD))⟩ : Signed)))] : List Value))) rfl (by kernel_rfl) (by kernel_rfl) (by exact Nat.le_of_ble_eq_true (by kernel_rfl)) (H96.at 6 rfl) (by kernel_rfl))
  refine wl_do (wants0 rfl) (fun K99 hK99 => ?_)
  refine d_storeX (vs := (([(.int .i64 (cl)), (.int .i64 (seq))] : List Value) ++ hc (shaR (ofT cl seq x p)) ++ ([(.int .i64 ((p.length : Int))), (.int .i64 (1000 + cl)), (.int .i64 (markOf (signL L (⟨1000 + cl, (commitB (⟨cl, seq, (shaR (ofT cl seq x p)), (p.length : Int), 0, 0⟩ : CommitD))⟩ : Signed)) (⟨1000 + cl, (commitB (⟨cl, seq, (shaR (ofT cl seq x p)), (p.length : Int), 0, 0⟩ : CommitD))⟩ : Signed)))] : List Value))) (cs' := (([(.int .i64 (cl)), (.int .i64 (seq))] : List Value) ++ hc (shaR (ofT cl seq x p)) ++ ([(.int .i64 ((p.length : Int))), (.int .i64 (1000 + cl)), (.int .i64 (markOf (signL L (⟨1000 + cl, (commitB (⟨cl, seq, (shaR (ofT cl seq x p)), (p.length : Int), 0, 0⟩ : CommitD))⟩ : Signed)) (⟨1000 + cl, (commitB (⟨cl, seq, (shaR (ofT cl seq x p)), (p.length : Int), 0, 0⟩ : CommitD))⟩ : Signed)))] : List Value))) rfl H96 5 rfl rfl rfl rfl (by kernel_rfl) (Nat.le_of_ble_eq_true (by kernel_rfl)) (Nat.le_of_ble_eq_true (by kernel_rfl)) (by kernel_rfl) (by kernel_rfl) ?_
  intro w100 (H101 : Sat w [cellC r 88 ([(.slice a90 ((signL L (⟨1000 + cl, (commitB (⟨cl, seq, (shaR (ofT cl seq x p)), (p.length : Int), 0, 0⟩ : CommitD))⟩ : Signed)).length) c91)] : List Value), rowC 120 2 (.slice a90 ((signL L (⟨1000 + cl, (commitB (⟨cl, seq, (shaR (ofT cl seq x p)), (p.length : Int), 0, 0⟩ : CommitD))⟩ : Signed)).length) c91) ((signL L (⟨1000 + cl, (commitB (⟨cl, seq, (shaR (ofT cl seq x p)), (p.length : Int), 0, 0⟩ : CommitD))⟩ : Signed)).length) ((signL L (⟨1000 + cl, (commitB (⟨cl, seq, (shaR (ofT cl seq x p)), (p.length : Int), 0, 0⟩ : CommitD))⟩ : Signed)).flatMap encS), restC w (sepC (rb2 r a c L)).fp, cellC b2 38 ([(.int .i64 (cl)), (.int .i64 (seq))] : List Value), cellC b6 40 (hc x), cellC b10 44 (([(.int .i64 (cl)), (.int .i64 (seq))] : List Value) ++ hc (shaR (ofT cl seq x p)) ++ ([(.int .i64 ((p.length : Int))), (.int .i64 (1000 + cl)), (.int .i64 (markOf (signL L (⟨1000 + cl, (commitB (⟨cl, seq, (shaR (ofT cl seq x p)), (p.length : Int), 0, 0⟩ : CommitD))⟩ : Signed)) (⟨1000 + cl, (commitB (⟨cl, seq, (shaR (ofT cl seq x p)), (p.length : Int), 0, 0⟩ : CommitD))⟩ : Signed)))] : List Value)), cellC b60 44 (([(.int .i64 (cl)), (.int .i64 (seq))] : List Value) ++ hc (shaR (ofT cl seq x p)) ++ ([(.int .i64 ((p.length : Int))), (.int .i64 (1000 + cl)), (.int .i64 (markOf (signL L (⟨1000 + cl, (commitB (⟨cl, seq, (shaR (ofT cl seq x p)), (p.length : Int), 0, 0⟩ : CommitD))⟩ : Signed)) (⟨1000 + cl, (commitB (⟨cl, seq, (shaR (ofT cl seq x p)), (p.length : Int), 0, 0⟩ : CommitD))⟩ : Signed)))] : List Value)), rowC 5 1 (.slice a84 ((commitB (⟨cl, seq, (shaR (ofT cl seq x p)), (p.length : Int), 0, 0⟩ : CommitD)).length) c85) ((commitB (⟨cl, seq, (shaR (ofT cl seq x p)), (p.length : Int), 0, 0⟩ : CommitD)).length) ((commitB (⟨cl, seq, (shaR (ofT cl seq x p)), (p.length : Int), 0, 0⟩ : CommitD)).flatMap encB)] w100)
  refine hK99 _ _ ?_
  clear hK99 K99
  refine w_nil ?_
  refine then_normal ?_
  refine w_ret ?_
  refine end1 rfl (res_cellN (vs := (([(.int .i64 (cl)), (.int .i64 (seq))] : List Value) ++ hc (shaR (ofT cl seq x p)) ++ ([(.int .i64 ((p.length : Int))), (.int .i64 (1000 + cl)), (.int .i64 (markOf (signL L (⟨1000 + cl, (commitB (⟨cl, seq, (shaR (ofT cl seq x p)), (p.length : Int), 0, 0⟩ : CommitD))⟩ : Signed)) (⟨1000 + cl, (commitB (⟨cl, seq, (shaR (ofT cl seq x p)), (p.length : Int), 0, 0⟩ : CommitD))⟩ : Signed)))] : List Value))) rfl (by kernel_rfl) (by kernel_rfl) (by exact Nat.le_of_ble_eq_true (by kernel_rfl)) (H101.at 5 rfl) (by kernel_rfl)) ?_
  exact ⟨a90, c91, rfl, H101.pick [0, 1, 2] (by decide)⟩

set_option maxRecDepth 100000 in
set_option maxHeartbeats 2000000 in
theorem bkCommit_any (w : World) (b mb r : Nat) (a : Option Addr) (c : Nat) (L : List Signed) (hB : (sepC (bothL b mb r a c L)).ok w) (cl seq : Int) (pa : Option Addr) (pc : Nat) (p : List UInt8) (hp : ListAt encB 1 w (.slice pa p.length pc) p) (hoff : 0 < p.length → ∀ ad, pa = some ad → ¬ (sepC (bothL b mb r a c L)).fp ad.block) (hlp : p.length ≤ 1000) (hcl : 0 ≤ cl ∧ cl ≤ 1000000) (hsq : seq ≤ 9223372036854775807) (hL : L.length ≤ 100000) (hn : L.Nodup) :
  Calls Try.prog 27 #[(.agg ⟨([(.pointer (some ⟨b, 0, none⟩)), (.pointer (some ⟨r, 0, none⟩))] : List Value)⟩), (.agg ⟨([(.int .i64 (cl)), (.int .i64 (seq))] : List Value)⟩), (.slice pa p.length pc)] w fun e w' => ∃ a' c', e = .returned (.agg ⟨encCo (mkC L cl seq hash0 p)⟩) ∧ Sat w [cellC b 107 [.map (some mb)], mapC mb signedV (Value.int .i64) (marks (signL L (yC cl seq hash0 p))), cellC r 88 [.slice a' (signL L (yC cl seq hash0 p)).length c'], rowC 120 2 (.slice a' (signL L (yC cl seq hash0 p)).length c') (signL L (yC cl seq hash0 p)).length ((signL L (yC cl seq hash0 p)).flatMap encS), restC w (sepC (bothL b mb r a c L)).fp] w' := by
 have hL0 : (1000 + cl) ≤ 9223372036854775807 := by omega
 have H : Sat w [cellC b 107 ([(.map (some mb))] : List Value), mapC mb signedV (Value.int .i64) (marks L), cellC r 88 ([(.slice a L.length c)] : List Value), rowC 120 2 (.slice a L.length c) L.length (L.flatMap encS), restC w (sepC (bothL b mb r a c L)).fp] w := Sat.start (bothL b mb r a c L) hB
 refine calls_fr Try.func27 rfl 24 rfl (Nat.le_of_ble_eq_true rfl) ?_
 refine w_seq ?_
 refine w_lit ?_
 refine wl_do (wants0 rfl) (fun K1 hK1 => ?_)
 refine d_box (vs := ([(pt b 0), (pt r 0)] : List Value)) rfl H rfl rfl ?_
 intro b2 w3 (H4 : Sat w [cellC b 107 ([(.map (some mb))] : List Value), mapC mb signedV (Value.int .i64) (marks L), cellC r 88 ([(.slice a L.length c)] : List Value), rowC 120 2 (.slice a L.length c) L.length (L.flatMap encS), restC w (sepC (bothL b mb r a c L)).fp, cellC b2 54 ([(.pointer (some ⟨b, 0, none⟩)), (.pointer (some ⟨r, 0, none⟩))] : List Value)] w3)
 refine hK1 _ _ ?_
 clear hK1 K1
 refine wl_do (wants0 rfl) (fun K5 hK5 => ?_)
 refine d_box (vs := ([(.int .i64 (cl)), (.int .i64 (seq))] : List Value)) rfl H4 rfl rfl ?_
 intro b6 w7 (H8 : Sat w [cellC b 107 ([(.map (some mb))] : List Value), mapC mb signedV (Value.int .i64) (marks L), cellC r 88 ([(.slice a L.length c)] : List Value), rowC 120 2 (.slice a L.length c) L.length (L.flatMap encS), restC w (sepC (bothL b mb r a c L)).fp, cellC b2 54 ([(.pointer (some ⟨b, 0, none⟩)), (.pointer (some ⟨r, 0, none⟩))] : List Value), cellC b6 38 ([(.int .i64 (cl)), (.int .i64 (seq))] : List Value)] w7)
 refine hK5 _ _ ?_
 clear hK5 K5
 refine wl_do (wants0 rfl) (fun K9 hK9 => ?_)
 refine d_alloc (zs := (([(.int .i64 (0)), (.int .i64 (0))] : List Value) ++ hc hash0 ++ ([(.int .i64 (0)), (.int .i64 (0)), (.int .i64 (0))] : List Value))) (z := (.agg ⟨(([(.int .i64 (0)), (.int .i64 (0))] : List Value) ++ hc hash0 ++ ([(.int .i64 (0)), (.int .i64 (0)), (.int .i64 (0))] : List Value))⟩)) rfl H8 (by kernel_rfl) (by kernel_rfl) ?_
 intro b10 w11 (H12 : Sat w [cellC b 107 ([(.map (some mb))] : List Value), mapC mb signedV (Value.int .i64) (marks L), cellC r 88 ([(.slice a L.length c)] : List Value), rowC 120 2 (.slice a L.length c) L.length (L.flatMap encS), restC w (sepC (bothL b mb r a c L)).fp, cellC b2 54 ([(.pointer (some ⟨b, 0, none⟩)), (.pointer (some ⟨r, 0, none⟩))] : List Value), cellC b6 38 ([(.int .i64 (cl)), (.int .i64 (seq))] : List Value), cellC b10 44 (([(.int .i64 (0)), (.int .i64 (0))] : List Value) ++ hc hash0 ++ ([(.int .i64 (0)), (.int .i64 (0)), (.int .i64 (0))] : List Value))] w11)
 refine hK9 _ _ ?_
 clear hK9 K9
 refine w_nil ?_
 refine then_normal ?_
 refine w_seq ?_
 refine w_lit ?_
 refine wv 8 (pt b2 1) ?_
 refine wv 9 (pt r 0) ?_ (hr := e_load1 rfl (by kernel_rfl) (H12.cell 5 rfl rfl))
 refine wv 10 (.agg ⟨([(.int .i64 (cl)), (.int .i64 (seq))] : List Value)⟩) ?_ (hr := e_loadN (vs := ([(.int .i64 (cl)), (.int .i64 (seq))] : List Value)) rfl (by kernel_rfl) (by kernel_rfl) (by exact Nat.le_of_ble_eq_true (by kernel_rfl)) (H12.at 6 rfl) (by kernel_rfl))
 refine wv 11 (.agg ⟨(hc hash0)⟩) ?_
 refine wv 12 (.slice pa p.length pc) ?_
 refine wl_do (wants0 rfl) (fun K13 hK13 => ?_)
 refine d_call (d := 13) rfl (by kernel_rfl) (rMakeC_any w11 r a c L (H12.fin [2, 3] (by decide) rfl) cl seq hash0 pa pc p (ListAt.nowD H12 4 rfl hp hoff) (fun h0 ad ha hf => hoff h0 ad ha (rb2_both ad.block hf)) hlp (by omega) hsq hL hn) ?_
 rintro _ w14 ⟨a16, c17, rfl, T15⟩
 have H18 : Sat w [cellC b 107 ([(.map (some mb))] : List Value), mapC mb signedV (Value.int .i64) (marks L), cellC r 88 ([(.slice a16 ((signL L (yC cl seq hash0 p)).length) c17)] : List Value), rowC 120 2 (.slice a16 ((signL L (yC cl seq hash0 p)).length) c17) ((signL L (yC cl seq hash0 p)).length) ((signL L (yC cl seq hash0 p)).flatMap encS), restC w (sepC (bothL b mb r a c L)).fp, cellC b2 54 ([(pt b 0), (pt r 0)] : List Value), cellC b6 38 ([(.int .i64 (cl)), (.int .i64 (seq))] : List Value), cellC b10 44 (([(.int .i64 (0)), (.int .i64 (0))] : List Value) ++ hc hash0 ++ ([(.int .i64 (0)), (.int .i64 (0)), (.int .i64 (0))] : List Value))] w14 := (Sat.turnL (L' := [cellC r 88 ([(.slice a16 ((signL L (yC cl seq hash0 p)).length) c17)] : List Value), rowC 120 2 (.slice a16 ((signL L (yC cl seq hash0 p)).length) c17) ((signL L (yC cl seq hash0 p)).length) ((signL L (yC cl seq hash0 p)).flatMap encS)]) (R := [cellC b 107 ([(.map (some mb))] : List Value), mapC mb signedV (Value.int .i64) (marks L), restC w (sepC (bothL b mb r a c L)).fp, cellC b2 54 ([(pt b 0), (pt r 0)] : List Value), cellC b6 38 ([(.int .i64 (cl)), (.int .i64 (seq))] : List Value), cellC b10 44 (([(.int .i64 (0)), (.int .i64 (0))] : List Value) ++ hc hash0 ++ ([(.int .i64 (0)), (.int .i64 (0)), (.int .i64 (0))] : List Value))]) H12 [2, 3] [0, 1, 4, 5, 6, 7] (by decide) (by kernel_rfl) rfl T15).pick [2, 3, 0, 1, 4, 5, 6, 7] (by decide)
 refine ⟨_, rfl, ?_⟩
 refine hK13 _ _ ?_
 clear hK13 K13
 refine wl_do (wants0 rfl) (fun K19 hK19 => ?_)
 refine d_alloc (zs := (([(.int .i64 (0)), (.int .i64 (0))] : List Value) ++ hc hash0 ++ ([(.int .i64 (0)), (.int .i64 (0)), (.int .i64 (0))] : List Value))) (z := (.agg ⟨(([(.int .i64 (0)), (.int .i64 (0))] : List Value) ++ hc hash0 ++ ([(.int .i64 (0)), (.int .i64 (0)), (.int .i64 (0))] : List Value))⟩)) rfl H18 (by kernel_rfl) (by kernel_rfl) ?_
 intro b20 w21 (H22 : Sat w [cellC b 107 ([(.map (some mb))] : List Value), mapC mb signedV (Value.int .i64) (marks L), cellC r 88 ([(.slice a16 ((signL L (yC cl seq hash0 p)).length) c17)] : List Value), rowC 120 2 (.slice a16 ((signL L (yC cl seq hash0 p)).length) c17) ((signL L (yC cl seq hash0 p)).length) ((signL L (yC cl seq hash0 p)).flatMap encS), restC w (sepC (bothL b mb r a c L)).fp, cellC b2 54 ([(.pointer (some ⟨b, 0, none⟩)), (.pointer (some ⟨r, 0, none⟩))] : List Value), cellC b6 38 ([(.int .i64 (cl)), (.int .i64 (seq))] : List Value), cellC b10 44 (([(.int .i64 (0)), (.int .i64 (0))] : List Value) ++ hc hash0 ++ ([(.int .i64 (0)), (.int .i64 (0)), (.int .i64 (0))] : List Value)), cellC b20 44 (([(.int .i64 (0)), (.int .i64 (0))] : List Value) ++ hc hash0 ++ ([(.int .i64 (0)), (.int .i64 (0)), (.int .i64 (0))] : List Value))] w21)
 refine hK19 _ _ ?_
 clear hK19 K19
 refine wl_do (wants0 rfl) (fun K23 hK23 => ?_)
 refine d_storeX (vs := (([(.int .i64 ((mkC L cl seq hash0 p).cl)), (.int .i64 ((mkC L cl seq hash0 p).seq))] : List Value) ++ hc (mkC L cl seq hash0 p).h ++ ([(.int .i64 ((mkC L cl seq hash0 p).len)), (.int .i64 ((mkC L cl seq hash0 p).sb)), (.int .i64 ((mkC L cl seq hash0 p).sm))] : List Value))) (cs' := (([(.int .i64 ((mkC L cl seq hash0 p).cl)), (.int .i64 ((mkC L cl seq hash0 p).seq))] : List Value) ++ hc (mkC L cl seq hash0 p).h ++ ([(.int .i64 ((mkC L cl seq hash0 p).len)), (.int .i64 ((mkC L cl seq hash0 p).sb)), (.int .i64 ((mkC L cl seq hash0 p).sm))] : List Value))) rfl H22 8 rfl rfl rfl rfl (by kernel_rfl) (Nat.le_of_ble_eq_true (by kernel_rfl)) (Nat.le_of_ble_eq_true (by kernel_rfl)) (by kernel_rfl) (by kernel_rfl) ?_
 intro w24 (H25 : Sat w [cellC b 107 ([(.map (some mb))] : List Value), mapC mb signedV (Value.int .i64) (marks L), cellC r 88 ([(.slice a16 ((signL L (yC cl seq hash0 p)).length) c17)] : List Value), rowC 120 2 (.slice a16 ((signL L (yC cl seq hash0 p)).length) c17) ((signL L (yC cl seq hash0 p)).length) ((signL L (yC cl seq hash0 p)).flatMap encS), restC w (sepC (bothL b mb r a c L)).fp, cellC b2 54 ([(.pointer (some ⟨b, 0, none⟩)), (.pointer (some ⟨r, 0, none⟩))] : List Value), cellC b6 38 ([(.int .i64 (cl)), (.int .i64 (seq))] : List Value), cellC b10 44 (([(.int .i64 (0)), (.int .i64 (0))] : List Value) ++ hc hash0 ++ ([(.int .i64 (0)), (.int .i64 (0)), (.int .i64 (0))] : List Value)), cellC b20 44 (([(.int .i64 ((mkC L cl seq hash0 p).cl)), (.int .i64 ((mkC L cl seq hash0 p).seq))] : List Value) ++ hc (mkC L cl seq hash0 p).h ++ ([(.int .i64 ((mkC L cl seq hash0 p).len)), (.int .i64 ((mkC L cl seq hash0 p).sb)), (.int .i64 ((mkC L cl seq hash0 p).sm))] : List Value))] w24)
 refine hK23 _ _ ?_
 clear hK23 K23
 refine w_nil ?_
 refine then_normal ?_
 refine w_seq ?_
 refine k_start H25 [cellC r 88 ([(.slice a16 ((signL L (yC cl seq hash0 p)).length) c17)] : List Value), rowC 120 2 (.slice a16 ((signL L (yC cl seq hash0 p)).length) c17) ((signL L (yC cl seq hash0 p)).length) ((signL L (yC cl seq hash0 p)).flatMap encS), restC w (sepC (bothL b mb r a c L)).fp, cellC b2 54 ([(pt b 0), (pt r 0)] : List Value), cellC b6 38 ([(.int .i64 (cl)), (.int .i64 (seq))] : List Value), cellC b10 44 (([(.int .i64 (0)), (.int .i64 (0))] : List Value) ++ hc hash0 ++ ([(.int .i64 (0)), (.int .i64 (0)), (.int .i64 (0))] : List Value)), cellC b20 44 (([(.int .i64 ((mkC L cl seq hash0 p).cl)), (.int .i64 ((mkC L cl seq hash0 p).seq))] : List Value) ++ hc (mkC L cl seq hash0 p).h ++ ([(.int .i64 ((mkC L cl seq hash0 p).len)), (.int .i64 ((mkC L cl seq hash0 p).sb)), (.int .i64 ((mkC L cl seq hash0 p).sm))] : List Value))] [9] 10 rfl (by kernel_rfl) (fun Hx => (Hx.pick [2, 3, 4, 5, 6, 7, 8] (by decide))) ?_
 intro w27 H28 S29
 refine k_pure 0 rfl (by kernel_rfl) (by kernel_rfl) (by kernel_rfl) (fun _ _ _ h => h) S29 (wants0 rfl) rfl (d := 14) (v := (pt b2 0)) rfl (fun _ => (by kernel_rfl)) ?_
 refine k_val 1 rfl (by kernel_rfl) (by kernel_rfl) (by kernel_rfl) (fun _ _ _ h => h) S29 (wants0 rfl) rfl (by kernel_rfl) (d := 15) (v := (pt b 0)) rfl (fun _ H' => (e_load1 rfl (by kernel_rfl) (H'.cell 3 rfl rfl))) ?_
 refine k_pure 2 rfl (by kernel_rfl) (by kernel_rfl) (by kernel_rfl) (fun _ _ _ h => h) S29 (wants0 rfl) rfl (d := 16) (v := (pt b6 0)) rfl (fun _ => (by kernel_rfl)) ?_
 refine k_val 3 rfl (by kernel_rfl) (by kernel_rfl) (by kernel_rfl) (fun _ _ _ h => h) S29 (wants0 rfl) rfl (by kernel_rfl) (d := 17) (v := (.int .i64 (cl))) rfl (fun _ H' => (e_load1 rfl (by kernel_rfl) (H'.cell 4 rfl rfl))) ?_
 refine k_pure 4 rfl (by kernel_rfl) (by kernel_rfl) (by kernel_rfl) (fun _ _ _ h => h) S29 (wants0 rfl) rfl (d := 18) (v := (.int .i64 (1000 + cl))) rfl (fun _ => (e_int (z := 1000 + cl) (by kernel_rfl) (IntWalk.i64_in _ (by omega)))) ?_
 refine k_val 5 rfl (by kernel_rfl) (by kernel_rfl) (by kernel_rfl) (fun _ _ _ h => h) S29 (wants0 rfl) rfl (by kernel_rfl) (d := 19) (v := (.agg ⟨(([(.int .i64 ((mkC L cl seq hash0 p).cl)), (.int .i64 ((mkC L cl seq hash0 p).seq))] : List Value) ++ hc (mkC L cl seq hash0 p).h ++ ([(.int .i64 ((mkC L cl seq hash0 p).len)), (.int .i64 ((mkC L cl seq hash0 p).sb)), (.int .i64 ((mkC L cl seq hash0 p).sm))] : List Value))⟩)) rfl (fun _ H' => (e_loadN (vs := (([(.int .i64 ((mkC L cl seq hash0 p).cl)), (.int .i64 ((mkC L cl seq hash0 p).seq))] : List Value) ++ hc (mkC L cl seq hash0 p).h ++ ([(.int .i64 ((mkC L cl seq hash0 p).len)), (.int .i64 ((mkC L cl seq hash0 p).sb)), (.int .i64 ((mkC L cl seq hash0 p).sm))] : List Value))) rfl (by kernel_rfl) (by kernel_rfl) (by exact Nat.le_of_ble_eq_true (by kernel_rfl)) (H'.at 6 rfl) (by kernel_rfl))) ?_
 refine k_do 6 rfl (by kernel_rfl) (wants0 rfl) rfl (fun K30 hK30 => ?_)
 refine d_call (d := 20) rfl (by kernel_rfl) (rCommitText_any w27 (mkC L cl seq hash0 p) ⟨by show cl ≤ _; omega, hsq, by show (p.length : Int) ≤ _; omega⟩) ?_
 rintro _ w31 ⟨u32, rfl, k33, p34, q35⟩
 have H36 : Sat w [cellC b 107 ([(.map (some mb))] : List Value), mapC mb signedV (Value.int .i64) (marks L), cellC r 88 ([(.slice a16 ((signL L (yC cl seq hash0 p)).length) c17)] : List Value), rowC 120 2 (.slice a16 ((signL L (yC cl seq hash0 p)).length) c17) ((signL L (yC cl seq hash0 p)).length) ((signL L (yC cl seq hash0 p)).flatMap encS), restC w (sepC (bothL b mb r a c L)).fp, cellC b2 54 ([(pt b 0), (pt r 0)] : List Value), cellC b6 38 ([(.int .i64 (cl)), (.int .i64 (seq))] : List Value), cellC b10 44 (([(.int .i64 (0)), (.int .i64 (0))] : List Value) ++ hc hash0 ++ ([(.int .i64 (0)), (.int .i64 (0)), (.int .i64 (0))] : List Value)), cellC b20 44 (([(.int .i64 ((mkC L cl seq hash0 p).cl)), (.int .i64 ((mkC L cl seq hash0 p).seq))] : List Value) ++ hc (mkC L cl seq hash0 p).h ++ ([(.int .i64 ((mkC L cl seq hash0 p).len)), (.int .i64 ((mkC L cl seq hash0 p).sb)), (.int .i64 ((mkC L cl seq hash0 p).sm))] : List Value)), rowC 5 1 u32 ((commitB (mkC L cl seq hash0 p)).length) ((commitB (mkC L cl seq hash0 p)).flatMap encB)] w31 := H28.addU p34 k33 q35
 obtain ⟨a37, c38, rfl⟩ := ownsRow_shape (H36.at 9 rfl)
 refine ⟨_, rfl, ?_⟩
 have S39 := H36.pick [2, 3, 4, 5, 6, 7, 8] (by decide)
 refine hK30 _ _ S39 ?_
 clear hK30 K30
 refine k_do 7 rfl (by kernel_rfl) (wants0 rfl) rfl (fun K40 hK40 => ?_)
 refine d_call (d := 21) rfl (by kernel_rfl) (pSign_any w31 b mb L (.slice a37 ((commitB (mkC L cl seq hash0 p)).length) c38) (commitB (mkC L cl seq hash0 p)) (H36.fin [0, 1, 9] (by decide) rfl) (by omega) (1000 + cl)) ?_
 rintro _ w41 ⟨rfl, T42⟩
 have H43 : Sat w [cellC b 107 ([(.map (some mb))] : List Value), mapC mb signedV (Value.int .i64) (marks (signL L (⟨1000 + cl, (commitB (mkC L cl seq hash0 p))⟩ : Signed))), cellC r 88 ([(.slice a16 ((signL L (yC cl seq hash0 p)).length) c17)] : List Value), rowC 120 2 (.slice a16 ((signL L (yC cl seq hash0 p)).length) c17) ((signL L (yC cl seq hash0 p)).length) ((signL L (yC cl seq hash0 p)).flatMap encS), restC w (sepC (bothL b mb r a c L)).fp, cellC b2 54 ([(pt b 0), (pt r 0)] : List Value), cellC b6 38 ([(.int .i64 (cl)), (.int .i64 (seq))] : List Value), cellC b10 44 (([(.int .i64 (0)), (.int .i64 (0))] : List Value) ++ hc hash0 ++ ([(.int .i64 (0)), (.int .i64 (0)), (.int .i64 (0))] : List Value)), cellC b20 44 (([(.int .i64 ((mkC L cl seq hash0 p).cl)), (.int .i64 ((mkC L cl seq hash0 p).seq))] : List Value) ++ hc (mkC L cl seq hash0 p).h ++ ([(.int .i64 ((mkC L cl seq hash0 p).len)), (.int .i64 ((mkC L cl seq hash0 p).sb)), (.int .i64 ((mkC L cl seq hash0 p).sm))] : List Value)), rowC 5 1 (.slice a37 ((commitB (mkC L cl seq hash0 p)).length) c38) ((commitB (mkC L cl seq hash0 p)).length) ((commitB (mkC L cl seq hash0 p)).flatMap encB)] w41 := (Sat.turnL (L' := [cellC b 107 ([(.map (some mb))] : List Value), mapC mb signedV (Value.int .i64) (marks (signL L (⟨1000 + cl, (commitB (mkC L cl seq hash0 p))⟩ : Signed))), rowC 5 1 (.slice a37 ((commitB (mkC L cl seq hash0 p)).length) c38) ((commitB (mkC L cl seq hash0 p)).length) ((commitB (mkC L cl seq hash0 p)).flatMap encB)]) (R := [cellC r 88 ([(.slice a16 ((signL L (yC cl seq hash0 p)).length) c17)] : List Value), rowC 120 2 (.slice a16 ((signL L (yC cl seq hash0 p)).length) c17) ((signL L (yC cl seq hash0 p)).length) ((signL L (yC cl seq hash0 p)).flatMap encS), restC w (sepC (bothL b mb r a c L)).fp, cellC b2 54 ([(pt b 0), (pt r 0)] : List Value), cellC b6 38 ([(.int .i64 (cl)), (.int .i64 (seq))] : List Value), cellC b10 44 (([(.int .i64 (0)), (.int .i64 (0))] : List Value) ++ hc hash0 ++ ([(.int .i64 (0)), (.int .i64 (0)), (.int .i64 (0))] : List Value)), cellC b20 44 (([(.int .i64 ((mkC L cl seq hash0 p).cl)), (.int .i64 ((mkC L cl seq hash0 p).seq))] : List Value) ++ hc (mkC L cl seq hash0 p).h ++ ([(.int .i64 ((mkC L cl seq hash0 p).len)), (.int .i64 ((mkC L cl seq hash0 p).sb)), (.int .i64 ((mkC L cl seq hash0 p).sm))] : List Value))]) H36 [0, 1, 9] [2, 3, 4, 5, 6, 7, 8] (by decide) (by kernel_rfl) rfl T42).pick [0, 1, 3, 4, 5, 6, 7, 8, 9, 2] (by decide)
 refine ⟨_, rfl, ?_⟩
 have S44 := H43.pick [2, 3, 4, 5, 6, 7, 8] (by decide)
 refine hK40 _ _ S44 ?_
 clear hK40 K40
 refine k_pure 8 rfl (by kernel_rfl) (by kernel_rfl) (by kernel_rfl) (fun _ _ _ h => h) S44 (wants0 rfl) rfl (d := 22) (v := (pt b20 35)) rfl (fun _ => (by kernel_rfl)) ?_
 refine k_brk 9 (Sat w [cellC r 88 ([(.slice a16 ((signL L (yC cl seq hash0 p)).length) c17)] : List Value), rowC 120 2 (.slice a16 ((signL L (yC cl seq hash0 p)).length) c17) ((signL L (yC cl seq hash0 p)).length) ((signL L (yC cl seq hash0 p)).flatMap encS), restC w (sepC (bothL b mb r a c L)).fp, cellC b2 54 ([(pt b 0), (pt r 0)] : List Value), cellC b6 38 ([(.int .i64 (cl)), (.int .i64 (seq))] : List Value), cellC b10 44 (([(.int .i64 (0)), (.int .i64 (0))] : List Value) ++ hc hash0 ++ ([(.int .i64 (0)), (.int .i64 (0)), (.int .i64 (0))] : List Value))]) rfl (by kernel_rfl) (wants0 rfl) rfl (fun K45 hK45 => ?_)
 refine d_storeX (vs := ([(.int .i64 (1000 + cl)), (.int .i64 (markOf (signL L (⟨1000 + cl, (commitB (mkC L cl seq hash0 p))⟩ : Signed)) (⟨1000 + cl, (commitB (mkC L cl seq hash0 p))⟩ : Signed)))] : List Value)) (cs' := (([(.int .i64 ((mkC L cl seq hash0 p).cl)), (.int .i64 ((mkC L cl seq hash0 p).seq))] : List Value) ++ hc (mkC L cl seq hash0 p).h ++ ([(.int .i64 ((mkC L cl seq hash0 p).len)), (.int .i64 (1000 + cl)), (.int .i64 (markOf (signL L (⟨1000 + cl, (commitB (mkC L cl seq hash0 p))⟩ : Signed)) (⟨1000 + cl, (commitB (mkC L cl seq hash0 p))⟩ : Signed)))] : List Value))) rfl H43 8 rfl rfl rfl rfl (by kernel_rfl) (Nat.le_of_ble_eq_true (by kernel_rfl)) (Nat.le_of_ble_eq_true (by kernel_rfl)) (by kernel_rfl) (by kernel_rfl) ?_
 intro w46 (H47 : Sat w [cellC b 107 ([(.map (some mb))] : List Value), mapC mb signedV (Value.int .i64) (marks (signL L (⟨1000 + cl, (commitB (mkC L cl seq hash0 p))⟩ : Signed))), cellC r 88 ([(.slice a16 ((signL L (yC cl seq hash0 p)).length) c17)] : List Value), rowC 120 2 (.slice a16 ((signL L (yC cl seq hash0 p)).length) c17) ((signL L (yC cl seq hash0 p)).length) ((signL L (yC cl seq hash0 p)).flatMap encS), restC w (sepC (bothL b mb r a c L)).fp, cellC b2 54 ([(.pointer (some ⟨b, 0, none⟩)), (.pointer (some ⟨r, 0, none⟩))] : List Value), cellC b6 38 ([(.int .i64 (cl)), (.int .i64 (seq))] : List Value), cellC b10 44 (([(.int .i64 (0)), (.int .i64 (0))] : List Value) ++ hc hash0 ++ ([(.int .i64 (0)), (.int .i64 (0)), (.int .i64 (0))] : List Value)), cellC b20 44 (([(.int .i64 ((mkC L cl seq hash0 p).cl)), (.int .i64 ((mkC L cl seq hash0 p).seq))] : List Value) ++ hc (mkC L cl seq hash0 p).h ++ ([(.int .i64 ((mkC L cl seq hash0 p).len)), (.int .i64 (1000 + cl)), (.int .i64 (markOf (signL L (⟨1000 + cl, (commitB (mkC L cl seq hash0 p))⟩ : Signed)) (⟨1000 + cl, (commitB (mkC L cl seq hash0 p))⟩ : Signed)))] : List Value)), rowC 5 1 (.slice a37 ((commitB (mkC L cl seq hash0 p)).length) c38) ((commitB (mkC L cl seq hash0 p)).length) ((commitB (mkC L cl seq hash0 p)).flatMap encB)] w46)
 have S49 := H47.pick [2, 3, 4, 5, 6, 7] (by decide)
 refine hK45 _ _ S49 ?_
 clear hK45 K45
 refine h_fin (by kernel_rfl) ?_
 refine then_normal ?_
 refine w_seq ?_
 refine w_lit ?_
 refine wv 23 (.agg ⟨(([(.int .i64 ((mkC L cl seq hash0 p).cl)), (.int .i64 ((mkC L cl seq hash0 p).seq))] : List Value) ++ hc (mkC L cl seq hash0 p).h ++ ([(.int .i64 ((mkC L cl seq hash0 p).len)), (.int .i64 (1000 + cl)), (.int .i64 (markOf (signL L (⟨1000 + cl, (commitB (mkC L cl seq hash0 p))⟩ : Signed)) (⟨1000 + cl, (commitB (mkC L cl seq hash0 p))⟩ : Signed)))] : List Value))⟩) ?_ (hr := e_loadN (vs := (([(.int .i64 ((mkC L cl seq hash0 p).cl)), (.int .i64 ((mkC L cl seq hash0 p).seq))] : List Value) ++ hc (mkC L cl seq hash0 p).h ++ ([(.int .i64 ((mkC L cl seq hash0 p).len)), (.int .i64 (1000 + cl)), (.int .i64 (markOf (signL L (⟨1000 + cl, (commitB (mkC L cl seq hash0 p))⟩ : Signed)) (⟨1000 + cl, (commitB (mkC L cl seq hash0 p))⟩ : Signed)))] : List Value))) rfl (by kernel_rfl) (by kernel_rfl) (by exact Nat.le_of_ble_eq_true (by kernel_rfl)) (H47.at 8 rfl) (by kernel_rfl))
 refine wl_do (wants0 rfl) (fun K50 hK50 => ?_)
 refine d_storeX (vs := (([(.int .i64 ((mkC L cl seq hash0 p).cl)), (.int .i64 ((mkC L cl seq hash0 p).seq))] : List Value) ++ hc (mkC L cl seq hash0 p).h ++ ([(.int .i64 ((mkC L cl seq hash0 p).len)), (.int .i64 (1000 + cl)), (.int .i64 (markOf (signL L (⟨1000 + cl, (commitB (mkC L cl seq hash0 p))⟩ : Signed)) (⟨1000 + cl, (commitB (mkC L cl seq hash0 p))⟩ : Signed)))] : List Value))) (cs' := (([(.int .i64 ((mkC L cl seq hash0 p).cl)), (.int .i64 ((mkC L cl seq hash0 p).seq))] : List Value) ++ hc (mkC L cl seq hash0 p).h ++ ([(.int .i64 ((mkC L cl seq hash0 p).len)), (.int .i64 (1000 + cl)), (.int .i64 (markOf (signL L (⟨1000 + cl, (commitB (mkC L cl seq hash0 p))⟩ : Signed)) (⟨1000 + cl, (commitB (mkC L cl seq hash0 p))⟩ : Signed)))] : List Value))) rfl H47 7 rfl rfl rfl rfl (by kernel_rfl) (Nat.le_of_ble_eq_true (by kernel_rfl)) (Nat.le_of_ble_eq_true (by kernel_rfl)) (by kernel_rfl) (by kernel_rfl) ?_
 intro w51 (H52 : Sat w [cellC b 107 ([(.map (some mb))] : List Value), mapC mb signedV (Value.int .i64) (marks (signL L (⟨1000 + cl, (commitB (mkC L cl seq hash0 p))⟩ : Signed))), cellC r 88 ([(.slice a16 ((signL L (yC cl seq hash0 p)).length) c17)] : List Value), rowC 120 2 (.slice a16 ((signL L (yC cl seq hash0 p)).length) c17) ((signL L (yC cl seq hash0 p)).length) ((signL L (yC cl seq hash0 p)).flatMap encS), restC w (sepC (bothL b mb r a c L)).fp, cellC b2 54 ([(.pointer (some ⟨b, 0, none⟩)), (.pointer (some ⟨r, 0, none⟩))] : List Value), cellC b6 38 ([(.int .i64 (cl)), (.int .i64 (seq))] : List Value), cellC b10 44 (([(.int .i64 ((mkC L cl seq hash0 p).cl)), (.int .i64 ((mkC L cl seq hash0 p).seq))] : List Value) ++ hc (mkC L cl seq hash0 p).h ++ ([(.int .i64 ((mkC L cl seq hash0 p).len)), (.int .i64 (1000 + cl)), (.int .i64 (markOf (signL L (⟨1000 + cl, (commitB (mkC L cl seq hash0 p))⟩ : Signed)) (⟨1000 + cl, (commitB (mkC L cl seq hash0 p))⟩ : Signed)))] : List Value)), cellC b20 44 (([(.int .i64 ((mkC L cl seq hash0 p).cl)), (.int .i64 ((mkC L cl seq hash0 p).seq))] : List Value) ++ hc (mkC L cl seq hash0 p).h ++ ([(.int .i64 ((mkC L cl seq hash0 p).len)), (.int .i64 (1000 + cl)), (.int .i64 (markOf (signL L (⟨1000 + cl, (commitB (mkC L cl seq hash0 p))⟩ : Signed)) (⟨1000 + cl, (commitB (mkC L cl seq hash0 p))⟩ : Signed)))] : List Value)), rowC 5 1 (.slice a37 ((commitB (mkC L cl seq hash0 p)).length) c38) ((commitB (mkC L cl seq hash0 p)).length) ((commitB (mkC L cl seq hash0 p)).flatMap encB)] w51)
 refine hK50 _ _ ?_
 clear hK50 K50
 refine w_nil ?_
 refine then_normal ?_
 refine w_ret ?_
 refine end1 rfl (res_cellN (vs := (([(.int .i64 ((mkC L cl seq hash0 p).cl)), (.int .i64 ((mkC L cl seq hash0 p).seq))] : List Value) ++ hc (mkC L cl seq hash0 p).h ++ ([(.int .i64 ((mkC L cl seq hash0 p).len)), (.int .i64 (1000 + cl)), (.int .i64 (markOf (signL L (⟨1000 + cl, (commitB (mkC L cl seq hash0 p))⟩ : Signed)) (⟨1000 + cl, (commitB (mkC L cl seq hash0 p))⟩ : Signed)))] : List Value))) rfl (by kernel_rfl) (by kernel_rfl) (by exact Nat.le_of_ble_eq_true (by kernel_rfl)) (H52.at 7 rfl) (by kernel_rfl)) ?_
 exact ⟨a16, c17, rfl, H52.pick [0, 1, 2, 3, 4] (by decide)⟩

set_option maxRecDepth 100000 in
set_option maxHeartbeats 2000000 in
theorem bkStamp_any (w : World) (b mb r : Nat) (a : Option Addr) (c : Nat) (L : List Signed) (hB : (sepC (bothL b mb r a c L)).ok w) (q : Int) (x : CommitD) (t : Int) (hr : q ≤ 9223372036854775807) (hx : CoOk x) (ht : 0 ≤ t ∧ t < 18446744073709551616) (hL : L.length ≤ 100000) (hn : L.Nodup) :
  Calls Try.prog 29 #[(.agg ⟨([(.pointer (some ⟨b, 0, none⟩)), (.pointer (some ⟨r, 0, none⟩))] : List Value)⟩), (.int .i64 (q)), (.agg ⟨(([(.int .i64 (x.cl)), (.int .i64 (x.seq))] : List Value) ++ hc x.h ++ ([(.int .i64 (x.len)), (.int .i64 (x.sb)), (.int .i64 (x.sm))] : List Value))⟩), (.int .u64 (t))] w fun e w' => ∃ a' c', e = .returned (.agg ⟨encSt (mkS L q x t)⟩) ∧ Sat w [cellC b 107 [.map (some mb)], mapC mb signedV (Value.int .i64) (marks (signL L (yS q x t))), cellC r 88 [.slice a' (signL L (yS q x t)).length c'], rowC 120 2 (.slice a' (signL L (yS q x t)).length c') (signL L (yS q x t)).length ((signL L (yS q x t)).flatMap encS), restC w (sepC (bothL b mb r a c L)).fp] w' := by
 have H : Sat w [cellC b 107 ([(.map (some mb))] : List Value), mapC mb signedV (Value.int .i64) (marks L), cellC r 88 ([(.slice a L.length c)] : List Value), rowC 120 2 (.slice a L.length c) L.length (L.flatMap encS), restC w (sepC (bothL b mb r a c L)).fp] w := Sat.start (bothL b mb r a c L) hB
 refine calls_fr Try.func29 rfl 36 rfl (Nat.le_of_ble_eq_true rfl) ?_
 refine w_seq ?_
 refine w_lit ?_
 refine wl_do (wants0 rfl) (fun K1 hK1 => ?_)
 refine d_box (vs := ([(pt b 0), (pt r 0)] : List Value)) rfl H rfl rfl ?_
 intro b2 w3 (H4 : Sat w [cellC b 107 ([(.map (some mb))] : List Value), mapC mb signedV (Value.int .i64) (marks L), cellC r 88 ([(.slice a L.length c)] : List Value), rowC 120 2 (.slice a L.length c) L.length (L.flatMap encS), restC w (sepC (bothL b mb r a c L)).fp, cellC b2 54 ([(.pointer (some ⟨b, 0, none⟩)), (.pointer (some ⟨r, 0, none⟩))] : List Value)] w3)
 refine hK1 _ _ ?_
 clear hK1 K1
 refine wl_do (wants0 rfl) (fun K5 hK5 => ?_)
 refine d_box (vs := (([(.int .i64 (x.cl)), (.int .i64 (x.seq))] : List Value) ++ hc x.h ++ ([(.int .i64 (x.len)), (.int .i64 (x.sb)), (.int .i64 (x.sm))] : List Value))) rfl H4 rfl rfl ?_
 intro b6 w7 (H8 : Sat w [cellC b 107 ([(.map (some mb))] : List Value), mapC mb signedV (Value.int .i64) (marks L), cellC r 88 ([(.slice a L.length c)] : List Value), rowC 120 2 (.slice a L.length c) L.length (L.flatMap encS), restC w (sepC (bothL b mb r a c L)).fp, cellC b2 54 ([(.pointer (some ⟨b, 0, none⟩)), (.pointer (some ⟨r, 0, none⟩))] : List Value), cellC b6 44 (([(.int .i64 (x.cl)), (.int .i64 (x.seq))] : List Value) ++ hc x.h ++ ([(.int .i64 (x.len)), (.int .i64 (x.sb)), (.int .i64 (x.sm))] : List Value))] w7)
 refine hK5 _ _ ?_
 clear hK5 K5
 refine wl_do (wants0 rfl) (fun K9 hK9 => ?_)
 refine d_alloc (zs := (([(.int .i64 (0)), (.int .i64 (0)), (.int .i64 (0))] : List Value) ++ hc hash0 ++ ([(.int .u64 (0)), (.int .i64 (0)), (.int .i64 (0))] : List Value))) (z := (.agg ⟨(([(.int .i64 (0)), (.int .i64 (0)), (.int .i64 (0))] : List Value) ++ hc hash0 ++ ([(.int .u64 (0)), (.int .i64 (0)), (.int .i64 (0))] : List Value))⟩)) rfl H8 (by kernel_rfl) (by kernel_rfl) ?_
 intro b10 w11 (H12 : Sat w [cellC b 107 ([(.map (some mb))] : List Value), mapC mb signedV (Value.int .i64) (marks L), cellC r 88 ([(.slice a L.length c)] : List Value), rowC 120 2 (.slice a L.length c) L.length (L.flatMap encS), restC w (sepC (bothL b mb r a c L)).fp, cellC b2 54 ([(.pointer (some ⟨b, 0, none⟩)), (.pointer (some ⟨r, 0, none⟩))] : List Value), cellC b6 44 (([(.int .i64 (x.cl)), (.int .i64 (x.seq))] : List Value) ++ hc x.h ++ ([(.int .i64 (x.len)), (.int .i64 (x.sb)), (.int .i64 (x.sm))] : List Value)), cellC b10 49 (([(.int .i64 (0)), (.int .i64 (0)), (.int .i64 (0))] : List Value) ++ hc hash0 ++ ([(.int .u64 (0)), (.int .i64 (0)), (.int .i64 (0))] : List Value))] w11)
 refine hK9 _ _ ?_
 clear hK9 K9
 refine w_nil ?_
 refine then_normal ?_
 refine w_seq ?_
 refine w_lit ?_
 refine wv 10 (.int .i64 (q)) ?_
 refine wv 11 (pt b6 0) ?_
 refine wv 12 (.agg ⟨([(.int .i64 (x.cl)), (.int .i64 (x.seq))] : List Value)⟩) ?_ (hr := e_loadN (vs := ([(.int .i64 (x.cl)), (.int .i64 (x.seq))] : List Value)) rfl (by kernel_rfl) (by kernel_rfl) (by exact Nat.le_of_ble_eq_true (by kernel_rfl)) (H12.at 6 rfl) (by kernel_rfl))
 refine wv 13 (pt b6 2) ?_
 refine wv 14 (.agg ⟨(hc x.h)⟩) ?_ (hr := e_loadN (vs := (hc x.h)) rfl (by kernel_rfl) (by kernel_rfl) (by exact Nat.le_of_ble_eq_true (by kernel_rfl)) (H12.at 6 rfl) (by kernel_rfl))
 refine wv 15 (.int .u64 (t)) ?_
 refine wv 16 (.agg ⟨(([(.int .i64 (q)), (.int .i64 (x.cl)), (.int .i64 (x.seq))] : List Value) ++ hc x.h ++ ([(.int .u64 (t)), (.int .i64 (0)), (.int .i64 (0))] : List Value))⟩) ?_
 refine wl_do (wants0 rfl) (fun K13 hK13 => ?_)
 refine d_alloc (zs := (([(.int .i64 (0)), (.int .i64 (0)), (.int .i64 (0))] : List Value) ++ hc hash0 ++ ([(.int .u64 (0)), (.int .i64 (0)), (.int .i64 (0))] : List Value))) (z := (.agg ⟨(([(.int .i64 (0)), (.int .i64 (0)), (.int .i64 (0))] : List Value) ++ hc hash0 ++ ([(.int .u64 (0)), (.int .i64 (0)), (.int .i64 (0))] : List Value))⟩)) rfl H12 (by kernel_rfl) (by kernel_rfl) ?_
 intro b14 w15 (H16 : Sat w [cellC b 107 ([(.map (some mb))] : List Value), mapC mb signedV (Value.int .i64) (marks L), cellC r 88 ([(.slice a L.length c)] : List Value), rowC 120 2 (.slice a L.length c) L.length (L.flatMap encS), restC w (sepC (bothL b mb r a c L)).fp, cellC b2 54 ([(.pointer (some ⟨b, 0, none⟩)), (.pointer (some ⟨r, 0, none⟩))] : List Value), cellC b6 44 (([(.int .i64 (x.cl)), (.int .i64 (x.seq))] : List Value) ++ hc x.h ++ ([(.int .i64 (x.len)), (.int .i64 (x.sb)), (.int .i64 (x.sm))] : List Value)), cellC b10 49 (([(.int .i64 (0)), (.int .i64 (0)), (.int .i64 (0))] : List Value) ++ hc hash0 ++ ([(.int .u64 (0)), (.int .i64 (0)), (.int .i64 (0))] : List Value)), cellC b14 49 (([(.int .i64 (0)), (.int .i64 (0)), (.int .i64 (0))] : List Value) ++ hc hash0 ++ ([(.int .u64 (0)), (.int .i64 (0)), (.int .i64 (0))] : List Value))] w15)
 refine hK13 _ _ ?_
 clear hK13 K13
 refine wl_do (wants0 rfl) (fun K17 hK17 => ?_)
 refine d_storeX (vs := (([(.int .i64 (q)), (.int .i64 (x.cl)), (.int .i64 (x.seq))] : List Value) ++ hc x.h ++ ([(.int .u64 (t)), (.int .i64 (0)), (.int .i64 (0))] : List Value))) (cs' := (([(.int .i64 (q)), (.int .i64 (x.cl)), (.int .i64 (x.seq))] : List Value) ++ hc x.h ++ ([(.int .u64 (t)), (.int .i64 (0)), (.int .i64 (0))] : List Value))) rfl H16 8 rfl rfl rfl rfl (by kernel_rfl) (Nat.le_of_ble_eq_true (by kernel_rfl)) (Nat.le_of_ble_eq_true (by kernel_rfl)) (by kernel_rfl) (by kernel_rfl) ?_
 intro w18 (H19 : Sat w [cellC b 107 ([(.map (some mb))] : List Value), mapC mb signedV (Value.int .i64) (marks L), cellC r 88 ([(.slice a L.length c)] : List Value), rowC 120 2 (.slice a L.length c) L.length (L.flatMap encS), restC w (sepC (bothL b mb r a c L)).fp, cellC b2 54 ([(.pointer (some ⟨b, 0, none⟩)), (.pointer (some ⟨r, 0, none⟩))] : List Value), cellC b6 44 (([(.int .i64 (x.cl)), (.int .i64 (x.seq))] : List Value) ++ hc x.h ++ ([(.int .i64 (x.len)), (.int .i64 (x.sb)), (.int .i64 (x.sm))] : List Value)), cellC b10 49 (([(.int .i64 (0)), (.int .i64 (0)), (.int .i64 (0))] : List Value) ++ hc hash0 ++ ([(.int .u64 (0)), (.int .i64 (0)), (.int .i64 (0))] : List Value)), cellC b14 49 (([(.int .i64 (q)), (.int .i64 (x.cl)), (.int .i64 (x.seq))] : List Value) ++ hc x.h ++ ([(.int .u64 (t)), (.int .i64 (0)), (.int .i64 (0))] : List Value))] w18)
 refine hK17 _ _ ?_
 clear hK17 K17
 refine w_nil ?_
 refine then_normal ?_
 refine w_seq ?_
 refine k_start H19 [cellC b 107 ([(.map (some mb))] : List Value), mapC mb signedV (Value.int .i64) (marks L), restC w (sepC (bothL b mb r a c L)).fp, cellC b2 54 ([(pt b 0), (pt r 0)] : List Value), cellC b6 44 (([(.int .i64 (x.cl)), (.int .i64 (x.seq))] : List Value) ++ hc x.h ++ ([(.int .i64 (x.len)), (.int .i64 (x.sb)), (.int .i64 (x.sm))] : List Value)), cellC b10 49 (([(.int .i64 (0)), (.int .i64 (0)), (.int .i64 (0))] : List Value) ++ hc hash0 ++ ([(.int .u64 (0)), (.int .i64 (0)), (.int .i64 (0))] : List Value)), cellC b14 49 (([(.int .i64 (q)), (.int .i64 (x.cl)), (.int .i64 (x.seq))] : List Value) ++ hc x.h ++ ([(.int .u64 (t)), (.int .i64 (0)), (.int .i64 (0))] : List Value))] [7] 8 rfl (by kernel_rfl) (fun Hx => (Hx.pick [0, 1, 4, 5, 6, 7, 8] (by decide))) ?_
 intro w21 H22 S23
 refine k_pure 0 rfl (by kernel_rfl) (by kernel_rfl) (by kernel_rfl) (fun _ _ _ h => h) S23 (wants0 rfl) rfl (d := 17) (v := (pt b2 1)) rfl (fun _ => (by kernel_rfl)) ?_
 refine k_val 1 rfl (by kernel_rfl) (by kernel_rfl) (by kernel_rfl) (fun _ _ _ h => h) S23 (wants0 rfl) rfl (by kernel_rfl) (d := 18) (v := (pt r 0)) rfl (fun _ H' => (e_load1 rfl (by kernel_rfl) (H'.cell 3 rfl rfl))) ?_
 refine k_pure 2 rfl (by kernel_rfl) (by kernel_rfl) (by kernel_rfl) (fun _ _ _ h => h) S23 (wants0 rfl) rfl (d := 19) (v := (.int .i64 (q))) rfl (fun _ => (by kernel_rfl)) ?_
 refine k_val 3 rfl (by kernel_rfl) (by kernel_rfl) (by kernel_rfl) (fun _ _ _ h => h) S23 (wants0 rfl) rfl (by kernel_rfl) (d := 20) (v := (.agg ⟨(([(.int .i64 (q)), (.int .i64 (x.cl)), (.int .i64 (x.seq))] : List Value) ++ hc x.h ++ ([(.int .u64 (t)), (.int .i64 (0)), (.int .i64 (0))] : List Value))⟩)) rfl (fun _ H' => (e_loadN (vs := (([(.int .i64 (q)), (.int .i64 (x.cl)), (.int .i64 (x.seq))] : List Value) ++ hc x.h ++ ([(.int .u64 (t)), (.int .i64 (0)), (.int .i64 (0))] : List Value))) rfl (by kernel_rfl) (by kernel_rfl) (by exact Nat.le_of_ble_eq_true (by kernel_rfl)) (H'.at 6 rfl) (by kernel_rfl))) ?_
 refine k_do 4 rfl (by kernel_rfl) (wants0 rfl) rfl (fun K24 hK24 => ?_)
 refine d_call (d := 21) rfl (by kernel_rfl) (rStampText_any w21 (⟨q, x.cl, x.seq, x.h, t, 0, 0⟩ : StampD) ⟨hr, hx.1, hx.2.1, ht.1, ht.2⟩) ?_
 rintro _ w25 ⟨u26, rfl, k27, p28, q29⟩
 have H30 : Sat w [cellC b 107 ([(.map (some mb))] : List Value), mapC mb signedV (Value.int .i64) (marks L), cellC r 88 ([(.slice a L.length c)] : List Value), rowC 120 2 (.slice a L.length c) L.length (L.flatMap encS), restC w (sepC (bothL b mb r a c L)).fp, cellC b2 54 ([(pt b 0), (pt r 0)] : List Value), cellC b6 44 (([(.int .i64 (x.cl)), (.int .i64 (x.seq))] : List Value) ++ hc x.h ++ ([(.int .i64 (x.len)), (.int .i64 (x.sb)), (.int .i64 (x.sm))] : List Value)), cellC b10 49 (([(.int .i64 (0)), (.int .i64 (0)), (.int .i64 (0))] : List Value) ++ hc hash0 ++ ([(.int .u64 (0)), (.int .i64 (0)), (.int .i64 (0))] : List Value)), cellC b14 49 (([(.int .i64 (q)), (.int .i64 (x.cl)), (.int .i64 (x.seq))] : List Value) ++ hc x.h ++ ([(.int .u64 (t)), (.int .i64 (0)), (.int .i64 (0))] : List Value)), rowC 5 1 u26 ((stampB (⟨q, x.cl, x.seq, x.h, t, 0, 0⟩ : StampD)).length) ((stampB (⟨q, x.cl, x.seq, x.h, t, 0, 0⟩ : StampD)).flatMap encB)] w25 := H22.addU p28 k27 q29
 obtain ⟨a31, c32, rfl⟩ := ownsRow_shape (H30.at 9 rfl)
 refine ⟨_, rfl, ?_⟩
 have S33 := H30.pick [0, 1, 4, 5, 6, 7, 8] (by decide)
 refine hK24 _ _ S33 ?_
 clear hK24 K24
 refine k_do 5 rfl (by kernel_rfl) (wants0 rfl) rfl (fun K34 hK34 => ?_)
 refine d_call (d := 22) rfl (by kernel_rfl) (rbSign_any w25 r a c L (.slice a31 ((stampB (⟨q, x.cl, x.seq, x.h, t, 0, 0⟩ : StampD)).length) c32) (stampB (⟨q, x.cl, x.seq, x.h, t, 0, 0⟩ : StampD)) (H30.fin [2, 3, 9] (by decide) rfl) (by omega) hn q) ?_
 rintro _ w35 ⟨a37, c38, rfl, T36⟩
 have H39 : Sat w [cellC b 107 ([(.map (some mb))] : List Value), mapC mb signedV (Value.int .i64) (marks L), cellC r 88 ([(.slice a37 ((signL L (⟨q, (stampB (⟨q, x.cl, x.seq, x.h, t, 0, 0⟩ : StampD))⟩ : Signed)).length) c38)] : List Value), rowC 120 2 (.slice a37 ((signL L (⟨q, (stampB (⟨q, x.cl, x.seq, x.h, t, 0, 0⟩ : StampD))⟩ : Signed)).length) c38) ((signL L (⟨q, (stampB (⟨q, x.cl, x.seq, x.h, t, 0, 0⟩ : StampD))⟩ : Signed)).length) ((signL L (⟨q, (stampB (⟨q, x.cl, x.seq, x.h, t, 0, 0⟩ : StampD))⟩ : Signed)).flatMap encS), restC w (sepC (bothL b mb r a c L)).fp, cellC b2 54 ([(pt b 0), (pt r 0)] : List Value), cellC b6 44 (([(.int .i64 (x.cl)), (.int .i64 (x.seq))] : List Value) ++ hc x.h ++ ([(.int .i64 (x.len)), (.int .i64 (x.sb)), (.int .i64 (x.sm))] : List Value)), cellC b10 49 (([(.int .i64 (0)), (.int .i64 (0)), (.int .i64 (0))] : List Value) ++ hc hash0 ++ ([(.int .u64 (0)), (.int .i64 (0)), (.int .i64 (0))] : List Value)), cellC b14 49 (([(.int .i64 (q)), (.int .i64 (x.cl)), (.int .i64 (x.seq))] : List Value) ++ hc x.h ++ ([(.int .u64 (t)), (.int .i64 (0)), (.int .i64 (0))] : List Value)), rowC 5 1 (.slice a31 ((stampB (⟨q, x.cl, x.seq, x.h, t, 0, 0⟩ : StampD)).length) c32) ((stampB (⟨q, x.cl, x.seq, x.h, t, 0, 0⟩ : StampD)).length) ((stampB (⟨q, x.cl, x.seq, x.h, t, 0, 0⟩ : StampD)).flatMap encB)] w35 := (Sat.turnL (L' := [cellC r 88 ([(.slice a37 ((signL L (⟨q, (stampB (⟨q, x.cl, x.seq, x.h, t, 0, 0⟩ : StampD))⟩ : Signed)).length) c38)] : List Value), rowC 120 2 (.slice a37 ((signL L (⟨q, (stampB (⟨q, x.cl, x.seq, x.h, t, 0, 0⟩ : StampD))⟩ : Signed)).length) c38) ((signL L (⟨q, (stampB (⟨q, x.cl, x.seq, x.h, t, 0, 0⟩ : StampD))⟩ : Signed)).length) ((signL L (⟨q, (stampB (⟨q, x.cl, x.seq, x.h, t, 0, 0⟩ : StampD))⟩ : Signed)).flatMap encS), rowC 5 1 (.slice a31 ((stampB (⟨q, x.cl, x.seq, x.h, t, 0, 0⟩ : StampD)).length) c32) ((stampB (⟨q, x.cl, x.seq, x.h, t, 0, 0⟩ : StampD)).length) ((stampB (⟨q, x.cl, x.seq, x.h, t, 0, 0⟩ : StampD)).flatMap encB)]) (R := [cellC b 107 ([(.map (some mb))] : List Value), mapC mb signedV (Value.int .i64) (marks L), restC w (sepC (bothL b mb r a c L)).fp, cellC b2 54 ([(pt b 0), (pt r 0)] : List Value), cellC b6 44 (([(.int .i64 (x.cl)), (.int .i64 (x.seq))] : List Value) ++ hc x.h ++ ([(.int .i64 (x.len)), (.int .i64 (x.sb)), (.int .i64 (x.sm))] : List Value)), cellC b10 49 (([(.int .i64 (0)), (.int .i64 (0)), (.int .i64 (0))] : List Value) ++ hc hash0 ++ ([(.int .u64 (0)), (.int .i64 (0)), (.int .i64 (0))] : List Value)), cellC b14 49 (([(.int .i64 (q)), (.int .i64 (x.cl)), (.int .i64 (x.seq))] : List Value) ++ hc x.h ++ ([(.int .u64 (t)), (.int .i64 (0)), (.int .i64 (0))] : List Value))]) H30 [2, 3, 9] [0, 1, 4, 5, 6, 7, 8] (by decide) (by kernel_rfl) rfl T36).pick [3, 4, 0, 1, 5, 6, 7, 8, 9, 2] (by decide)
 refine ⟨_, rfl, ?_⟩
 have S40 := H39.pick [0, 1, 4, 5, 6, 7, 8] (by decide)
 refine hK34 _ _ S40 ?_
 clear hK34 K34
 refine k_pure 6 rfl (by kernel_rfl) (by kernel_rfl) (by kernel_rfl) (fun _ _ _ h => h) S40 (wants0 rfl) rfl (d := 23) (v := (pt b14 36)) rfl (fun _ => (by kernel_rfl)) ?_
 refine k_brk 7 (Sat w [cellC b 107 ([(.map (some mb))] : List Value), mapC mb signedV (Value.int .i64) (marks L), restC w (sepC (bothL b mb r a c L)).fp, cellC b2 54 ([(pt b 0), (pt r 0)] : List Value), cellC b6 44 (([(.int .i64 (x.cl)), (.int .i64 (x.seq))] : List Value) ++ hc x.h ++ ([(.int .i64 (x.len)), (.int .i64 (x.sb)), (.int .i64 (x.sm))] : List Value)), cellC b10 49 (([(.int .i64 (0)), (.int .i64 (0)), (.int .i64 (0))] : List Value) ++ hc hash0 ++ ([(.int .u64 (0)), (.int .i64 (0)), (.int .i64 (0))] : List Value))]) rfl (by kernel_rfl) (wants0 rfl) rfl (fun K41 hK41 => ?_)
 refine d_storeX (vs := ([(.int .i64 (q)), (.int .i64 (markOf (signL L (⟨q, (stampB (⟨q, x.cl, x.seq, x.h, t, 0, 0⟩ : StampD))⟩ : Signed)) (⟨q, (stampB (⟨q, x.cl, x.seq, x.h, t, 0, 0⟩ : StampD))⟩ : Signed)))] : List Value)) (cs' := (([(.int .i64 (q)), (.int .i64 (x.cl)), (.int .i64 (x.seq))] : List Value) ++ hc x.h ++ ([(.int .u64 (t)), (.int .i64 (q)), (.int .i64 (markOf (signL L (⟨q, (stampB (⟨q, x.cl, x.seq, x.h, t, 0, 0⟩ : StampD))⟩ : Signed)) (⟨q, (stampB (⟨q, x.cl, x.seq, x.h, t, 0, 0⟩ : StampD))⟩ : Signed)))] : List Value))) rfl H39 8 rfl rfl rfl rfl (by kernel_rfl) (Nat.le_of_ble_eq_true (by kernel_rfl)) (Nat.le_of_ble_eq_true (by kernel_rfl)) (by kernel_rfl) (by kernel_rfl) ?_
 intro w42 (H43 : Sat w [cellC b 107 ([(.map (some mb))] : List Value), mapC mb signedV (Value.int .i64) (marks L), cellC r 88 ([(.slice a37 ((signL L (⟨q, (stampB (⟨q, x.cl, x.seq, x.h, t, 0, 0⟩ : StampD))⟩ : Signed)).length) c38)] : List Value), rowC 120 2 (.slice a37 ((signL L (⟨q, (stampB (⟨q, x.cl, x.seq, x.h, t, 0, 0⟩ : StampD))⟩ : Signed)).length) c38) ((signL L (⟨q, (stampB (⟨q, x.cl, x.seq, x.h, t, 0, 0⟩ : StampD))⟩ : Signed)).length) ((signL L (⟨q, (stampB (⟨q, x.cl, x.seq, x.h, t, 0, 0⟩ : StampD))⟩ : Signed)).flatMap encS), restC w (sepC (bothL b mb r a c L)).fp, cellC b2 54 ([(.pointer (some ⟨b, 0, none⟩)), (.pointer (some ⟨r, 0, none⟩))] : List Value), cellC b6 44 (([(.int .i64 (x.cl)), (.int .i64 (x.seq))] : List Value) ++ hc x.h ++ ([(.int .i64 (x.len)), (.int .i64 (x.sb)), (.int .i64 (x.sm))] : List Value)), cellC b10 49 (([(.int .i64 (0)), (.int .i64 (0)), (.int .i64 (0))] : List Value) ++ hc hash0 ++ ([(.int .u64 (0)), (.int .i64 (0)), (.int .i64 (0))] : List Value)), cellC b14 49 (([(.int .i64 (q)), (.int .i64 (x.cl)), (.int .i64 (x.seq))] : List Value) ++ hc x.h ++ ([(.int .u64 (t)), (.int .i64 (q)), (.int .i64 (markOf (signL L (⟨q, (stampB (⟨q, x.cl, x.seq, x.h, t, 0, 0⟩ : StampD))⟩ : Signed)) (⟨q, (stampB (⟨q, x.cl, x.seq, x.h, t, 0, 0⟩ : StampD))⟩ : Signed)))] : List Value)), rowC 5 1 (.slice a31 ((stampB (⟨q, x.cl, x.seq, x.h, t, 0, 0⟩ : StampD)).length) c32) ((stampB (⟨q, x.cl, x.seq, x.h, t, 0, 0⟩ : StampD)).length) ((stampB (⟨q, x.cl, x.seq, x.h, t, 0, 0⟩ : StampD)).flatMap encB)] w42)
 have S45 := H43.pick [0, 1, 4, 5, 6, 7] (by decide)
 refine hK41 _ _ S45 ?_
 clear hK41 K41
 refine h_fin (by kernel_rfl) ?_
 refine then_normal ?_
 iterate 2 refine w_seq ?_
 refine h_start H43 [cellC r 88 ([(.slice a37 ((signL L (⟨q, (stampB (⟨q, x.cl, x.seq, x.h, t, 0, 0⟩ : StampD))⟩ : Signed)).length) c38)] : List Value), rowC 120 2 (.slice a37 ((signL L (⟨q, (stampB (⟨q, x.cl, x.seq, x.h, t, 0, 0⟩ : StampD))⟩ : Signed)).length) c38) ((signL L (⟨q, (stampB (⟨q, x.cl, x.seq, x.h, t, 0, 0⟩ : StampD))⟩ : Signed)).length) ((signL L (⟨q, (stampB (⟨q, x.cl, x.seq, x.h, t, 0, 0⟩ : StampD))⟩ : Signed)).flatMap encS), restC w (sepC (bothL b mb r a c L)).fp, cellC b2 54 ([(pt b 0), (pt r 0)] : List Value), cellC b6 44 (([(.int .i64 (x.cl)), (.int .i64 (x.seq))] : List Value) ++ hc x.h ++ ([(.int .i64 (x.len)), (.int .i64 (x.sb)), (.int .i64 (x.sm))] : List Value)), cellC b10 49 (([(.int .i64 (0)), (.int .i64 (0)), (.int .i64 (0))] : List Value) ++ hc hash0 ++ ([(.int .u64 (0)), (.int .i64 (0)), (.int .i64 (0))] : List Value)), cellC b14 49 (([(.int .i64 (q)), (.int .i64 (x.cl)), (.int .i64 (x.seq))] : List Value) ++ hc x.h ++ ([(.int .u64 (t)), (.int .i64 (q)), (.int .i64 (markOf (signL L (⟨q, (stampB (⟨q, x.cl, x.seq, x.h, t, 0, 0⟩ : StampD))⟩ : Signed)) (⟨q, (stampB (⟨q, x.cl, x.seq, x.h, t, 0, 0⟩ : StampD))⟩ : Signed)))] : List Value)), rowC 5 1 (.slice a31 ((stampB (⟨q, x.cl, x.seq, x.h, t, 0, 0⟩ : StampD)).length) c32) ((stampB (⟨q, x.cl, x.seq, x.h, t, 0, 0⟩ : StampD)).length) ((stampB (⟨q, x.cl, x.seq, x.h, t, 0, 0⟩ : StampD)).flatMap encB)] 9 rfl (by kernel_rfl) (fun Hx => (Hx.pick [2, 3, 4, 5, 6, 7, 8, 9] (by decide))) ?_
 intro w46 H47 S48
 refine hv0 0 S48 24 (pt b14 36) ?_
 refine hv0 1 S48 25 (.agg ⟨([(.int .i64 (q)), (.int .i64 (markOf (signL L (⟨q, (stampB (⟨q, x.cl, x.seq, x.h, t, 0, 0⟩ : StampD))⟩ : Signed)) (⟨q, (stampB (⟨q, x.cl, x.seq, x.h, t, 0, 0⟩ : StampD))⟩ : Signed)))] : List Value)⟩) ?_ (he := fun _ H' => (e_loadN (vs := ([(.int .i64 (q)), (.int .i64 (markOf (signL L (⟨q, (stampB (⟨q, x.cl, x.seq, x.h, t, 0, 0⟩ : StampD))⟩ : Signed)) (⟨q, (stampB (⟨q, x.cl, x.seq, x.h, t, 0, 0⟩ : StampD))⟩ : Signed)))] : List Value)) rfl (by kernel_rfl) (by kernel_rfl) (by exact Nat.le_of_ble_eq_true (by kernel_rfl)) (H'.at 6 rfl) (by kernel_rfl)))
 refine hv0 2 S48 26 (pt b2 0) ?_
 refine hv0 3 S48 27 (pt b 0) ?_ (he := fun _ H' => (e_load1 rfl (by kernel_rfl) (H'.cell 3 rfl rfl)))
 refine hv0 4 S48 28 (.int .i64 (q)) ?_
 refine hv0 5 S48 29 (.agg ⟨(([(.int .i64 (q)), (.int .i64 (x.cl)), (.int .i64 (x.seq))] : List Value) ++ hc x.h ++ ([(.int .u64 (t)), (.int .i64 (q)), (.int .i64 (markOf (signL L (⟨q, (stampB (⟨q, x.cl, x.seq, x.h, t, 0, 0⟩ : StampD))⟩ : Signed)) (⟨q, (stampB (⟨q, x.cl, x.seq, x.h, t, 0, 0⟩ : StampD))⟩ : Signed)))] : List Value))⟩) ?_ (he := fun _ H' => (e_loadN (vs := (([(.int .i64 (q)), (.int .i64 (x.cl)), (.int .i64 (x.seq))] : List Value) ++ hc x.h ++ ([(.int .u64 (t)), (.int .i64 (q)), (.int .i64 (markOf (signL L (⟨q, (stampB (⟨q, x.cl, x.seq, x.h, t, 0, 0⟩ : StampD))⟩ : Signed)) (⟨q, (stampB (⟨q, x.cl, x.seq, x.h, t, 0, 0⟩ : StampD))⟩ : Signed)))] : List Value))) rfl (by kernel_rfl) (by kernel_rfl) (by exact Nat.le_of_ble_eq_true (by kernel_rfl)) (H'.at 6 rfl) (by kernel_rfl)))
 refine h_do 6 rfl (by kernel_rfl) (wants0 rfl) (fun K49 hK49 => ?_)
 refine d_call (d := 30) rfl (by kernel_rfl) (rStampText_any w46 (⟨q, x.cl, x.seq, x.h, t, q, markOf (signL L (⟨q, (stampB (⟨q, x.cl, x.seq, x.h, t, 0, 0⟩ : StampD))⟩ : Signed)) (⟨q, (stampB (⟨q, x.cl, x.seq, x.h, t, 0, 0⟩ : StampD))⟩ : Signed)⟩ : StampD) ⟨hr, hx.1, hx.2.1, ht.1, ht.2⟩) ?_
 rintro _ w50 ⟨u51, rfl, k52, p53, q54⟩
 have H55 : Sat w [cellC b 107 ([(.map (some mb))] : List Value), mapC mb signedV (Value.int .i64) (marks L), cellC r 88 ([(.slice a37 ((signL L (⟨q, (stampB (⟨q, x.cl, x.seq, x.h, t, 0, 0⟩ : StampD))⟩ : Signed)).length) c38)] : List Value), rowC 120 2 (.slice a37 ((signL L (⟨q, (stampB (⟨q, x.cl, x.seq, x.h, t, 0, 0⟩ : StampD))⟩ : Signed)).length) c38) ((signL L (⟨q, (stampB (⟨q, x.cl, x.seq, x.h, t, 0, 0⟩ : StampD))⟩ : Signed)).length) ((signL L (⟨q, (stampB (⟨q, x.cl, x.seq, x.h, t, 0, 0⟩ : StampD))⟩ : Signed)).flatMap encS), restC w (sepC (bothL b mb r a c L)).fp, cellC b2 54 ([(pt b 0), (pt r 0)] : List Value), cellC b6 44 (([(.int .i64 (x.cl)), (.int .i64 (x.seq))] : List Value) ++ hc x.h ++ ([(.int .i64 (x.len)), (.int .i64 (x.sb)), (.int .i64 (x.sm))] : List Value)), cellC b10 49 (([(.int .i64 (0)), (.int .i64 (0)), (.int .i64 (0))] : List Value) ++ hc hash0 ++ ([(.int .u64 (0)), (.int .i64 (0)), (.int .i64 (0))] : List Value)), cellC b14 49 (([(.int .i64 (q)), (.int .i64 (x.cl)), (.int .i64 (x.seq))] : List Value) ++ hc x.h ++ ([(.int .u64 (t)), (.int .i64 (q)), (.int .i64 (markOf (signL L (⟨q, (stampB (⟨q, x.cl, x.seq, x.h, t, 0, 0⟩ : StampD))⟩ : Signed)) (⟨q, (stampB (⟨q, x.cl, x.seq, x.h, t, 0, 0⟩ : StampD))⟩ : Signed)))] : List Value)), rowC 5 1 (.slice a31 ((stampB (⟨q, x.cl, x.seq, x.h, t, 0, 0⟩ : StampD)).length) c32) ((stampB (⟨q, x.cl, x.seq, x.h, t, 0, 0⟩ : StampD)).length) ((stampB (⟨q, x.cl, x.seq, x.h, t, 0, 0⟩ : StampD)).flatMap encB), rowC 5 1 u51 ((stampB (⟨q, x.cl, x.seq, x.h, t, q, markOf (signL L (⟨q, (stampB (⟨q, x.cl, x.seq, x.h, t, 0, 0⟩ : StampD))⟩ : Signed)) (⟨q, (stampB (⟨q, x.cl, x.seq, x.h, t, 0, 0⟩ : StampD))⟩ : Signed)⟩ : StampD)).length) ((stampB (⟨q, x.cl, x.seq, x.h, t, q, markOf (signL L (⟨q, (stampB (⟨q, x.cl, x.seq, x.h, t, 0, 0⟩ : StampD))⟩ : Signed)) (⟨q, (stampB (⟨q, x.cl, x.seq, x.h, t, 0, 0⟩ : StampD))⟩ : Signed)⟩ : StampD)).flatMap encB)] w50 := H47.addU p53 k52 q54
 obtain ⟨a56, c57, rfl⟩ := ownsRow_shape (H55.at 10 rfl)
 refine ⟨_, rfl, ?_⟩
 have S58 := H55.pick [2, 3, 4, 5, 6, 7, 8, 9] (by decide)
 refine hK49 _ _ S58 ?_
 clear hK49 K49
 refine h_do 7 rfl (by kernel_rfl) (wants0 rfl) (fun K59 hK59 => ?_)
 refine d_call (d := 31) rfl (by kernel_rfl) (pSign_any w50 b mb L (.slice a56 ((stampB (⟨q, x.cl, x.seq, x.h, t, q, markOf (signL L (⟨q, (stampB (⟨q, x.cl, x.seq, x.h, t, 0, 0⟩ : StampD))⟩ : Signed)) (⟨q, (stampB (⟨q, x.cl, x.seq, x.h, t, 0, 0⟩ : StampD))⟩ : Signed)⟩ : StampD)).length) c57) (stampB (⟨q, x.cl, x.seq, x.h, t, q, markOf (signL L (⟨q, (stampB (⟨q, x.cl, x.seq, x.h, t, 0, 0⟩ : StampD))⟩ : Signed)) (⟨q, (stampB (⟨q, x.cl, x.seq, x.h, t, 0, 0⟩ : StampD))⟩ : Signed)⟩ : StampD)) (H55.fin [0, 1, 10] (by decide) rfl) (by omega) q) ?_
 rintro _ w60 ⟨rfl, T61⟩
 have H62 : Sat w [cellC b 107 ([(.map (some mb))] : List Value), mapC mb signedV (Value.int .i64) (marks (signL L (⟨q, (stampB (⟨q, x.cl, x.seq, x.h, t, q, markOf (signL L (⟨q, (stampB (⟨q, x.cl, x.seq, x.h, t, 0, 0⟩ : StampD))⟩ : Signed)) (⟨q, (stampB (⟨q, x.cl, x.seq, x.h, t, 0, 0⟩ : StampD))⟩ : Signed)⟩ : StampD))⟩ : Signed))), cellC r 88 ([(.slice a37 ((signL L (⟨q, (stampB (⟨q, x.cl, x.seq, x.h, t, 0, 0⟩ : StampD))⟩ : Signed)).length) c38)] : List Value), rowC 120 2 (.slice a37 ((signL L (⟨q, (stampB (⟨q, x.cl, x.seq, x.h, t, 0, 0⟩ : StampD))⟩ : Signed)).length) c38) ((signL L (⟨q, (stampB (⟨q, x.cl, x.seq, x.h, t, 0, 0⟩ : StampD))⟩ : Signed)).length) ((signL L (⟨q, (stampB (⟨q, x.cl, x.seq, x.h, t, 0, 0⟩ : StampD))⟩ : Signed)).flatMap encS), restC w (sepC (bothL b mb r a c L)).fp, cellC b2 54 ([(pt b 0), (pt r 0)] : List Value), cellC b6 44 (([(.int .i64 (x.cl)), (.int .i64 (x.seq))] : List Value) ++ hc x.h ++ ([(.int .i64 (x.len)), (.int .i64 (x.sb)), (.int .i64 (x.sm))] : List Value)), cellC b10 49 (([(.int .i64 (0)), (.int .i64 (0)), (.int .i64 (0))] : List Value) ++ hc hash0 ++ ([(.int .u64 (0)), (.int .i64 (0)), (.int .i64 (0))] : List Value)), cellC b14 49 (([(.int .i64 (q)), (.int .i64 (x.cl)), (.int .i64 (x.seq))] : List Value) ++ hc x.h ++ ([(.int .u64 (t)), (.int .i64 (q)), (.int .i64 (markOf (signL L (⟨q, (stampB (⟨q, x.cl, x.seq, x.h, t, 0, 0⟩ : StampD))⟩ : Signed)) (⟨q, (stampB (⟨q, x.cl, x.seq, x.h, t, 0, 0⟩ : StampD))⟩ : Signed)))] : List Value)), rowC 5 1 (.slice a31 ((stampB (⟨q, x.cl, x.seq, x.h, t, 0, 0⟩ : StampD)).length) c32) ((stampB (⟨q, x.cl, x.seq, x.h, t, 0, 0⟩ : StampD)).length) ((stampB (⟨q, x.cl, x.seq, x.h, t, 0, 0⟩ : StampD)).flatMap encB), rowC 5 1 (.slice a56 ((stampB (⟨q, x.cl, x.seq, x.h, t, q, markOf (signL L (⟨q, (stampB (⟨q, x.cl, x.seq, x.h, t, 0, 0⟩ : StampD))⟩ : Signed)) (⟨q, (stampB (⟨q, x.cl, x.seq, x.h, t, 0, 0⟩ : StampD))⟩ : Signed)⟩ : StampD)).length) c57) ((stampB (⟨q, x.cl, x.seq, x.h, t, q, markOf (signL L (⟨q, (stampB (⟨q, x.cl, x.seq, x.h, t, 0, 0⟩ : StampD))⟩ : Signed)) (⟨q, (stampB (⟨q, x.cl, x.seq, x.h, t, 0, 0⟩ : StampD))⟩ : Signed)⟩ : StampD)).length) ((stampB (⟨q, x.cl, x.seq, x.h, t, q, markOf (signL L (⟨q, (stampB (⟨q, x.cl, x.seq, x.h, t, 0, 0⟩ : StampD))⟩ : Signed)) (⟨q, (stampB (⟨q, x.cl, x.seq, x.h, t, 0, 0⟩ : StampD))⟩ : Signed)⟩ : StampD)).flatMap encB)] w60 := (Sat.turnL (L' := [cellC b 107 ([(.map (some mb))] : List Value), mapC mb signedV (Value.int .i64) (marks (signL L (⟨q, (stampB (⟨q, x.cl, x.seq, x.h, t, q, markOf (signL L (⟨q, (stampB (⟨q, x.cl, x.seq, x.h, t, 0, 0⟩ : StampD))⟩ : Signed)) (⟨q, (stampB (⟨q, x.cl, x.seq, x.h, t, 0, 0⟩ : StampD))⟩ : Signed)⟩ : StampD))⟩ : Signed))), rowC 5 1 (.slice a56 ((stampB (⟨q, x.cl, x.seq, x.h, t, q, markOf (signL L (⟨q, (stampB (⟨q, x.cl, x.seq, x.h, t, 0, 0⟩ : StampD))⟩ : Signed)) (⟨q, (stampB (⟨q, x.cl, x.seq, x.h, t, 0, 0⟩ : StampD))⟩ : Signed)⟩ : StampD)).length) c57) ((stampB (⟨q, x.cl, x.seq, x.h, t, q, markOf (signL L (⟨q, (stampB (⟨q, x.cl, x.seq, x.h, t, 0, 0⟩ : StampD))⟩ : Signed)) (⟨q, (stampB (⟨q, x.cl, x.seq, x.h, t, 0, 0⟩ : StampD))⟩ : Signed)⟩ : StampD)).length) ((stampB (⟨q, x.cl, x.seq, x.h, t, q, markOf (signL L (⟨q, (stampB (⟨q, x.cl, x.seq, x.h, t, 0, 0⟩ : StampD))⟩ : Signed)) (⟨q, (stampB (⟨q, x.cl, x.seq, x.h, t, 0, 0⟩ : StampD))⟩ : Signed)⟩ : StampD)).flatMap encB)]) (R := [cellC r 88 ([(.slice a37 ((signL L (⟨q, (stampB (⟨q, x.cl, x.seq, x.h, t, 0, 0⟩ : StampD))⟩ : Signed)).length) c38)] : List Value), rowC 120 2 (.slice a37 ((signL L (⟨q, (stampB (⟨q, x.cl, x.seq, x.h, t, 0, 0⟩ : StampD))⟩ : Signed)).length) c38) ((signL L (⟨q, (stampB (⟨q, x.cl, x.seq, x.h, t, 0, 0⟩ : StampD))⟩ : Signed)).length) ((signL L (⟨q, (stampB (⟨q, x.cl, x.seq, x.h, t, 0, 0⟩ : StampD))⟩ : Signed)).flatMap encS), restC w (sepC (bothL b mb r a c L)).fp, cellC b2 54 ([(pt b 0), (pt r 0)] : List Value), cellC b6 44 (([(.int .i64 (x.cl)), (.int .i64 (x.seq))] : List Value) ++ hc x.h ++ ([(.int .i64 (x.len)), (.int .i64 (x.sb)), (.int .i64 (x.sm))] : List Value)), cellC b10 49 (([(.int .i64 (0)), (.int .i64 (0)), (.int .i64 (0))] : List Value) ++ hc hash0 ++ ([(.int .u64 (0)), (.int .i64 (0)), (.int .i64 (0))] : List Value)), cellC b14 49 (([(.int .i64 (q)), (.int .i64 (x.cl)), (.int .i64 (x.seq))] : List Value) ++ hc x.h ++ ([(.int .u64 (t)), (.int .i64 (q)), (.int .i64 (markOf (signL L (⟨q, (stampB (⟨q, x.cl, x.seq, x.h, t, 0, 0⟩ : StampD))⟩ : Signed)) (⟨q, (stampB (⟨q, x.cl, x.seq, x.h, t, 0, 0⟩ : StampD))⟩ : Signed)))] : List Value)), rowC 5 1 (.slice a31 ((stampB (⟨q, x.cl, x.seq, x.h, t, 0, 0⟩ : StampD)).length) c32) ((stampB (⟨q, x.cl, x.seq, x.h, t, 0, 0⟩ : StampD)).length) ((stampB (⟨q, x.cl, x.seq, x.h, t, 0, 0⟩ : StampD)).flatMap encB)]) H55 [0, 1, 10] [2, 3, 4, 5, 6, 7, 8, 9] (by decide) (by kernel_rfl) rfl T61).pick [0, 1, 3, 4, 5, 6, 7, 8, 9, 10, 2] (by decide)
 refine ⟨_, rfl, ?_⟩
 have S63 := H62.pick [2, 3, 4, 5, 6, 7, 8, 9] (by decide)
 refine hK59 _ _ S63 ?_
 clear hK59 K59
 refine hv0 8 S63 32 (.bool (!(decide (q = q ∧ (markOf (signL L (⟨q, (stampB (⟨q, x.cl, x.seq, x.h, t, 0, 0⟩ : StampD))⟩ : Signed)) (⟨q, (stampB (⟨q, x.cl, x.seq, x.h, t, 0, 0⟩ : StampD))⟩ : Signed)) = (markOf (signL L (⟨q, (stampB (⟨q, x.cl, x.seq, x.h, t, q, markOf (signL L (⟨q, (stampB (⟨q, x.cl, x.seq, x.h, t, 0, 0⟩ : StampD))⟩ : Signed)) (⟨q, (stampB (⟨q, x.cl, x.seq, x.h, t, 0, 0⟩ : StampD))⟩ : Signed)⟩ : StampD))⟩ : Signed)) (⟨q, (stampB (⟨q, x.cl, x.seq, x.h, t, q, markOf (signL L (⟨q, (stampB (⟨q, x.cl, x.seq, x.h, t, 0, 0⟩ : StampD))⟩ : Signed)) (⟨q, (stampB (⟨q, x.cl, x.seq, x.h, t, 0, 0⟩ : StampD))⟩ : Signed)⟩ : StampD))⟩ : Signed)))))) ?_ (he := fun _ H' => (e_neqSig q (markOf (signL L (⟨q, (stampB (⟨q, x.cl, x.seq, x.h, t, 0, 0⟩ : StampD))⟩ : Signed)) (⟨q, (stampB (⟨q, x.cl, x.seq, x.h, t, 0, 0⟩ : StampD))⟩ : Signed)) q (markOf (signL L (⟨q, (stampB (⟨q, x.cl, x.seq, x.h, t, q, markOf (signL L (⟨q, (stampB (⟨q, x.cl, x.seq, x.h, t, 0, 0⟩ : StampD))⟩ : Signed)) (⟨q, (stampB (⟨q, x.cl, x.seq, x.h, t, 0, 0⟩ : StampD))⟩ : Signed)⟩ : StampD))⟩ : Signed)) (⟨q, (stampB (⟨q, x.cl, x.seq, x.h, t, q, markOf (signL L (⟨q, (stampB (⟨q, x.cl, x.seq, x.h, t, 0, 0⟩ : StampD))⟩ : Signed)) (⟨q, (stampB (⟨q, x.cl, x.seq, x.h, t, 0, 0⟩ : StampD))⟩ : Signed)⟩ : StampD))⟩ : Signed)) rfl rfl))
 refine h_fin (by kernel_rfl) ?_
 refine then_normal ?_
 have b64 : (!(decide (q = q ∧ (markOf (signL L (⟨q, (stampB (⟨q, x.cl, x.seq, x.h, t, 0, 0⟩ : StampD))⟩ : Signed)) (⟨q, (stampB (⟨q, x.cl, x.seq, x.h, t, 0, 0⟩ : StampD))⟩ : Signed)) = (markOf (signL L (⟨q, (stampB (⟨q, x.cl, x.seq, x.h, t, q, markOf (signL L (⟨q, (stampB (⟨q, x.cl, x.seq, x.h, t, 0, 0⟩ : StampD))⟩ : Signed)) (⟨q, (stampB (⟨q, x.cl, x.seq, x.h, t, 0, 0⟩ : StampD))⟩ : Signed)⟩ : StampD))⟩ : Signed)) (⟨q, (stampB (⟨q, x.cl, x.seq, x.h, t, q, markOf (signL L (⟨q, (stampB (⟨q, x.cl, x.seq, x.h, t, 0, 0⟩ : StampD))⟩ : Signed)) (⟨q, (stampB (⟨q, x.cl, x.seq, x.h, t, 0, 0⟩ : StampD))⟩ : Signed)⟩ : StampD))⟩ : Signed))))) = false := by rw [decide_eq_true ⟨rfl, rfl⟩]; rfl
 refine wp_know 32 (.bool false) (congrArg Value.bool b64) ?_
 have g65 := bnot_false b64
 refine wp_iff rfl ?_
 refine w_skip ?_
 refine then_normal ?_
 refine w_seq ?_
 refine w_lit ?_
 refine wv 35 (.agg ⟨(([(.int .i64 (q)), (.int .i64 (x.cl)), (.int .i64 (x.seq))] : List Value) ++ hc x.h ++ ([(.int .u64 (t)), (.int .i64 (q)), (.int .i64 (markOf (signL L (⟨q, (stampB (⟨q, x.cl, x.seq, x.h, t, 0, 0⟩ : StampD))⟩ : Signed)) (⟨q, (stampB (⟨q, x.cl, x.seq, x.h, t, 0, 0⟩ : StampD))⟩ : Signed)))] : List Value))⟩) ?_ (hr := e_loadN (vs := (([(.int .i64 (q)), (.int .i64 (x.cl)), (.int .i64 (x.seq))] : List Value) ++ hc x.h ++ ([(.int .u64 (t)), (.int .i64 (q)), (.int .i64 (markOf (signL L (⟨q, (stampB (⟨q, x.cl, x.seq, x.h, t, 0, 0⟩ : StampD))⟩ : Signed)) (⟨q, (stampB (⟨q, x.cl, x.seq, x.h, t, 0, 0⟩ : StampD))⟩ : Signed)))] : List Value))) rfl (by kernel_rfl) (by kernel_rfl) (by exact Nat.le_of_ble_eq_true (by kernel_rfl)) (H62.at 8 rfl) (by kernel_rfl))
 refine wl_do (wants0 rfl) (fun K66 hK66 => ?_)
 refine d_storeX (vs := (([(.int .i64 (q)), (.int .i64 (x.cl)), (.int .i64 (x.seq))] : List Value) ++ hc x.h ++ ([(.int .u64 (t)), (.int .i64 (q)), (.int .i64 (markOf (signL L (⟨q, (stampB (⟨q, x.cl, x.seq, x.h, t, 0, 0⟩ : StampD))⟩ : Signed)) (⟨q, (stampB (⟨q, x.cl, x.seq, x.h, t, 0, 0⟩ : StampD))⟩ : Signed)))] : List Value))) (cs' := (([(.int .i64 (q)), (.int .i64 (x.cl)), (.int .i64 (x.seq))] : List Value) ++ hc x.h ++ ([(.int .u64 (t)), (.int .i64 (q)), (.int .i64 (markOf (signL L (⟨q, (stampB (⟨q, x.cl, x.seq, x.h, t, 0, 0⟩ : StampD))⟩ : Signed)) (⟨q, (stampB (⟨q, x.cl, x.seq, x.h, t, 0, 0⟩ : StampD))⟩ : Signed)))] : List Value))) rfl H62 7 rfl rfl rfl rfl (by kernel_rfl) (Nat.le_of_ble_eq_true (by kernel_rfl)) (Nat.le_of_ble_eq_true (by kernel_rfl)) (by kernel_rfl) (by kernel_rfl) ?_
 intro w67 (H68 : Sat w [cellC b 107 ([(.map (some mb))] : List Value), mapC mb signedV (Value.int .i64) (marks (signL L (⟨q, (stampB (⟨q, x.cl, x.seq, x.h, t, q, markOf (signL L (⟨q, (stampB (⟨q, x.cl, x.seq, x.h, t, 0, 0⟩ : StampD))⟩ : Signed)) (⟨q, (stampB (⟨q, x.cl, x.seq, x.h, t, 0, 0⟩ : StampD))⟩ : Signed)⟩ : StampD))⟩ : Signed))), cellC r 88 ([(.slice a37 ((signL L (⟨q, (stampB (⟨q, x.cl, x.seq, x.h, t, 0, 0⟩ : StampD))⟩ : Signed)).length) c38)] : List Value), rowC 120 2 (.slice a37 ((signL L (⟨q, (stampB (⟨q, x.cl, x.seq, x.h, t, 0, 0⟩ : StampD))⟩ : Signed)).length) c38) ((signL L (⟨q, (stampB (⟨q, x.cl, x.seq, x.h, t, 0, 0⟩ : StampD))⟩ : Signed)).length) ((signL L (⟨q, (stampB (⟨q, x.cl, x.seq, x.h, t, 0, 0⟩ : StampD))⟩ : Signed)).flatMap encS), restC w (sepC (bothL b mb r a c L)).fp, cellC b2 54 ([(.pointer (some ⟨b, 0, none⟩)), (.pointer (some ⟨r, 0, none⟩))] : List Value), cellC b6 44 (([(.int .i64 (x.cl)), (.int .i64 (x.seq))] : List Value) ++ hc x.h ++ ([(.int .i64 (x.len)), (.int .i64 (x.sb)), (.int .i64 (x.sm))] : List Value)), cellC b10 49 (([(.int .i64 (q)), (.int .i64 (x.cl)), (.int .i64 (x.seq))] : List Value) ++ hc x.h ++ ([(.int .u64 (t)), (.int .i64 (q)), (.int .i64 (markOf (signL L (⟨q, (stampB (⟨q, x.cl, x.seq, x.h, t, 0, 0⟩ : StampD))⟩ : Signed)) (⟨q, (stampB (⟨q, x.cl, x.seq, x.h, t, 0, 0⟩ : StampD))⟩ : Signed)))] : List Value)), cellC b14 49 (([(.int .i64 (q)), (.int .i64 (x.cl)), (.int .i64 (x.seq))] : List Value) ++ hc x.h ++ ([(.int .u64 (t)), (.int .i64 (q)), (.int .i64 (markOf (signL L (⟨q, (stampB (⟨q, x.cl, x.seq, x.h, t, 0, 0⟩ : StampD))⟩ : Signed)) (⟨q, (stampB (⟨q, x.cl, x.seq, x.h, t, 0, 0⟩ : StampD))⟩ : Signed)))] : List Value)), rowC 5 1 (.slice a31 ((stampB (⟨q, x.cl, x.seq, x.h, t, 0, 0⟩ : StampD)).length) c32) ((stampB (⟨q, x.cl, x.seq, x.h, t, 0, 0⟩ : StampD)).length) ((stampB (⟨q, x.cl, x.seq, x.h, t, 0, 0⟩ : StampD)).flatMap encB), rowC 5 1 (.slice a56 ((stampB (⟨q, x.cl, x.seq, x.h, t, q, markOf (signL L (⟨q, (stampB (⟨q, x.cl, x.seq, x.h, t, 0, 0⟩ : StampD))⟩ : Signed)) (⟨q, (stampB (⟨q, x.cl, x.seq, x.h, t, 0, 0⟩ : StampD))⟩ : Signed)⟩ : StampD)).length) c57) ((stampB (⟨q, x.cl, x.seq, x.h, t, q, markOf (signL L (⟨q, (stampB (⟨q, x.cl, x.seq, x.h, t, 0, 0⟩ : StampD))⟩ : Signed)) (⟨q, (stampB (⟨q, x.cl, x.seq, x.h, t, 0, 0⟩ : StampD))⟩ : Signed)⟩ : StampD)).length) ((stampB (⟨q, x.cl, x.seq, x.h, t, q, markOf (signL L (⟨q, (stampB (⟨q, x.cl, x.seq, x.h, t, 0, 0⟩ : StampD))⟩ : Signed)) (⟨q, (stampB (⟨q, x.cl, x.seq, x.h, t, 0, 0⟩ : StampD))⟩ : Signed)⟩ : StampD)).flatMap encB)] w67)
 refine hK66 _ _ ?_
 clear hK66 K66
 refine w_nil ?_
 refine then_normal ?_
 refine w_ret ?_
 refine end1 rfl (res_cellN (vs := (([(.int .i64 (q)), (.int .i64 (x.cl)), (.int .i64 (x.seq))] : List Value) ++ hc x.h ++ ([(.int .u64 (t)), (.int .i64 (q)), (.int .i64 (markOf (signL L (⟨q, (stampB (⟨q, x.cl, x.seq, x.h, t, 0, 0⟩ : StampD))⟩ : Signed)) (⟨q, (stampB (⟨q, x.cl, x.seq, x.h, t, 0, 0⟩ : StampD))⟩ : Signed)))] : List Value))) rfl (by kernel_rfl) (by kernel_rfl) (by exact Nat.le_of_ble_eq_true (by kernel_rfl)) (H68.at 7 rfl) (by kernel_rfl)) ?_
 exact ⟨a37, c38, rfl, H68.pick [0, 1, 2, 3, 4] (by decide)⟩

end Go.Proofs.Ytbpeofcoceaahaa
namespace Go.Proofs.Ytbpeofcoceaahaa
open Go.RowKit

set_option maxRecDepth 100000 in
set_option maxHeartbeats 400000 in
theorem pNew_any (w : World) :
  Calls Try.prog 37 #[] w fun e w' => ∃ b mb, e = .returned (.pointer (some ⟨b, 0, none⟩)) ∧ (sepC [cellC b 107 [.map (some mb)], mapC mb signedV (Value.int .i64) (marks [])]).ok w' ∧ Upd [] w w' ∧ ∀ q_, (sepC [cellC b 107 [.map (some mb)], mapC mb signedV (Value.int .i64) (marks [])]).fp q_ → w.heap.size ≤ q_ := by
 have H := Sat.start0 w
 refine calls_fr Try.func37 rfl 4 rfl (Nat.le_of_ble_eq_true rfl) ?_
 refine w_seq ?_
 refine w_lit ?_
 refine wv 0 (.pointer none) ?_
 refine w_nil ?_
 refine then_normal ?_
 refine w_seq ?_
 refine w_lit ?_
 refine wl_do (wants0 rfl) (fun K1 hK1 => ?_)
 refine d_makeMap signedV (Value.int .i64) rfl H ?_
 intro b2 w3 (H4 : Sat w [restC w (fun _ => False), mapC b2 signedV (Value.int .i64) []] w3)
 refine hK1 _ _ ?_
 clear hK1 K1
 refine wv 2 (.agg ⟨([(.map (some b2))] : List Value)⟩) ?_
 refine wl_do (wants0 rfl) (fun K5 hK5 => ?_)
 refine d_box (vs := ([(.map (some b2))] : List Value)) rfl H4 rfl rfl ?_
 intro b6 w7 (H8 : Sat w [restC w (fun _ => False), mapC b2 signedV (Value.int .i64) [], cellC b6 107 ([(.map (some b2))] : List Value)] w7)
 refine hK5 _ _ ?_
 clear hK5 K5
 refine wv 0 (pt b6 0) ?_
 refine w_nil ?_
 refine then_normal ?_
 refine w_ret ?_
 refine end1 rfl (res_tmp (v := (pt b6 0)) rfl) ?_
 exact ⟨b6, b2, rfl, H8.fin [2, 1] (by decide) rfl, H8.upd 0 rfl [] (fun _ h => h.elim), H8.freshS 0 rfl (fun _ h => h) [2, 1] rfl rfl⟩

set_option maxRecDepth 100000 in
set_option maxHeartbeats 400000 in
theorem new10_any (w : World) :
  Calls Try.prog 19 #[] w fun e w' => ∃ b mb r, e = .returned (.tuple #[.agg #[.pointer (some ⟨b, 0, none⟩), .pointer (some ⟨r, 0, none⟩)], .bool true]) ∧ (sepC [cellC b 107 [.map (some mb)], mapC mb signedV (Value.int .i64) (marks []), cellC r 88 [.slice none 0 0]]).ok w' ∧ Upd [] w w' ∧ ∀ q_, (sepC [cellC b 107 [.map (some mb)], mapC mb signedV (Value.int .i64) (marks []), cellC r 88 [.slice none 0 0]]).fp q_ → w.heap.size ≤ q_ := by
 have H := Sat.start0 w
 refine calls_fr Try.func19 rfl 10 rfl (Nat.le_of_ble_eq_true rfl) ?_
 refine w_seq ?_
 refine w_lit ?_
 refine wl_do (wants0 rfl) (fun K1 hK1 => ?_)
 refine d_alloc (zs := ([(.pointer none), (.pointer none)] : List Value)) (z := (.agg ⟨([(.pointer none), (.pointer none)] : List Value)⟩)) rfl H (by kernel_rfl) (by kernel_rfl) ?_
 intro b2 w3 (H4 : Sat w [restC w (fun _ => False), cellC b2 54 ([(.pointer none), (.pointer none)] : List Value)] w3)
 refine hK1 _ _ ?_
 clear hK1 K1
 refine wv 1 (.bool false) ?_
 refine w_nil ?_
 refine then_normal ?_
 refine w_seq ?_
 refine w_lit ?_
 refine wl_do (wants0 rfl) (fun K5 hK5 => ?_)
 refine d_call (d := 3) rfl (by kernel_rfl) (pNew_any w3) ?_
 rintro _ w6 ⟨b7, m8, rfl, k9, p10, q11⟩
 have H12 : Sat w [restC w (fun _ => False), cellC b2 54 ([(.pointer none), (.pointer none)] : List Value), sepC [cellC b7 107 [.map (some m8)], mapC m8 signedV (Value.int .i64) (marks [])]] w6 := H4.addU p10 k9 q11
 have H13 : Sat w [restC w (fun _ => False), cellC b2 54 ([(.pointer none), (.pointer none)] : List Value), cellC b7 107 ([(.map (some m8))] : List Value), mapC m8 signedV (Value.int .i64) (marks [])] w6 := H12.open 2 rfl
 refine ⟨_, rfl, ?_⟩
 refine hK5 _ _ ?_
 clear hK5 K5
 refine wv 2 (pt b7 0) ?_
 refine w_nil ?_
 refine then_normal ?_
 refine w_seq ?_
 refine w_lit ?_
 refine wv 4 (pt b7 0) ?_
 refine wv 5 (.agg ⟨([(.slice none 0 0)] : List Value)⟩) ?_
 refine wl_do (wants0 rfl) (fun K14 hK14 => ?_)
 refine d_box (vs := ([(.slice none 0 0)] : List Value)) rfl H13 rfl rfl ?_
 intro b15 w16 (H17 : Sat w [restC w (fun _ => False), cellC b2 54 ([(.pointer none), (.pointer none)] : List Value), cellC b7 107 ([(.map (some m8))] : List Value), mapC m8 signedV (Value.int .i64) (marks []), cellC b15 88 ([(.slice none 0 0)] : List Value)] w16)
 refine hK14 _ _ ?_
 clear hK14 K14
 refine wv 7 (.agg ⟨([(pt b7 0), (pt b15 0)] : List Value)⟩) ?_
 refine wv 8 (pt b7 0) ?_
 refine wv 9 (.bool true) ?_
 refine wl_do (wants0 rfl) (fun K18 hK18 => ?_)
 refine d_store (vs := ([(pt b7 0), (pt b15 0)] : List Value)) rfl H17 1 rfl rfl rfl rfl (by kernel_rfl) (Nat.le_of_ble_eq_true (by kernel_rfl)) (Nat.le_of_ble_eq_true (by kernel_rfl)) (by kernel_rfl) ?_
 intro w19 (H20 : Sat w [restC w (fun _ => False), cellC b2 54 ([(.pointer (some ⟨b7, 0, none⟩)), (.pointer (some ⟨b15, 0, none⟩))] : List Value), cellC b7 107 ([(.map (some m8))] : List Value), mapC m8 signedV (Value.int .i64) (marks []), cellC b15 88 ([(.slice none 0 0)] : List Value)] w19)
 refine hK18 _ _ ?_
 clear hK18 K18
 refine wv 1 (.bool true) ?_
 refine w_nil ?_
 refine then_normal ?_
 refine w_ret ?_
 refine end2 rfl (res_cellN (vs := ([(pt b7 0), (pt b15 0)] : List Value)) rfl (by kernel_rfl) (by kernel_rfl) (by exact Nat.le_of_ble_eq_true (by kernel_rfl)) (H20.at 1 rfl) (by kernel_rfl)) (res_tmp (v := (.bool true)) rfl) ?_
 exact ⟨b7, m8, b15, rfl, H20.fin [2, 3, 4] (by decide) rfl, H20.upd 0 rfl [] (fun _ h => h.elim), H20.freshS 0 rfl (fun _ h => h) [2, 3, 4] rfl rfl⟩

end Go.Proofs.Ytbpeofcoceaahaa
namespace Go.Proofs.Ytbpeofcoceaahaa
open Go.RowKit
/-- a stamp that is signed -/
def GoodS (L : List Signed) (s : StampD) : Prop := s.sb = s.r ∧ (⟨s.r, stampB s⟩ : Signed) ∈ L ∧ s.sm = markOf L ⟨s.r, stampB s⟩
def GoodC (L : List Signed) (c : CommitD) : Prop := c.sb = 1000 + c.cl ∧ (⟨c.sb, commitB c⟩ : Signed) ∈ L ∧ c.sm = markOf L ⟨c.sb, commitB c⟩
theorem goodS_new (L : List Signed) (q : Int) (x : CommitD) (t : Int) : GoodS (signL L (yS q x t)) (mkS L q x t) := ⟨rfl, signL_mem L (yS q x t), rfl⟩
theorem goodC_new (L : List Signed) (cl seq : Int) (x : Hash) (p : List UInt8) : GoodC (signL L (yC cl seq x p)) (mkC L cl seq x p) := ⟨rfl, signL_mem L (yC cl seq x p), rfl⟩
theorem goodS_keep {L : List Signed} {s : StampD} (h : GoodS L s) (y : Signed) : GoodS (signL L y) s := ⟨h.1, signL_sub h.2.1, by rw [markOf_signL h.2.1]; exact h.2.2⟩
theorem goodC_keep {L : List Signed} {c : CommitD} (h : GoodC L c) (y : Signed) : GoodC (signL L y) c := ⟨h.1, signL_sub h.2.1, by rw [markOf_signL h.2.1]; exact h.2.2⟩
theorem good_right {L : List Signed} {p m : Int} {s : List UInt8} (h : (⟨p, s⟩ : Signed) ∈ L) (hm : m = markOf L ⟨p, s⟩) : rightB L p m s = true := by
 unfold rightB
 rw [decide_eq_true_eq]
 exact ⟨(markOf_pos h).1, hm.symm⟩
theorem goodS_right {f : Int} {L : List Signed} {s : StampD} (h : GoodS L s) (h0 : 0 ≤ s.r ∧ s.r < 3 * f + 1) (ht : 1 ≤ s.t ∧ s.t < 18446744073709551615) : rightS f L s = true := by
 unfold rightS inB
 rw [h.1, good_right h.2.1 h.2.2, decide_eq_true h0.1, decide_eq_true h0.2, decide_eq_true ht.1, decide_eq_true ht.2, decide_eq_true rfl]
 rfl
/-- what is known of the stamps that were made so far -/
structure WInv (y : CommitD) (N k : Nat) (L : List Signed) (D : List StampD) (i : Nat) : Prop where
 all : ∀ s ∈ D, GoodS L s ∧ (1 ≤ s.t ∧ s.t ≤ 1000) ∧ (0 ≤ s.r ∧ s.r < N) ∧ s.cl ≤ 1000000 ∧ s.seq ≤ 1000000
 got : ∀ r : Nat, r < i → r ≠ k → ∃ s ∈ D, s.r = r ∧ sameN s y = true
 no : ∀ s ∈ D, sameN s y = true → s.r ≠ k
theorem WInv.start (y : CommitD) (N k : Nat) (L : List Signed) : WInv y N k L [] 0 := ⟨by simp, fun r h => by omega, by simp⟩
theorem sameN_mkS (L : List Signed) (q : Int) (y : CommitD) (t : Int) : sameN (mkS L q y t) y = true := by simp [sameN, mkS]
theorem WInv.one {y : CommitD} {N k i : Nat} {L : List Signed} {D : List StampD} (h : WInv y N k L D i) (hi : i < N) (hk : i ≠ k) {t : Int} (ht : 1 ≤ t ∧ t ≤ 1000) (hy : y.cl ≤ 1000000 ∧ y.seq ≤ 1000000) : WInv y N k (signL L (yS i y t)) (D ++ [mkS L i y t]) (i + 1) := by
 refine ⟨fun s hs => ?_, fun r hr hrk => ?_, fun s hs hn => ?_⟩
 ·rcases List.mem_append.1 hs with hs | hs
  ·obtain ⟨h1, h2⟩ := h.all s hs
   exact ⟨goodS_keep h1 _, h2⟩
  ·obtain rfl := List.mem_singleton.1 hs
   exact ⟨goodS_new L i y t, ht, ⟨by show (0 : Int) ≤ i; omega, by show (i : Int) < N; omega⟩, hy.1, hy.2⟩
 ·by_cases e : r = i
  ·subst e; exact ⟨_, List.mem_append_right _ (List.mem_singleton.2 rfl), rfl, sameN_mkS L r y t⟩
  ·obtain ⟨s, h1, h2⟩ := h.got r (by omega) hrk
   exact ⟨s, List.mem_append_left _ h1, h2⟩
 ·rcases List.mem_append.1 hs with hs | hs
  ·exact h.no s hs hn
  ·obtain rfl := List.mem_singleton.1 hs
   show (i : Int) ≠ k; omega
theorem WInv.two {y z : CommitD} {N k : Nat} {L : List Signed} {D : List StampD} (h : WInv y N k L D k) (hk : k < N) {j : Int} (hj : 0 ≤ j ∧ j < N) (hjk : j ≠ k) {t : Int} (ht : 1 ≤ t ∧ t + 1 ≤ 1000) (hy : y.cl ≤ 1000000 ∧ y.seq ≤ 1000000) (hz : z.cl ≤ 1000000 ∧ z.seq ≤ 1000000) (hyz : z.seq ≠ y.seq) :
  WInv y N k (signL (signL L (yS k z t)) (yS j y (t + 1))) (D ++ [mkS L k z t, mkS (signL L (yS k z t)) j y (t + 1)]) (k + 1) := by
 refine ⟨fun s hs => ?_, fun r hr hrk => ?_, fun s hs hn => ?_⟩
 ·rcases List.mem_append.1 hs with hs | hs
  ·obtain ⟨h1, h2⟩ := h.all s hs
   exact ⟨goodS_keep (goodS_keep h1 _) _, h2⟩
  ·rcases List.mem_cons.1 hs with rfl | hs
   ·exact ⟨goodS_keep (goodS_new L k z t) _, ⟨ht.1, by show t ≤ 1000; omega⟩, ⟨by show (0 : Int) ≤ k; omega, by show (k : Int) < N; omega⟩, hz.1, hz.2⟩
   ·obtain rfl := List.mem_singleton.1 hs
    exact ⟨goodS_new _ j y (t + 1), ⟨by show 1 ≤ t + 1; omega, ht.2⟩, hj, hy.1, hy.2⟩
 ·obtain ⟨s, h1, h2⟩ := h.got r (by omega) hrk
  exact ⟨s, List.mem_append_left _ h1, h2⟩
 ·rcases List.mem_append.1 hs with hs | hs
  ·exact h.no s hs hn
  ·rcases List.mem_cons.1 hs with rfl | hs
   ·simp only [sameN, Bool.and_eq_true, decide_eq_true_eq] at hn
    exact absurd hn.1.2 hyz
   ·obtain rfl := List.mem_singleton.1 hs
    exact hjk
theorem WInv.two2 {y z : CommitD} {N k i : Nat} {L : List Signed} {D : List StampD} (h : WInv y N k L D i) (hik : i = k) (hk : k < N) {j : Int} (hj : 0 ≤ j ∧ j < N) (hjk : j ≠ i) {t t2 : Int} (ht2 : t2 = t + 1) (ht : 1 ≤ t ∧ t + 1 ≤ 1000) (hy : y.cl ≤ 1000000 ∧ y.seq ≤ 1000000) (hz : z.cl ≤ 1000000 ∧ z.seq ≤ 1000000) (hyz : z.seq ≠ y.seq) :
  WInv y N k (signL (signL L (yS i z t)) (yS j y t2)) (D ++ [mkS L i z t, mkS (signL L (yS i z t)) j y t2]) (i + 1) := by
 subst hik ht2
 exact h.two hk hj hjk ht hy hz hyz
section
variable {y : CommitD} {N k Q : Nat} {f : Int} {L : List Signed} {D : List StampD}
theorem firstR_got {r : Nat} (h : ∃ s ∈ D, s.r = r ∧ sameN s y = true) : ∃ s, firstR y D r = some s := by
 obtain ⟨s, hs, h1, h2⟩ := h
 cases hf : firstR y D r with
 | some u => exact ⟨u, rfl⟩
 | none =>
  exfalso
  unfold firstR at hf
  rw [List.find?_eq_none] at hf
  exact hf s hs (by simp [isR, h1, h2])
theorem WInv.len (h : WInv y N k L D N) : ∀ n, n ≤ N → (refS y D n).length = if k < n then n - 1 else n := fun n => by
 induction n with
 | zero => intro _; simp [refS]
 | succ n ih =>
  intro hn
  rw [refS_step, List.length_append, ih (by omega)]
  by_cases e : n = k
  ·subst e
   have : firstR y D n = none := by
    cases hf : firstR y D n with
    | none => rfl
    | some u =>
     obtain ⟨h1, h2, h3⟩ := firstR_some hf
     exact absurd h1 (h.no u h3 h2)
   rw [this, if_neg (by omega), if_pos (by omega)]; simp
  ·obtain ⟨s, hs⟩ := firstR_got (h.got n (by omega) e)
   rw [hs]
   by_cases hk : k < n
   ·rw [if_pos hk, if_pos (by omega)]; simp; omega
   ·rw [if_neg hk, if_neg (by omega)]; simp
/-- what is known of the stamps of a certificate -/
theorem WInv.stamp (h : WInv y N k L D N) (hN : (N : Int) = 3 * f + 1) {s : StampD} (hs : s ∈ refS y D N) : s ∈ D ∧ sameN s y = true ∧ s.r ≠ k ∧ rightS f L s = true := by
 obtain ⟨_, hf⟩ := refS_mem.1 hs
 obtain ⟨_, h2, h3⟩ := firstR_some hf
 obtain ⟨g, ht, hr, _⟩ := h.all s h3
 exact ⟨h3, h2, h.no s h3 h2, goodS_right g ⟨hr.1, by omega⟩ ⟨ht.1, by omega⟩⟩
theorem take_getD {S : List StampD} {i : Nat} (h : i < (S.take Q).length) : (S.take Q).getD i stamp0 ∈ S := by
 rw [List.getD_eq_getElem?_getD, List.getElem?_eq_getElem h]
 exact List.mem_of_mem_take (List.getElem_mem h)
theorem take_rise {x : CommitD} {S : List StampD} (n : Nat) {i : Nat} (h0 : 0 < i) (h : i < ((refS x S n).take Q).length) : (((refS x S n).take Q).getD (i - 1) stamp0).r < (((refS x S n).take Q).getD i stamp0).r := by
 have hp := (refS_sorted x S n).sublist (List.take_sublist Q _)
 have := List.pairwise_iff_getElem.1 hp (i - 1) i (by omega) h (by omega)
 have e1 : ((refS x S n).take Q).getD i stamp0 = ((refS x S n).take Q)[i] := by rw [List.getD_eq_getElem?_getD, List.getElem?_eq_getElem h]; rfl
 have e2 : ((refS x S n).take Q).getD (i - 1) stamp0 = ((refS x S n).take Q)[i - 1]'(by omega) := by rw [List.getD_eq_getElem?_getD, List.getElem?_eq_getElem (show i - 1 < ((refS x S n).take Q).length by omega)]; rfl
 rw [e1, e2]
 exact this
theorem WInv.right (h : WInv y N k L D N) (hN : (N : Int) = 3 * f + 1) (hQ : (Q : Int) = 2 * f + 1) (hl : Q ≤ (refS y D N).length) {cn : Int} (hc : rightC cn L y = true) : rightX f cn L y ((refS y D N).take Q) = true := by
 have hlen : ((refS y D N).take Q).length = Q := by rw [List.length_take]; omega
 unfold rightX
 rw [hc, hlen, decide_eq_true hQ, Bool.true_and, Bool.true_and]
 refine all_upto fun i hi => ?_
 have hi' : i < ((refS y D N).take Q).length := by omega
 obtain ⟨_, h2, _, h4⟩ := h.stamp hN (take_getD hi')
 unfold okAt
 rw [h2, h4, Bool.and_true, Bool.and_true]
 by_cases h0 : i = 0
 ·subst h0; rfl
 ·have := take_rise (x := y) (S := D) (Q := Q) N (show 0 < i by omega) hi'
  rw [Bool.or_eq_true]
  right
  rw [Bool.not_eq_true', decide_eq_false_iff_not]
  omega
end
theorem rightC_good {cn : Int} {L : List Signed} {c : CommitD} (h : GoodC L c) (hcl : 0 ≤ c.cl ∧ c.cl < cn) (hb : c.cl ≤ 1000000) (hs : 1 ≤ c.seq ∧ c.seq ≤ 1048576) (hl : 0 ≤ c.len ∧ c.len ≤ 256) : rightC cn L c = true := by
 unfold rightC validC
 rw [good_right h.2.1 h.2.2, show IntKind.i64.wrap (1000 + c.cl) = 1000 + c.cl from IntWalk.i64_in _ (by omega), decide_eq_true h.1, decide_eq_true hcl.1, decide_eq_true hcl.2, decide_eq_true hs.1, decide_eq_true hs.2, decide_eq_true hl.1, decide_eq_true hl.2]
 rfl
theorem signL_nodup {L : List Signed} (h : L.Nodup) (y : Signed) : (signL L y).Nodup := by
 unfold signL; split
 ·exact h
 ·rename_i hn
  rw [List.nodup_append]; exact ⟨h, by simp, fun x hx z hz => by rw [List.mem_singleton.1 hz]; exact fun e => hn (e ▸ hx)⟩
theorem rise_at {x : CommitD} {S : List StampD} {n i j : Nat} {a b : StampD} (ha : (refS x S n)[i]? = some a) (hb : (refS x S n)[j]? = some b) (hij : i < j) : a.r < b.r := by
 obtain ⟨h1, rfl⟩ := List.getElem?_eq_some_iff.1 ha
 obtain ⟨h2, rfl⟩ := List.getElem?_eq_some_iff.1 hb
 exact List.pairwise_iff_getElem.1 (refS_sorted x S n) i j h1 h2 hij
theorem WInv.ok {y : CommitD} {N k Q : Nat} {L : List Signed} {D : List StampD} (h : WInv y N k L D N) (hN : N ≤ 1000) : StsOk ((refS y D N).take Q) := fun i hi => by
 obtain ⟨_, hf⟩ := refS_mem.1 (take_getD hi)
 obtain ⟨_, _, h3⟩ := firstR_some hf
 obtain ⟨_, h4, h5, h6, h7⟩ := h.all _ h3
 exact ⟨by omega, by omega, by omega, by omega, by omega⟩
theorem short_ref {F : Int} {x : CommitD} {S : List StampD} {N : Nat} (hN : (N : Int) = 3 * F + 1) : (refS x S N).length ≤ S.length := by
 rw [← ref_len (F := F) hN]; exact outS_len F x S
end Go.Proofs.Ytbpeofcoceaahaa
