/- WHAT IS PROVED: contracts and plain laws of ClD, Dt16, ArrB, BatA. Conditions: stated with each. -/
import Derived.Laws.MakeOwn
import Derived.Test.YtgigjkjdmalmaaaGreatPA05
import Derived.Test.YtgigjkjdmalmaaaGreatPA06
import Derived.Test.YtgigjkjdmalmaaaGreatPA08
import Derived.Test.YtgigjkjdmalmaaaGreatPA09
import Derived.Test.YtgigjkjdmalmaaaGreatPA11
set_option maxHeartbeats 4000000
set_option maxRecDepth 100000
namespace Go.Proofs.YtgigjkjdmalmaaaGreat
open Go.RowKit
def co0 : Z0 := ⟨0, 0, Z8, 0, 0, 0⟩
def zmS : List Value := [.int .i64 0, .int .i64 0, .int .i64 0] ++ hc Z8 ++ [.int .u64 0, .int .i64 0, .int .i64 0]
def zmB : List Value := [.int .i64 0, .int .i64 0, .int .i64 0] ++ hc Z8 ++ [.int .u64 0, .int .i64 0, .int .i64 0, .int .i64 0, .int .i64 0, .int .u64 0, .int .i64 0, .int .i64 0, .int .u64 0, .slice none 0 0, .int .i64 0, .int .i64 0, .int .i64 0, .int .i64 0, .int .i64 0, .int .i64 0, .int .i64 0, .int .u64 0, .slice none 0 0, .slice none 0 0, .slice none 0 0, .int .i64 0, .int .i64 0, .int .i64 0, .int .i64 0, .int .i64 0, .int .i64 0] ++ hc Z8 ++ [.int .i64 0, .int .i64 0, .int .i64 0, .int .i64 0, .int .i64 0] ++ hc Z8 ++ [.int .u64 0]
def zmT : List Value := [.int .i64 0, .int .i64 0, .int .i64 0, .int .i64 0, Zu [], .int .i64 0, .int .i64 0, .int .i64 0, .int .u64 0, .slice none 0 0, .slice none 0 0, .slice none 0 0, .slice none 0 0]
theorem Z6K : zmS.length = 38 := by simp [zmS, Z3D]
theorem Z6J : zmB.length = 132 := by simp [zmB, Z3D]
theorem Z6L : zmT.length = 13 := rfl
theorem Z5C : zmS.all (·.oneCell') = true ∧ zmB.all (·.oneCell') = true ∧ zmT.all (·.oneCell') = true := by
 simp only [zmS, zmB, zmT, List.all_append, Z3C]
 simp [Value.oneCell', Z1S, Zu]
structure OmR where
 k : Int
 fr : Int
 to : Int
 co : Z0
 cx : Z0
 sa : Option Addr
 sc : Nat
 S : List Z0Q
 oi : Int
 oa : Option Addr
 oc : Nat
 P : List UInt8
 oh : Z1J
def ZZ (m : OmR) : List Value :=
 [.int .i64 m.k, .int .i64 m.fr, .int .i64 m.to] ++ Z2A m.co ++ zmS ++ Z2A m.cx ++ [.slice m.sa m.S.length m.sc] ++ zmB ++ [.int .i64 m.oi, .slice m.oa m.P.length m.oc] ++ hc m.oh ++ zmT
theorem Z4X (m : OmR) : (ZZ m).length = 295 := by simp [ZZ, Z2A, Z3D, Z6K, Z6J, Z6L]
theorem Z4Y (m : OmR) : (ZZ m).all (·.oneCell') = true := by
 simp only [ZZ, Z2A, List.all_append, Z5C.1, Z5C.2.1, Z5C.2.2, Z3C]
 simp [Value.oneCell', Z1S]
def om0 : OmR := ⟨0, 0, 0, co0, co0, none, 0, [], 0, none, 0, [], Z8⟩
def omS (m : OmR) : Ck := Zd 49 38 (.slice m.sa m.S.length m.sc) m.S.length (m.S.flatMap Z0r)
def omP (m : OmR) : Ck := Zd 5 1 (.slice m.oa m.P.length m.oc) m.P.length (m.P.flatMap Zi)
structure Z4N (fr : Int) (m : OmR) (B : List Ck) (i : Nat) (d : OmR) : Prop where
 k : d.k = m.k
 fr : d.fr = fr
 to : d.to = (i : Int)
 co : d.co = m.co
 cx : d.cx = m.cx
 oi : d.oi = m.oi
 oh : d.oh = m.oh
 S : d.S = m.S
 P : d.P = m.P
 sb : omS d ∈ B
 ob : omP d ∈ B
structure RcD where
 i : Int
 e : EntD
def Z5K (x : RcD) : List Value := .int .i64 x.i :: Z44 x.e
def rcV (x : RcD) : Value := .agg ⟨Z5K x⟩
def rc0 : RcD := ⟨0, ent0⟩
structure Zl where
 x : Z0
 pa : Option Addr
 pc : Nat
 P : List UInt8
 no : Z1J
 ms : Nat
 cb : Option Nat
 ma : Nat
 mr : Nat
 op : Bool
 pl : Int
 mp : Nat
 dn : Bool
 rp : List UInt8
def Zf (q : Zl) : List Value := Z2A q.x ++ [.slice q.pa q.P.length q.pc] ++ hc q.no ++ [.map (some q.ms), .pointer (q.cb.map fun z => ⟨z, 0, none⟩), .map (some q.ma), .map (some q.mr), .bool q.op, .int .i64 q.pl, .map (some q.mp), .bool q.dn, Zu q.rp]
theorem ZK (q : Zl) : (Zf q).length = 79 := by simp [Zf, Z2A, Z3D]
theorem Z1V (q : Zl) : (Zf q).all (·.oneCell') = true := by
 simp only [Zf, Z2A, List.all_append, Z3C]
 simp [Value.oneCell', Z1S, Zu]
def rq0 : Zl := ⟨co0, none, 0, [], Z8, 0, none, 0, 0, false, 0, 0, false, []⟩
end Go.Proofs.YtgigjkjdmalmaaaGreat

namespace Go.Proofs.YtgigjkjdmalmaaaGreat
open Go.RowKit
section
variable {g T n : Nat} {A : List Bool} {w w0 w' : World} {G : List Ck}
end
section
variable {P : Program} {n : Nat} {f : Nat → Value} {w w0 : World} {dst : Option Tmp} {ty : TypeId} {pos : String} {aft : Array Edge} {gd : Option (Nat × Bool)} {K : Act → World → Prop} {Q : Exit → Act → World → Prop} {G : List Ck}
end
section
variable {κ ν : Type} [DecidableEq κ] {P : Program} {n : Nat} {f : Nat → Value} {w w0 : World} {dst : Option Tmp} {ty : TypeId} {pos : String} {aft : Array Edge} {gd : Option (Nat × Bool)} {Q : Exit → Act → World → Prop} {G : List Ck} {T kt et : TypeId} {b : Nat} {encK : κ → Value} {encV : ν → Value} {l : List (κ × ν)}
end
theorem Z3z (a : Bool) : ∀ (es : List MapEntry) (ks : List Bool) (n : Nat), es.map (·.key) = ks.map Value.bool →
  Instr.findNow .bool (.bool a) es n = some ((ks.idxOf? a).bind fun i => (es[i]?).map fun e => (n + i, e.val)) := by
 intro es
 induction es with
 | nil => intro ks n h; cases ks <;> simp_all [Instr.findNow]
 | cons e es ih =>
  intro ks n h
  cases ks with
  | nil => simp at h
  | cons x ks =>
   simp only [List.map_cons, List.cons.injEq] at h
   obtain ⟨h1, h2⟩ := h
   by_cases hax : a = x
   ·subst hax
    simp [Instr.findNow, h1, Instr.sameNow, List.idxOf?_cons]
   ·have hx : (x == a) = false := by simp; exact fun h => hax h.symm
    have hx' : (a == x) = false := by simpa using hax
    simp only [Instr.findNow, h1, Instr.sameNow, hx', ih ks (n + 1) h2, List.idxOf?_cons, hx, Bool.false_eq_true, if_false]
    cases hi : ks.idxOf? a with
    | none => simp
    | some i => simp [Nat.add_assoc, Nat.add_comm 1 i]
theorem KeyTy.bool {P : Program} {k : TypeId} (hk : P.underlying k = some .bool) : KeyTy P k Value.bool where
 check w em a := MapKept.run_checkKey (d := .bool) hk (by simp [MapKept.IsKey]) em 9999
 find w a es ks h := by
  simp [Instr.findKey, run_underlying hk, Z3z a es ks 0 h]
 same a := by simp [Instr.sameBits]
theorem Z2d (w : World) (v n : Int) (hn : n ≤ 4611686018427387904) :
  Calls Tryz.prog 8 #[(.int .i64 (v)), (.int .i64 (n))] w fun e w' => e = .returned (.int .i64 (Z0o v n)) ∧ Upd [] w w' := by
 have H := Sat.start0 w
 refine Zx Tryz.func8 rfl 17 rfl (Nat.le_of_ble_eq_true rfl) ?_
 refine Zg ?_
 refine Zn ?_
 refine Z3 (Z1 rfl) (d := 4) (v := (.int .i64 (0))) rfl (by kernel_rfl) ?_
 refine Zm ?_
 refine Z7 ?_
 refine Zg ?_
 refine Zg ?_
 refine Zn ?_
 refine Z3 (Z1 rfl) (d := 6) (v := (.int .i64 (n))) rfl (by kernel_rfl) ?_
 refine Z3 (Z1 rfl) (d := 7) (v := (.bool (decide (n < 1)))) rfl (by kernel_rfl) ?_
 refine Zm ?_
 refine Z7 ?_
 refine (Z06 (decide (n < 1))).elim (fun b1 => ?_) (fun b1 => ?_)
 ·have g2 := of_decide_eq_true b1
  refine Zs 7 (.bool true) (congrArg Value.bool b1) ?_
  refine Z0u rfl ?_
  refine Zg ?_
  refine Zn ?_
  refine Z3 (Z1 rfl) (d := 4) (v := (.int .i64 (0))) rfl (by kernel_rfl) ?_
  refine Zm ?_
  refine Z7 ?_
  refine ZW ?_
  refine Z1D ?_
  refine Z0J rfl (ZI (v := (.int .i64 (0))) rfl) ?_
  exact ⟨by unfold Z0o; rw [if_pos (of_decide_eq_true b1)], H.upd 0 rfl [] (fun _ h => h.elim)⟩
 ·have g3 := of_decide_eq_false b1
  refine Zs 7 (.bool false) (congrArg Value.bool b1) ?_
  refine ZY rfl ?_
  refine ZN ?_
  refine Z7 ?_
  refine Zg ?_
  refine Zn ?_
  refine Z3 (Z1 rfl) (d := 8) (v := (.int .i64 (v))) rfl (by kernel_rfl) ?_
  refine Z3 (Z1 rfl) (d := 9) (v := (.int .i64 (n))) rfl (by kernel_rfl) ?_
  refine Z3 (Z1 rfl) (d := 10) (v := (.int .i64 (Int.tmod v n))) rfl (e_tmod (by kernel_rfl) (by omega)) ?_
  refine Z3 (Z1 rfl) (d := 5) (v := (.int .i64 (Int.tmod v n))) rfl (by kernel_rfl) ?_
  refine Zm ?_
  refine Z7 ?_
  refine Zg ?_
  refine Zg ?_
  refine Zn ?_
  refine Z3 (Z1 rfl) (d := 11) (v := (.int .i64 (Int.tmod v n))) rfl (by kernel_rfl) ?_
  refine Z3 (Z1 rfl) (d := 12) (v := (.bool (decide ((Int.tmod v n) < 0)))) rfl (by kernel_rfl) ?_
  refine Zm ?_
  refine Z7 ?_
  refine (Z06 (decide ((Int.tmod v n) < 0))).elim (fun b4 => ?_) (fun b4 => ?_)
  ·have g5 := of_decide_eq_true b4
   refine Zs 12 (.bool true) (congrArg Value.bool b4) ?_
   refine Z0u rfl ?_
   refine Zn ?_
   refine Z3 (Z1 rfl) (d := 13) (v := (.int .i64 (Int.tmod v n))) rfl (by kernel_rfl) ?_
   refine Z3 (Z1 rfl) (d := 14) (v := (.int .i64 (n))) rfl (by kernel_rfl) ?_
   refine Z3 (Z1 rfl) (d := 15) (v := (.int .i64 ((Int.tmod v n) + n))) rfl (Z05 (z := (Int.tmod v n) + n) (by kernel_rfl) (IntWalk.i64_in _ (by have := Z4t v n (by omega); omega))) ?_
   refine Z3 (Z1 rfl) (d := 5) (v := (.int .i64 ((Int.tmod v n) + n))) rfl (by kernel_rfl) ?_
   refine Zm ?_
   refine Z7 ?_
   refine Zg ?_
   refine Zn ?_
   refine Z3 (Z1 rfl) (d := 16) (v := (.int .i64 ((Int.tmod v n) + n))) rfl (by kernel_rfl) ?_
   refine Z3 (Z1 rfl) (d := 4) (v := (.int .i64 ((Int.tmod v n) + n))) rfl (by kernel_rfl) ?_
   refine Zm ?_
   refine Z7 ?_
   refine ZW ?_
   refine Z0J rfl (ZI (v := (.int .i64 ((Int.tmod v n) + n))) rfl) ?_
   exact ⟨by unfold Z0o; rw [if_neg (of_decide_eq_false b1), Z3M v n (by have := of_decide_eq_false b1; omega), if_pos (of_decide_eq_true b4)], H.upd 0 rfl [] (fun _ h => h.elim)⟩
  ·have g6 := of_decide_eq_false b4
   refine Zs 12 (.bool false) (congrArg Value.bool b4) ?_
   refine ZY rfl ?_
   refine ZN ?_
   refine Z7 ?_
   refine Zg ?_
   refine Zn ?_
   refine Z3 (Z1 rfl) (d := 16) (v := (.int .i64 (Int.tmod v n))) rfl (by kernel_rfl) ?_
   refine Z3 (Z1 rfl) (d := 4) (v := (.int .i64 (Int.tmod v n))) rfl (by kernel_rfl) ?_
   refine Zm ?_
   refine Z7 ?_
   refine ZW ?_
   refine Z0J rfl (ZI (v := (.int .i64 (Int.tmod v n))) rfl) ?_
   exact ⟨by unfold Z0o; rw [if_neg (of_decide_eq_false b1), Z3M v n (by have := of_decide_eq_false b1; omega), if_neg (of_decide_eq_false b4)], H.upd 0 rfl [] (fun _ h => h.elim)⟩
theorem Z6q (w : World) (f c : Int) (hf : -1099511627776 ≤ f ∧ f ≤ 1099511627776) :
  Calls Tryz.prog 55 #[(.agg ⟨([(.int .i64 (f)), (.int .i64 (c))] : List Value)⟩)] w fun e w' => e = .returned (.int .i64 (3 * f + 1)) ∧ Upd [] w w' := by
 have H := Sat.start0 w
 refine Zx Tryz.func55 rfl 7 rfl (Nat.le_of_ble_eq_true rfl) ?_
 refine Zg ?_
 refine Zn ?_
 refine ZE (Z1 rfl) (fun K1 hK1 => ?_)
 refine Z0Y (vs := ([(.int .i64 (f)), (.int .i64 (c))] : List Value)) rfl H rfl rfl ?_
 intro b2 w3 (H4 : Sat w [Zb w (fun _ => False), Z5 b2 27 ([(.int .i64 (f)), (.int .i64 (c))] : List Value)] w3)
 refine hK1 _ _ ?_
 clear hK1 K1
 refine Z3 (Z1 rfl) (d := 2) (v := (.int .i64 (0))) rfl (by kernel_rfl) ?_
 refine Zm ?_
 refine Z7 ?_
 refine Zg ?_
 refine Zn ?_
 refine Z3 (Z1 rfl) (d := 3) (v := (.pointer (some ⟨b2, 0, none⟩))) rfl (by kernel_rfl) ?_
 refine Z3 (Z1 rfl) (d := 4) (v := (.int .i64 (f))) rfl (Zj rfl (by kernel_rfl) (H4.cell 1 rfl rfl)) ?_
 refine Z3 (Z1 rfl) (d := 5) (v := (.int .i64 (3 * f))) rfl (Z05 (z := 3 * f) (by kernel_rfl) (IntWalk.i64_in _ (by omega))) ?_
 refine Z3 (Z1 rfl) (d := 6) (v := (.int .i64 ((3 * f) + 1))) rfl (Z05 (z := (3 * f) + 1) (by kernel_rfl) (IntWalk.i64_in _ (by omega))) ?_
 refine Z3 (Z1 rfl) (d := 2) (v := (.int .i64 ((3 * f) + 1))) rfl (by kernel_rfl) ?_
 refine Zm ?_
 refine Z7 ?_
 refine ZW ?_
 refine Z0J rfl (ZI (v := (.int .i64 ((3 * f) + 1))) rfl) ?_
 exact ⟨rfl, H4.upd 0 rfl [] (fun _ h => h.elim)⟩
theorem Z5y (w : World) (f c r : Int) (hf : -1099511627776 ≤ f ∧ f ≤ 1099511627776) :
  Calls Tryz.prog 36 #[(.agg ⟨([(.int .i64 (f)), (.int .i64 (c))] : List Value)⟩), (.int .i64 (r))] w fun e w' => e = .returned (.bool (inB f r)) ∧ Upd [] w w' := by
 have H := Sat.start0 w
 refine Zx Tryz.func36 rfl 13 rfl (Nat.le_of_ble_eq_true rfl) ?_
 refine Zg ?_
 refine Zn ?_
 refine ZE (Z1 rfl) (fun K1 hK1 => ?_)
 refine Z0Y (vs := ([(.int .i64 (f)), (.int .i64 (c))] : List Value)) rfl H rfl rfl ?_
 intro b2 w3 (H4 : Sat w [Zb w (fun _ => False), Z5 b2 27 ([(.int .i64 (f)), (.int .i64 (c))] : List Value)] w3)
 refine hK1 _ _ ?_
 clear hK1 K1
 refine Z3 (Z1 rfl) (d := 4) (v := (.bool false)) rfl (by kernel_rfl) ?_
 refine Zm ?_
 refine Z7 ?_
 refine Z0x [4, 5, 6, 7, 8, 9, 10, 11, 12] (fun G_ W_ => G_ 4 = (.bool (inB f r)) ∧ Sat w [Zb w (fun _ => False), Z5 b2 27 ([(.int .i64 (f)), (.int .i64 (c))] : List Value)] W_) ?_ ?_
 ·refine Zn ?_
  refine Z3 (Z1 rfl) (d := 5) (v := (.int .i64 (r))) rfl (by kernel_rfl) ?_
  refine Z3 (Z1 rfl) (d := 6) (v := (.bool (decide (r ≥ 0)))) rfl (by kernel_rfl) ?_
  refine Z3 (Z1 rfl) (d := 7) (v := (.bool (decide (r ≥ 0)))) rfl (by kernel_rfl) ?_
  refine (Z06 (decide (r ≥ 0))).elim (fun b6 => ?_) (fun b6 => ?_)
  ·have g7 := of_decide_eq_true b6
   refine Z01 7 (.bool true) (congrArg Value.bool b6) ?_
   refine Z3 (Zr 2 7 true rfl (by kernel_rfl) rfl (by kernel_rfl)) (d := 8) (v := (.int .i64 (r))) rfl (by kernel_rfl) ?_
   refine Z3 (Zr 2 7 true rfl (by kernel_rfl) rfl (by kernel_rfl)) (d := 9) (v := (.agg ⟨([(.int .i64 (f)), (.int .i64 (c))] : List Value)⟩)) rfl (ZJ (vs := ([(.int .i64 (f)), (.int .i64 (c))] : List Value)) rfl (by kernel_rfl) (by kernel_rfl) (by exact Nat.le_of_ble_eq_true (by kernel_rfl)) (H4.at 1 rfl) (by kernel_rfl)) ?_
   refine ZE (Zr 2 7 true rfl (by kernel_rfl) rfl (by kernel_rfl)) (fun K8 hK8 => ?_)
   refine ZC (d := 10) rfl (by kernel_rfl) (Z6q w3 f c (by omega)) ?_
   rintro _ w9 ⟨rfl, u11⟩
   have H10 := H4.keepU u11
   refine ⟨_, rfl, ?_⟩
   refine hK8 _ _ ?_
   clear hK8 K8
   refine Z3 (Zr 2 7 true rfl (by kernel_rfl) rfl (by kernel_rfl)) (d := 11) (v := (.bool (decide (r < (3 * f + 1))))) rfl (by kernel_rfl) ?_
   refine Z3 (Z1 rfl) (d := 12) (v := (.bool (decide (r < (3 * f + 1))))) rfl (by kernel_rfl) ?_
   refine Z3 (Z1 rfl) (d := 4) (v := (.bool (decide (r < (3 * f + 1))))) rfl (by kernel_rfl) ?_
   refine Zm ?_
   refine ZX ?_ ⟨(congrArg Value.bool (show (decide (r < (3 * f + 1))) = (inB f r) by simp [inB, b6])), H10⟩
   exact (Z6 rfl (Z6 rfl (Z6 rfl (Z6 rfl (Z6 rfl (Z6 rfl (Z6 rfl (Z6 rfl (Z6 rfl (Z6 rfl (ZV)))))))))))
  ·have g12 := of_decide_eq_false b6
   refine Z01 7 (.bool false) (congrArg Value.bool b6) ?_
   refine ZR (Z03 2 7 true rfl (by kernel_rfl) rfl (by kernel_rfl)) rfl ?_
   refine ZR (Z03 2 7 true rfl (by kernel_rfl) rfl (by kernel_rfl)) rfl ?_
   refine ZR (Z03 2 7 true rfl (by kernel_rfl) rfl (by kernel_rfl)) rfl ?_
   refine ZR (Z03 2 7 true rfl (by kernel_rfl) rfl (by kernel_rfl)) rfl ?_
   refine Z3 (Z1 rfl) (d := 12) (v := (.bool false)) rfl (by kernel_rfl) ?_
   refine Z3 (Z1 rfl) (d := 4) (v := (.bool false)) rfl (by kernel_rfl) ?_
   refine Zm ?_
   refine ZX ?_ ⟨(congrArg Value.bool (show false = (inB f r) by simp [inB, b6])), H4⟩
   exact (Z6 rfl (Z6 rfl (Z6 rfl (Z6 rfl (Z6 rfl (Z6 rfl (Z6 rfl (Z6 rfl (Z6 rfl (Z6 rfl (ZV)))))))))))
 ·rintro f13 w14 ⟨v16, H15⟩
  refine Zs 4 _ v16 ?_
  refine ZW ?_
  refine Z0J rfl (ZI (v := (.bool (inB f r))) rfl) ?_
  exact ⟨rfl, H15.upd 0 rfl [] (fun _ h => h.elim)⟩
theorem Z4n (w : World) :
  Calls Tryz.prog 10 #[] w fun e w' => ∃ b mb, e = .returned (.pointer (some ⟨b, 0, none⟩)) ∧ (ZF [Z5 b 108 [.map (some mb)], Zh mb Zc (Value.int .i64) (Zk [])]).ok w' ∧ Upd [] w w' ∧ ∀ q_, (ZF [Z5 b 108 [.map (some mb)], Zh mb Zc (Value.int .i64) (Zk [])]).fp q_ → w.heap.size ≤ q_ := by
 have H := Sat.start0 w
 refine Zx Tryz.func10 rfl 4 rfl (Nat.le_of_ble_eq_true rfl) ?_
 refine Zg ?_
 refine Zn ?_
 refine Z3 (Z1 rfl) (d := 0) (v := (.pointer none)) rfl (by kernel_rfl) ?_
 refine Zm ?_
 refine Z7 ?_
 refine Zg ?_
 refine Zn ?_
 refine ZE (Z1 rfl) (fun K1 hK1 => ?_)
 refine Z0b Zc (Value.int .i64) rfl H ?_
 intro b2 w3 (H4 : Sat w [Zb w (fun _ => False), Zh b2 Zc (Value.int .i64) []] w3)
 refine hK1 _ _ ?_
 clear hK1 K1
 refine Z3 (Z1 rfl) (d := 2) (v := (.agg ⟨([(.map (some b2))] : List Value)⟩)) rfl (by kernel_rfl) ?_
 refine ZE (Z1 rfl) (fun K5 hK5 => ?_)
 refine Z0Y (vs := ([(.map (some b2))] : List Value)) rfl H4 rfl rfl ?_
 intro b6 w7 (H8 : Sat w [Zb w (fun _ => False), Zh b2 Zc (Value.int .i64) [], Z5 b6 108 ([(.map (some b2))] : List Value)] w7)
 refine hK5 _ _ ?_
 clear hK5 K5
 refine Z3 (Z1 rfl) (d := 0) (v := (.pointer (some ⟨b6, 0, none⟩))) rfl (by kernel_rfl) ?_
 refine Zm ?_
 refine Z7 ?_
 refine ZW ?_
 refine Z0J rfl (ZI (v := (.pointer (some ⟨b6, 0, none⟩))) rfl) ?_
 exact ⟨b6, b2, rfl, H8.fin [2, 1] (by decide) rfl, H8.upd 0 rfl [] (fun _ h => h.elim), H8.freshS 0 rfl (fun _ h => h) [2, 1] rfl rfl⟩
end Go.Proofs.YtgigjkjdmalmaaaGreat
