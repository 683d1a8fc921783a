/- WHAT IS PROVED: contracts and plain laws of ClD, Eqs, ClF, ClM, Whole10M, Store10, ClJ, ClI, Dt16, ArrB. Conditions: stated with each. -/
import Derived.ChangeKeysEq
import Derived.Shelf.SlicesQ.IndexFunc
import Derived.Laws.MakeOwn
import Derived.Test.YtgigjkjdmalmaaaGreatPR03
import Derived.Test.YtgigjkjdmalmaaaGreatPR04
import Derived.Test.YtgigjkjdmalmaaaGreatPR05
import Derived.Test.YtgigjkjdmalmaaaGreatPR06
import Derived.Test.YtgigjkjdmalmaaaGreatPR08
import Derived.Test.YtgigjkjdmalmaaaGreatPR10
import Derived.Test.YtgigjkjdmalmaaaGreatPR12
set_option maxHeartbeats 4000000
set_option maxRecDepth 100000
namespace Go.Proofs.YtgigjkjdmalmaaaGreat
open Go.RowKit
def co0 : Z0 := ⟨0, 0, Za, 0, 0, 0⟩
def zmS : List Value := [.int .i64 0, .int .i64 0, .int .i64 0] ++ hc Za ++ [.int .u64 0, .int .i64 0, .int .i64 0]
def zmB : List Value := [.int .i64 0, .int .i64 0, .int .i64 0] ++ hc Za ++ [.int .u64 0, .int .i64 0, .int .i64 0, .int .i64 0, .int .i64 0, .int .u64 0, .int .i64 0, .int .i64 0, .int .u64 0, .slice none 0 0, .int .i64 0, .int .i64 0, .int .i64 0, .int .i64 0, .int .i64 0, .int .i64 0, .int .i64 0, .int .u64 0, .slice none 0 0, .slice none 0 0, .slice none 0 0, .int .i64 0, .int .i64 0, .int .i64 0, .int .i64 0, .int .i64 0, .int .i64 0] ++ hc Za ++ [.int .i64 0, .int .i64 0, .int .i64 0, .int .i64 0, .int .i64 0] ++ hc Za ++ [.int .u64 0]
def zmT : List Value := [.int .i64 0, .int .i64 0, .int .i64 0, .int .i64 0, Zt [], .int .i64 0, .int .i64 0, .int .i64 0, .int .u64 0, .slice none 0 0, .slice none 0 0, .slice none 0 0, .slice none 0 0]
theorem Z6O : zmS.length = 38 := by simp [zmS, Z3M]
theorem Z6N : zmB.length = 132 := by simp [zmB, Z3M]
theorem Z6P : zmT.length = 13 := rfl
theorem Z5K : zmS.all (·.oneCell') = true ∧ zmB.all (·.oneCell') = true ∧ zmT.all (·.oneCell') = true := by
 simp only [zmS, zmB, zmT, List.all_append, Z3L]
 simp [Value.oneCell', Z1g, Zt]
structure OmR where
 k : Int
 fr : Int
 to : Int
 co : Z0
 cx : Z0
 sa : Option Addr
 sc : Nat
 S : List Z0T
 oi : Int
 oa : Option Addr
 oc : Nat
 P : List UInt8
 oh : Z1Q
def Z04 (m : OmR) : List Value :=
 [.int .i64 m.k, .int .i64 m.fr, .int .i64 m.to] ++ Z2A m.co ++ zmS ++ Z2A m.cx ++ [.slice m.sa m.S.length m.sc] ++ zmB ++ [.int .i64 m.oi, .slice m.oa m.P.length m.oc] ++ hc m.oh ++ zmT
theorem Z3G (m : OmR) : (Z04 m).length = 295 := by simp [Z04, Z2A, Z3M, Z6O, Z6N, Z6P]
theorem Z59 (m : OmR) : (Z04 m).all (·.oneCell') = true := by
 simp only [Z04, Z2A, List.all_append, Z5K.1, Z5K.2.1, Z5K.2.2, Z3L]
 simp [Value.oneCell', Z1g]
def om0 : OmR := ⟨0, 0, 0, co0, co0, none, 0, [], 0, none, 0, [], Za⟩
def omS (m : OmR) : Ck := Ze 49 38 (.slice m.sa m.S.length m.sc) m.S.length (m.S.flatMap Z0s)
def omP (m : OmR) : Ck := Ze 5 1 (.slice m.oa m.P.length m.oc) m.P.length (m.P.flatMap Zo)
structure Z4X (fr : Int) (m : OmR) (B : List Ck) (i : Nat) (d : OmR) : Prop where
 k : d.k = m.k
 fr : d.fr = fr
 to : d.to = (i : Int)
 co : d.co = m.co
 cx : d.cx = m.cx
 oi : d.oi = m.oi
 oh : d.oh = m.oh
 S : d.S = m.S
 P : d.P = m.P
 sb : omS d ∈ B
 ob : omP d ∈ B
structure RcD where
 i : Int
 e : Z6Q
def Z5U (x : RcD) : List Value := .int .i64 x.i :: Z4j x.e
def rcV (x : RcD) : Value := .agg ⟨Z5U x⟩
def rc0 : RcD := ⟨0, ent0⟩
structure Zl where
 x : Z0
 pa : Option Addr
 pc : Nat
 P : List UInt8
 no : Z1Q
 ms : Nat
 cb : Option Nat
 ma : Nat
 mr : Nat
 op : Bool
 pl : Int
 mp : Nat
 dn : Bool
 rp : List UInt8
def Zg (q : Zl) : List Value := Z2A q.x ++ [.slice q.pa q.P.length q.pc] ++ hc q.no ++ [.map (some q.ms), .pointer (q.cb.map fun z => ⟨z, 0, none⟩), .map (some q.ma), .map (some q.mr), .bool q.op, .int .i64 q.pl, .map (some q.mp), .bool q.dn, Zt q.rp]
theorem ZN (q : Zl) : (Zg q).length = 79 := by simp [Zg, Z2A, Z3M]
theorem Z1T (q : Zl) : (Zg q).all (·.oneCell') = true := by
 simp only [Zg, Z2A, List.all_append, Z3L]
 simp [Value.oneCell', Z1g, Zt]
def rq0 : Zl := ⟨co0, none, 0, [], Za, 0, none, 0, 0, false, 0, 0, false, []⟩
section
variable {P : Program} {t : TypeId} {X : Type} [DecidableEq X]
structure Flat (P : Program) (t : TypeId) (enc : X → List Value) : Prop where
 eq : ∀ (w : World) (x y : X), (Op.equalIn 10000 t (.agg ⟨enc x⟩) (.agg ⟨enc y⟩)).run P w = .ok (decide (x = y)) w
 held : P.eqGuardType P.depth t = false
variable {enc : X → List Value}
theorem Flat.e_eq (F : Flat P t enc) {n : Nat} {f : Nat → Value} {w : World} {dst : Option Tmp} {ty : TypeId} {pos : String} {aft : Array Edge} {gd : Option (Nat × Bool)} {x y : Operand} {T : TypeId} (a b : X) (hx : ev n f x = .agg ⟨enc a⟩) (hy : ev n f y = .agg ⟨enc b⟩) :
  (execOp (ev n f) ⟨dst, .binOp .eql t x y T, ty, pos, aft, gd⟩).run P w = .ok (.value (.bool (decide (a = b)))) w := by
 have h : (Op.equalIn 10000 t (.agg ⟨enc a⟩) (.agg ⟨enc b⟩)).run P w = .ok (decide (a = b)) w := F.eq w a b
 simp only [execOp, hx, hy]
 simp only [Sem.run_bind, run_eqGuard_agg w _ _ _ _ _ _ F.held, Result.andThen_ok, run_eql_struct, h, Sem.run_pure]
end
instance decEnt : DecidableEq Z6Q := fun a b =>
 if h : a.cl = b.cl ∧ a.sq = b.sq ∧ a.h = b.h ∧ a.t = b.t then .isTrue (by cases a; cases b; simp_all) else .isFalse (fun e => h (by rw [e]; simp))
instance decRc : DecidableEq RcD := fun a b =>
 if h : a.i = b.i ∧ a.e = b.e then .isTrue (by cases a; cases b; simp_all) else .isFalse (fun e => h (by rw [e]; simp))
theorem Z5J (w : World) : (zeroValue 131).run Tryz.prog w = .ok (rcV rc0) w := by kernel_rfl
theorem Z3i (w : World) (a b c d : Int) : (Op.equalIn 9998 43 (.agg ⟨[.int .i64 a, .int .i64 b]⟩) (.agg ⟨[.int .i64 c, .int .i64 d]⟩)).run Tryz.prog w = .ok (decide (a = c ∧ b = d)) w := by
 have ei := fun a b => run_equalIn_int (P := Tryz.prog) w 9996 3 .i64 .i64 a b Tryz.underlying3
 refine (Z1e (d := 9997) _ [a == c, b == d] Tryz.underlying43 (by kernel_rfl)
  ⟨⟨by decide, .int .i64 a, .int .i64 c, by kernel_rfl, by kernel_rfl, ei _ _⟩, ⟨by decide, .int .i64 b, .int .i64 d, by kernel_rfl, by kernel_rfl, ei _ _⟩, trivial⟩).trans ?_
 congr 1
 rw [Bool.eq_iff_iff]
 simp
theorem Z6r (w : World) (s : Z6Q) : (part 43 ⟨Z4j s⟩ 0).run Tryz.prog w = .ok (.agg ⟨[.int .i64 s.cl, .int .i64 s.sq]⟩) w ∧ (part 40 ⟨Z4j s⟩ 2).run Tryz.prog w = .ok (Z5h s.h) w ∧ (part 45 ⟨Z4j s⟩ 34).run Tryz.prog w = .ok (.int .u64 s.t) w :=
 ⟨by kernel_rfl, by kernel_rfl, by kernel_rfl⟩
theorem Z3H (w : World) (x y : Z6Q) : (Op.equalIn 9999 73 (.agg ⟨Z4j x⟩) (.agg ⟨Z4j y⟩)).run Tryz.prog w = .ok (decide (x = y)) w := by
 obtain ⟨x1, x2, x3⟩ := Z6r w x
 obtain ⟨y1, y2, y3⟩ := Z6r w y
 have eu := fun a b => run_equalIn_int (P := Tryz.prog) w 9997 45 .u64 .u64 a b Tryz.underlying45
 refine (Z1e (d := 9998) _ [decide (x.cl = y.cl ∧ x.sq = y.sq), decide (x.h = y.h), x.t == y.t] Tryz.underlying73 (by kernel_rfl)
  ⟨⟨by decide, _, _, x1, y1, Z3i w _ _ _ _⟩, ⟨by decide, _, _, x2, y2, Z2h w 9996 _ _⟩, ⟨by decide, _, _, x3, y3, eu _ _⟩, trivial⟩).trans ?_
 congr 1
 obtain ⟨a1, a2, a3, a4⟩ := x
 obtain ⟨b1, b2, b3, b4⟩ := y
 rw [Bool.eq_iff_iff]
 simp [and_assoc]
theorem rcF_i (w : World) (s : RcD) : (part 3 ⟨Z5U s⟩ 0).run Tryz.prog w = .ok (.int .i64 s.i) w ∧ (part 73 ⟨Z5U s⟩ 1).run Tryz.prog w = .ok (.agg ⟨Z4j s.e⟩) w :=
 ⟨by kernel_rfl, by kernel_rfl⟩
theorem rcF : Flat Tryz.prog 131 Z5U := by
 refine ⟨fun w x y => ?_, by kernel_rfl⟩
 obtain ⟨x1, x2⟩ := rcF_i w x
 obtain ⟨y1, y2⟩ := rcF_i w y
 have ei := fun a b => run_equalIn_int (P := Tryz.prog) w 9998 3 .i64 .i64 a b Tryz.underlying3
 refine (Z1e (d := 9999) _ [x.i == y.i, decide (x.e = y.e)] Tryz.underlying131 (by kernel_rfl)
  ⟨⟨by decide, _, _, x1, y1, ei _ _⟩, ⟨by decide, _, _, x2, y2, Z3H w _ _⟩, trivial⟩).trans ?_
 congr 1
 obtain ⟨a1, a2⟩ := x
 obtain ⟨b1, b2⟩ := y
 rw [Bool.eq_iff_iff]
 simp
section
variable {κ ν : Type} [DecidableEq κ] {l : List (κ × ν)} {a : κ}
theorem Z5r {x : ν} (h : Zr l a = some x) : (a, x) ∈ l := by
 unfold Zr at h
 obtain ⟨y, hy, rfl⟩ := Option.map_eq_some_iff.1 h
 have h1 := List.find?_some hy
 have h2 := List.mem_of_find?_eq_some hy
 have h3 : y.1 = a := by simpa using h1
 rw [← h3]; exact h2
theorem Z0W : Zr l a = none ↔ a ∉ l.map (·.1) := by
 unfold Zr
 rw [Option.map_eq_none_iff, List.find?_eq_none]
 constructor
 ·intro h hm
  obtain ⟨y, hy, rfl⟩ := List.mem_map.1 hm
  exact h y hy (by simp)
 ·intro h y hy he
  have h3 : y.1 = a := by simpa using he
  exact h (List.mem_map.2 ⟨y, hy, h3⟩)
end
section
set_option linter.unusedSectionVars false
variable {β γ : Type} [DecidableEq β] [DecidableEq γ] {l : List (Int × β)} {k : Int} {v d x : β} {n : Nat}
def Z0R (l : List (Int × β)) (x : β) : Nat := l.countP fun y => decide (y.2 = x)
def Z0u (l : List (Int × β)) (k : Int) (v : β) : List (Int × β) := if k ∈ l.map (·.1) then l else l ++ [(k, v)]
def Z4O (l : List (Int × β)) (n : Nat) : Prop := ∃ y ∈ l, n ≤ Z0R l y.2
theorem Z2s (h : k ∈ l.map (·.1)) : Z0u l k v = l := if_pos h
theorem Z1l (h : k ∉ l.map (·.1)) : Z0u l k v = l ++ [(k, v)] := if_neg h
theorem Z2m : (Z0u l k v).length ≤ l.length + 1 := by unfold Z0u; split <;> simp
theorem Z3m (h : k ∉ l.map (·.1)) : Z1L l k v = Z0u l k v := by rw [Z1l h]; unfold Z1L; rw [if_neg h]
theorem Z63 (h : k ∉ l.map (·.1)) : Zr (l ++ [(k, v)]) k = some v := by
 have q := Z3g l k v
 unfold Z1L at q
 rwa [if_neg h] at q
theorem Z1u (l m : List (Int × β)) (x : β) : Z0R (l ++ m) x = Z0R l x + Z0R m x := List.countP_append
theorem Z1O (k : Int) (v x : β) : Z0R [(k, v)] x = if v = x then 1 else 0 := by
 unfold Z0R
 by_cases h : v = x <;> simp [h]
theorem Z56 : Z0R l x ≤ l.length := List.countP_le_length
theorem Z5f (h : k ∈ l.map (·.1)) : (k, (Zr l k).getD d) ∈ l := by
 cases e : Zr l k with
 | none => exact absurd h (Z0W.1 e)
 | some v => exact Z5r e
theorem Z17 (h : k ∉ l.map (·.1)) : (Zr (Z0u l k v) k).getD d = v := by rw [Z1l h, Z63 h]; rfl
theorem Z4x : Z4O (Z0u l k v) n ↔ Z4O l n ∨ n ≤ Z0R (Z0u l k v) ((Zr (Z0u l k v) k).getD d) := by
 by_cases h : k ∈ l.map (·.1)
 ·rw [Z2s h]
  constructor
  ·exact .inl
  ·rintro (q | q)
   ·exact q
   ·exact ⟨_, Z5f h, q⟩
 ·rw [Z17 h, Z1l h]
  constructor
  ·rintro ⟨y, hy, q⟩
   by_cases e : y.2 = v
   ·right; rw [e] at q; exact q
   ·left
    rw [Z1u, Z1O, if_neg (fun q => e q.symm), Nat.add_zero] at q
    rcases List.mem_append.1 hy with hy | hy
    ·exact ⟨y, hy, q⟩
    ·exact absurd (by rw [List.mem_singleton.1 hy]) e
  ·rintro (⟨y, hy, q⟩ | q)
   ·exact ⟨y, List.mem_append_left _ hy, by rw [Z1u]; omega⟩
   ·exact ⟨(k, v), by simp, q⟩
theorem Z66 : ¬ Z4O ([] : List (Int × β)) n := by rintro ⟨y, hy, _⟩; cases hy
variable {f : β → γ}
theorem Z37 {m : List (Int × β)} (h : l.Perm m) : Z0R l x = Z0R m x := h.countP_eq _
end
end Go.Proofs.YtgigjkjdmalmaaaGreat

namespace Go.Proofs.YtgigjkjdmalmaaaGreat
open Go.RowKit
theorem Z1r {a a' : Option Addr} {n c n' c' : Nat} (h : Value.slice a n c = .slice a' n' c') : a = a' := by simp only [Value.slice.injEq] at h; exact h.1
section
variable {P : Program} {ops : Array Oper} {Q : Exit → Act → World → Prop} {md : Region.Mode} {S : World → Prop} {B : Nat → Bool}
end
section
variable {P : Program} {n : Nat} {f : Nat → Value} {w w0 : World} {dst : Option Tmp} {ty : TypeId} {pos : String} {aft : Array Edge} {gd : Option (Nat × Bool)} {K : Act → World → Prop} {Q : Exit → Act → World → Prop} {G : List Ck}
theorem Z2C {α : Type} {enc : α → List Value} {size : Nat} (hs : ∀ x, (enc x).length = size) : ∀ {A : List α} {i off : Nat} {x0 x1 : α} {vs : List Value}, A[i]? = some x0 → off + vs.length ≤ size → Z0x (enc x0) off vs = enc x1 → Z0x (A.flatMap enc) (i * size + off) vs = (A.set i x1).flatMap enc
 | [], i, _, _, _, _, h, _, _ => by simp at h
 | y :: A, 0, off, x0, x1, vs, h, ho, hsp => by
  simp only [List.getElem?_cons_zero, Option.some.injEq] at h
  subst h
  simp only [List.flatMap_cons, List.set_cons_zero, Nat.zero_mul, Nat.zero_add]
  rw [← hsp]
  unfold Z0x
  have hl := hs y
  rw [List.take_append_of_le_length (by omega), List.drop_append_of_le_length (by omega), List.append_assoc, List.append_assoc, List.append_assoc]
 | y :: A, i + 1, off, x0, x1, vs, h, ho, hsp => by
  simp only [List.getElem?_cons_succ] at h
  have ih := Z2C hs h ho hsp
  simp only [List.flatMap_cons, List.set_cons_succ]
  rw [← ih]
  unfold Z0x
  have hl := hs y
  have e : (i + 1) * size + off = (enc y).length + (i * size + off) := by rw [hl, Nat.succ_mul]; omega
  rw [e, List.take_length_add_append, Nat.add_assoc, List.drop_length_add_append, List.append_assoc, List.append_assoc, List.append_assoc]
theorem Z2o {α : Type} {enc : α → List Value} {size e : Nat} (hs : ∀ x, (enc x).length = size) {T : TypeId} {x y : Operand} {u : Value} {vs : List Value} {g c m o : Nat} {A : List α} (hd : dst = none) (H : Sat w0 G w) (j : Nat) (hj : G[j]? = some (Ze e size (.slice (some ⟨g, 0, none⟩) m c) m (A.flatMap enc)))
  (hx : ev n f x = .pointer (some ⟨g, o, none⟩)) (hy : ev n f y = u) (hu : u.cells = ⟨vs⟩) (hN : P.cellsOf T = vs.length) (h0 : 0 < vs.length) (h1 : vs.all (·.oneCell') = true) (i off : Nat) {x0 : α} (x1 : α) (hi : A[i]? = some x0) (ho : o = i * size + off) (hle : off + vs.length ≤ size) (hsp : Z0x (enc x0) off vs = enc x1)
  (kk : ∀ w', Sat w0 (G.set j (Ze e size (.slice (some ⟨g, 0, none⟩) m c) m ((A.set i x1).flatMap enc))) w' → K (fr n f) w') : WO P ⟨dst, .store T x y, ty, pos, aft, gd⟩ K Q n f w := by
 have hil : i < A.length := (List.getElem?_eq_some_iff.1 hi).1
 have hlt : i * size + size ≤ A.length * size := by have := Nat.mul_le_mul_right size (show i + 1 ≤ A.length from hil); rwa [Nat.succ_mul] at this
 exact Z4K hd H j hj rfl hx hy hu hN h0 (by rw [Z1F enc size hs]; omega) h1 (xs' := (A.set i x1).flatMap enc) (by rw [ho]; exact Z2C hs hi hle hsp) kk
end
theorem Z4J (w : World) (q : Zl) (b : Nat) (ix : Int) (hb : w.heap[b]? = some (.cells ⟨[.int .i64 ix]⟩ 3 (0, 0))) :
  Calls Tryz.prog 65 #[(.agg ⟨(([(.int .i64 (q.x.cl)), (.int .i64 (q.x.seq))] : List Value) ++ hc q.x.h ++ ([(.int .i64 (q.x.len)), (.int .i64 (q.x.sb)), (.int .i64 (q.x.sm)), ((.slice q.pa q.P.length q.pc))] : List Value) ++ hc q.no ++ ([(.map (some q.ms)), ((.pointer (q.cb.map fun z => ⟨z, 0, none⟩))), (.map (some q.ma)), (.map (some q.mr)), (.bool (q.op)), (.int .i64 (q.pl)), (.map (some q.mp)), (.bool (q.dn)), (Zt q.rp)] : List Value))⟩), (.pointer (some ⟨b, 0, none⟩))] w fun e w' => e = .returned (.bool (q.op && decide (q.pl = ix))) ∧ Upd [] w w' := by
 have H := Sat.start0 w
 refine Zu Tryz.func65 rfl 12 rfl (Nat.le_of_ble_eq_true rfl) ?_
 refine Zf ?_
 refine Zm ?_
 refine ZC (Z1 rfl) (fun K1 hK1 => ?_)
 refine Z0L (vs := (([(.int .i64 (q.x.cl)), (.int .i64 (q.x.seq))] : List Value) ++ hc q.x.h ++ ([(.int .i64 (q.x.len)), (.int .i64 (q.x.sb)), (.int .i64 (q.x.sm)), ((.slice q.pa q.P.length q.pc))] : List Value) ++ hc q.no ++ ([(.map (some q.ms)), ((.pointer (q.cb.map fun z => ⟨z, 0, none⟩))), (.map (some q.ma)), (.map (some q.mr)), (.bool (q.op)), (.int .i64 (q.pl)), (.map (some q.mp)), (.bool (q.dn)), (Zt q.rp)] : List Value))) rfl H rfl rfl ?_
 intro b2 w3 (H4 : Sat w [Zb w (fun _ => False), Z6 b2 119 (([(.int .i64 (q.x.cl)), (.int .i64 (q.x.seq))] : List Value) ++ hc q.x.h ++ ([(.int .i64 (q.x.len)), (.int .i64 (q.x.sb)), (.int .i64 (q.x.sm)), ((.slice q.pa q.P.length q.pc))] : List Value) ++ hc q.no ++ ([(.map (some q.ms)), ((.pointer (q.cb.map fun z => ⟨z, 0, none⟩))), (.map (some q.ma)), (.map (some q.mr)), (.bool (q.op)), (.int .i64 (q.pl)), (.map (some q.mp)), (.bool (q.dn)), (Zt q.rp)] : List Value))] w3)
 refine hK1 _ _ ?_
 clear hK1 K1
 refine Z3 (Z1 rfl) (d := 3) (v := (.bool false)) rfl (by kernel_rfl) ?_
 refine Zj ?_
 refine Z7 ?_
 refine Zf ?_
 refine Zm ?_
 refine Z3 (Z1 rfl) (d := 4) (v := (.pointer (some ⟨b2, 74, none⟩))) rfl (by kernel_rfl) ?_
 refine Z3 (Z1 rfl) (d := 5) (v := (.bool (q.op))) rfl (Zh rfl (by kernel_rfl) (H4.cell 1 rfl (by kernel_rfl))) ?_
 refine Z3 (Z1 rfl) (d := 6) (v := (.bool (q.op))) rfl (by kernel_rfl) ?_
 refine (Z00 (q.op)).elim (fun b5 => ?_) (fun b5 => ?_)
 ·refine Z05 6 (.bool true) (congrArg Value.bool b5) ?_
  refine Z3 (Zs 2 6 true rfl (by kernel_rfl) rfl (by kernel_rfl)) (d := 7) (v := (.pointer (some ⟨b2, 75, none⟩))) rfl (by kernel_rfl) ?_
  refine Z3 (Zs 2 6 true rfl (by kernel_rfl) rfl (by kernel_rfl)) (d := 8) (v := (.int .i64 (q.pl))) rfl (Zh rfl (by kernel_rfl) (H4.cell 1 rfl (by kernel_rfl))) ?_
  refine Z3 (Zs 2 6 true rfl (by kernel_rfl) rfl (by kernel_rfl)) (d := 9) (v := (.int .i64 (ix))) rfl (Zh rfl (by kernel_rfl) (H4.roCell 0 rfl hb (fun h => h) rfl)) ?_
  refine Z3 (Zs 2 6 true rfl (by kernel_rfl) rfl (by kernel_rfl)) (d := 10) (v := (.bool (decide (q.pl = ix)))) rfl (by kernel_rfl) ?_
  refine Z3 (Z1 rfl) (d := 11) (v := (.bool (decide (q.pl = ix)))) rfl (by kernel_rfl) ?_
  refine Z3 (Z1 rfl) (d := 3) (v := (.bool (decide (q.pl = ix)))) rfl (by kernel_rfl) ?_
  refine Zj ?_
  refine Z7 ?_
  refine ZY ?_
  refine Z0I rfl (ZI (v := (.bool (decide (q.pl = ix)))) rfl) ?_
  exact ⟨congrArg (fun z_ => Ending.returned (Value.bool z_)) (show ((decide (q.pl = ix))) = (q.op && decide (q.pl = ix)) by first | rfl | (rw [b5]; rfl) | (simp only [b5]; rfl)), H4.upd 0 rfl [] (fun _ h => h.elim)⟩
 ·refine Z05 6 (.bool false) (congrArg Value.bool b5) ?_
  refine ZG (ZQ 2 6 true rfl (by kernel_rfl) rfl (by kernel_rfl)) rfl ?_
  refine ZG (ZQ 2 6 true rfl (by kernel_rfl) rfl (by kernel_rfl)) rfl ?_
  refine ZG (ZQ 2 6 true rfl (by kernel_rfl) rfl (by kernel_rfl)) rfl ?_
  refine ZG (ZQ 2 6 true rfl (by kernel_rfl) rfl (by kernel_rfl)) rfl ?_
  refine Z3 (Z1 rfl) (d := 11) (v := (.bool false)) rfl (by kernel_rfl) ?_
  refine Z3 (Z1 rfl) (d := 3) (v := (.bool false)) rfl (by kernel_rfl) ?_
  refine Zj ?_
  refine Z7 ?_
  refine ZY ?_
  refine Z0I rfl (ZI (v := (.bool false)) rfl) ?_
  exact ⟨congrArg (fun z_ => Ending.returned (Value.bool z_)) (show (false) = (q.op && decide (q.pl = ix)) by first | rfl | (rw [b5]; rfl) | (simp only [b5]; rfl)), H4.upd 0 rfl [] (fun _ h => h.elim)⟩
end Go.Proofs.YtgigjkjdmalmaaaGreat
namespace Go.Proofs.YtgigjkjdmalmaaaGreat
open Go.RowKit Go.Shelf
def Z5Y : Go.Shelf.Ren := ⟨fun | 6 => 64 | n => n, fun | 22 => 110 | 23 => 119 | 25 => 162 | 4 => 4 | 3 => 3 | 0 => 0 | n => n, fun | n => n⟩
theorem idxL : Go.Proofs.SlLaysH0.n6 Tryz.prog Z5Y := {
 mixed := by kernel_rfl,
 f6 := ⟨Tryz.f64.name, by decide, Tryz.func64.trans (congrArg some (by kernel_rfl))⟩,
 t0 := Tryz.underlying0,
 a0 := Tryz.isAgg0,
 z0 := Tryz.sizeOf0,
 v0 := Tryz.zeroValue0,
 t3 := Tryz.underlying3,
 a3 := Tryz.isAgg3,
 z3 := Tryz.sizeOf3,
 v3 := Tryz.zeroValue3,
 t4 := Tryz.underlying4,
 a4 := Tryz.isAgg4,
 z4 := Tryz.sizeOf4,
 v4 := Tryz.zeroValue4,
 t22 := Tryz.underlying110,
 a22 := Tryz.isAgg110,
 z22 := Tryz.sizeOf110,
 v22 := Tryz.zeroValue110,
 t25 := Tryz.underlying162,
 a25 := Tryz.isAgg162,
 z25 := Tryz.sizeOf162,
 v25 := Tryz.zeroValue162 }
instance : Inhabited Zl := ⟨rq0⟩
def Z51 (ix : Int) (q : Zl) : Bool := q.op && decide (q.pl = ix)
def Z6D (Q : List Zl) (ix : Int) : Int := Lib.idxBy (fun _ y => Z51 ix y) Q default
theorem Z5Z {Q : List Zl} {ix : Int} {k : Nat} {q : Zl} (hq : Q[k]? = some q) (h : Z51 ix q = true) (hn : ∀ j x, j < k → Q[j]? = some x → Z51 ix x = false) : Z6D Q ix = (k : Int) := by
 obtain ⟨hk, e⟩ := List.getElem?_eq_some_iff.1 hq
 have := Lib.idxBy_hit (fun _ y => Z51 ix y) Q Q.length k default hk (Nat.le_refl _) (by rw [getElem!_pos Q k hk, e]; exact h) (fun j hj => by
  rw [getElem!_pos Q j (by omega)]; exact hn j _ hj (List.getElem?_eq_getElem (by omega)))
 rw [List.take_length] at this
 exact this
theorem Z3N {Q : List Zl} {ix : Int} (hn : ∀ x ∈ Q, Z51 ix x = false) : Z6D Q ix = -1 := by
 have := Lib.idxBy_miss (fun _ y => Z51 ix y) Q Q.length default (fun j hj => by rw [getElem!_pos Q j hj]; exact hn _ (List.getElem_mem hj))
 rw [List.take_length] at this
 exact this
theorem Z60 (ix : Int) (b : Nat) (w : World) (hb : w.heap[b]? = some (.cells ⟨[.int .i64 ix]⟩ 3 (0, 0))) : PredBelow Tryz.prog 65 #[.pointer (some ⟨b, 0, none⟩)] (fun x => .agg (Zg x).toArray) (fun x => Z51 ix x) w := fun W x hW =>
 (Z4J W x b ix ((hW.block b (Z12 hb)).trans hb)).mono fun _ _ ⟨he, hu⟩ => ⟨he, Upd.below hW hu (by simp) hW.size⟩
theorem Z3B (w : World) (b : Nat) (ix : Int) (hb : w.heap[b]? = some (.cells ⟨[.int .i64 ix]⟩ 3 (0, 0))) (g lc : Nat) (Q : List Zl) (hv : (Ze 119 79 (.slice (some ⟨g, 0, none⟩) Q.length lc) Q.length (Q.flatMap Zg)).ok w) (hl : Q.length ≤ 1000000) :
  Calls Tryz.prog 64 #[.slice (some ⟨g, 0, none⟩) Q.length lc, .func (.func 65) #[] #[.pointer (some ⟨b, 0, none⟩)]] w fun e w' => e = .returned (.int .i64 (Z6D Q ix)) ∧ Upd [] w w' := by
 have hg : g < w.heap.size := (Ze _ _ _ _ _).lt hv g rfl
 have h := AnyQ.slices_IndexFunc (P := Tryz.prog) idxL 79 Tryz.isAgg119 Tryz.sizeOf119 Zg ZN (fun x => Z51 ix x) 65 #[.pointer (some ⟨b, 0, none⟩)] (enters_of Tryz.func65 (by kernel_rfl) rfl) g 0 Q.length lc Q w (Z60 ix b w hb) (Nat.le_refl _) (by omega) hg
  (fun j hj i u hi => Z01 hv rfl ZN (i := j) (x := Q[j]!) (by rw [getElem!_pos Q j hj, List.getElem?_eq_getElem hj]) i (by have := (List.getElem?_eq_some_iff.1 hi).1; rw [ZN] at this; simp [Nat.blt_eq]; omega) (by omega) hi)
 rw [List.take_length] at h
 exact h.mono fun _ _ ⟨he, hb⟩ => ⟨he, Below.upd hb⟩
end Go.Proofs.YtgigjkjdmalmaaaGreat

namespace Go.Proofs.YtgigjkjdmalmaaaGreat
open Go.RowKit
section
variable {g T n : Nat} {A : List Bool} {w w0 w' : World} {G : List Ck}
end
section
variable {P : Program} {n : Nat} {f : Nat → Value} {w w0 : World} {dst : Option Tmp} {ty : TypeId} {pos : String} {aft : Array Edge} {gd : Option (Nat × Bool)} {K : Act → World → Prop} {Q : Exit → Act → World → Prop} {G : List Ck}
end
section
variable {κ ν : Type} [DecidableEq κ] {P : Program} {n : Nat} {f : Nat → Value} {w w0 : World} {dst : Option Tmp} {ty : TypeId} {pos : String} {aft : Array Edge} {gd : Option (Nat × Bool)} {Q : Exit → Act → World → Prop} {G : List Ck} {T kt et : TypeId} {b : Nat} {encK : κ → Value} {encV : ν → Value} {l : List (κ × ν)}
end
theorem Z3I (a : Bool) : ∀ (es : List MapEntry) (ks : List Bool) (n : Nat), es.map (·.key) = ks.map Value.bool →
  Instr.findNow .bool (.bool a) es n = some ((ks.idxOf? a).bind fun i => (es[i]?).map fun e => (n + i, e.val)) := by
 intro es
 induction es with
 | nil => intro ks n h; cases ks <;> simp_all [Instr.findNow]
 | cons e es ih =>
  intro ks n h
  cases ks with
  | nil => simp at h
  | cons x ks =>
   simp only [List.map_cons, List.cons.injEq] at h
   obtain ⟨h1, h2⟩ := h
   by_cases hax : a = x
   ·subst hax
    simp [Instr.findNow, h1, Instr.sameNow, List.idxOf?_cons]
   ·have hx : (x == a) = false := by simp; exact fun h => hax h.symm
    have hx' : (a == x) = false := by simpa using hax
    simp only [Instr.findNow, h1, Instr.sameNow, hx', ih ks (n + 1) h2, List.idxOf?_cons, hx, Bool.false_eq_true, if_false]
    cases hi : ks.idxOf? a with
    | none => simp
    | some i => simp [Nat.add_assoc, Nat.add_comm 1 i]
theorem KeyTy.bool {P : Program} {k : TypeId} (hk : P.underlying k = some .bool) : KeyTy P k Value.bool where
 check w em a := MapKept.run_checkKey (d := .bool) hk (by simp [MapKept.IsKey]) em 9999
 find w a es ks h := by
  simp [Instr.findKey, run_underlying hk, Z3I a es ks 0 h]
 same a := by simp [Instr.sameBits]
end Go.Proofs.YtgigjkjdmalmaaaGreat
