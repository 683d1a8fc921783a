/- WHAT IS PROVED: contracts and plain laws of CeM, Fams, ClF, Whole10M, Store10, ClJ, ClI, Dt16, ArrB. Conditions: stated with each. -/
import Derived.Shelf.SlicesQ.IndexFunc
import Derived.Laws.MakeOwn
import Derived.Test.YtgigjkjdmalmaaaGreatPY03
import Derived.Test.YtgigjkjdmalmaaaGreatPY04
import Derived.Test.YtgigjkjdmalmaaaGreatPY05
import Derived.Test.YtgigjkjdmalmaaaGreatPY06
import Derived.Test.YtgigjkjdmalmaaaGreatPY08
import Derived.Test.YtgigjkjdmalmaaaGreatPY09
import Derived.Test.YtgigjkjdmalmaaaGreatPY10
import Derived.Test.YtgigjkjdmalmaaaGreatPY12
import Derived.Test.YtgigjkjdmalmaaaGreatPY13
set_option maxHeartbeats 4000000
set_option maxRecDepth 100000
namespace Go.Proofs.YtgigjkjdmalmaaaGreat
open Go.RowKit
structure StM (F : Int) (x : Z0) (M : List (Int × Zk)) : Prop where
 nd : (M.map (·.1)).Nodup
 r : ∀ y ∈ M, y.2.r = y.1
 b : ∀ y ∈ M, 0 ≤ y.1 ∧ y.1 < 3 * F + 1
 s : ∀ y ∈ M, Z3x y.2 x = true
theorem Z6T : ∀ (n : Nat) (l : List Int), l.Nodup → (∀ z ∈ l, 0 ≤ z ∧ z < (n : Int)) → l.length ≤ n
 | 0, l, _, h => by
  cases l with
  | nil => exact Nat.le_refl _
  | cons z _ => have := h z List.mem_cons_self; omega
 | n + 1, l, hn, h => by
  have h1 := Z6T n (l.filter fun z => !decide (z = (n : Int))) (hn.filter _) fun z hz => by
   obtain ⟨h2, h3⟩ := List.mem_filter.1 hz
   have := h z h2
   have h4 : ¬ z = (n : Int) := by simpa using h3
   omega
  have h2 : (l.filter fun z => decide (z = (n : Int))).length ≤ 1 := by
   have h3 : (l.filter fun z => decide (z = (n : Int))).Nodup := hn.filter _
   have h4 : ∀ z ∈ l.filter fun z => decide (z = (n : Int)), z = (n : Int) := fun z hz => by simpa using (List.mem_filter.1 hz).2
   revert h3 h4
   generalize (l.filter fun z => decide (z = (n : Int))) = m
   intro h3 h4
   match m, h3, h4 with
   | [], _, _ => exact Nat.zero_le _
   | [_], _, _ => exact Nat.le_refl _
   | a :: b :: m, h3, h4 =>
    have e1 := h4 a (by simp)
    have e2 := h4 b (by simp)
    have h5 := (List.nodup_cons.1 h3).1
    rw [e1, e2] at h5
    exact absurd List.mem_cons_self h5
  have h3 := l.length_eq_countP_add_countP fun z => decide (z = (n : Int))
  rw [List.countP_eq_length_filter, List.countP_eq_length_filter] at h3
  have h4 : (l.filter fun a => decide ¬(decide (a = (n : Int)) = true)) = l.filter fun z => !decide (z = (n : Int)) := by congr 1; funext a; by_cases q : a = (n : Int) <;> simp [q]
  rw [h4] at h3
  omega
section
variable {F : Int} {x : Z0} {M : List (Int × Zk)} {s : Zk}
theorem StM.nil : StM F x [] := ⟨List.nodup_nil, (fun _ h => nomatch h), (fun _ h => nomatch h), (fun _ h => nomatch h)⟩
theorem StM.len (h : StM F x M) (hF : 0 ≤ F) : (M.length : Int) ≤ 3 * F + 1 := by
 have := Z6T (3 * F + 1).toNat (M.map (·.1)) h.nd fun z hz => by
  obtain ⟨y, hy, rfl⟩ := List.mem_map.1 hz
  have := h.b y hy; omega
 rw [List.length_map] at this; omega
theorem StM.add (h : StM F x M) (hb : 0 ≤ s.r ∧ s.r < 3 * F + 1) (hs : Z3x s x = true) : StM F x (Z0U M s.r s) := by
 have hm : ∀ y ∈ Z0U M s.r s, y ∈ M ∨ y = (s.r, s) := fun y hy => by
  unfold Z0U at hy
  split at hy
  ·exact .inl hy
  ·rcases List.mem_append.1 hy with hy | hy
   ·exact .inl hy
   ·exact .inr (List.mem_singleton.1 hy)
 refine ⟨Z8k h.nd, fun y hy => ?_, fun y hy => ?_, fun y hy => ?_⟩
 ·rcases hm y hy with q | rfl
  ·exact h.r y q
  ·rfl
 ·rcases hm y hy with q | rfl
  ·exact h.b y q
  ·exact hb
 ·rcases hm y hy with q | rfl
  ·exact h.s y q
  ·exact hs
def Z6I (M : List (Int × Zk)) (k : Int) : Zk := (Zn M k).getD Zr
theorem Z9l {l : List Int} {f : Int → Zk} {i : Nat} {y : Int} {D : List Zk} (h : l[i]? = some y) (hD : D = (l.take i).map f) : D ++ [f y] = (l.take (i + 1)).map f := by
 rw [hD, List.take_add_one, h, List.map_append]; rfl
theorem ZaC {k : Int} (hk : k ∈ M.map (·.1)) : (k, Z6I M k) ∈ M := Z9m hk
theorem StM.ref (h : StM F x M) {T : List Zk} (hT : T = (Z1t M).map (Z6I M)) {n : Nat} (hn : (n : Int) = 3 * F + 1) : Z6Z x T n = T ∧ T.length = M.length := by
 have hk : ∀ k ∈ Z1t M, (k, Z6I M k) ∈ M := fun k hk => ZaC (Za7.1 hk)
 have hlen : T.length = M.length := by rw [hT, List.length_map, Z71]
 have hs : T.Pairwise fun a b => a.r < b.r := by
  rw [hT, List.pairwise_map]
  refine List.Pairwise.imp_of_mem (fun {a b} ha hb hab => ?_) (Zbf h.nd)
  rw [h.r _ (hk a ha), h.r _ (hk b hb)]; exact hab
 refine ⟨Z7B (Z4t x T n) hs fun s => ?_, hlen⟩
 rw [Z66]
 constructor
 ·rintro ⟨_, h2⟩; exact (Z1L h2).2.2
 ·intro hm
  have hm' := hm
  rw [hT] at hm'
  obtain ⟨k, hk1, rfl⟩ := List.mem_map.1 hm'
  have h1 := hk k hk1
  have h2 := h.b _ h1
  have h3 := h.r _ h1
  have h4 := h.s _ h1
  simp only at h2 h3 h4
  refine ⟨by omega, ?_⟩
  have hN : ((Z6I M k).r.toNat : Int) = (Z6I M k).r := by omega
  cases hf : Z1r x T (Z6I M k).r.toNat with
  | none =>
   unfold Z1r at hf
   have := List.find?_eq_none.1 hf _ hm
   simp [isR, hN, h4] at this
  | some t =>
   obtain ⟨e1, _, e3⟩ := Z1L hf
   rw [hN] at e1
   congr 1
   have hp := hs
   rw [List.pairwise_iff_getElem] at hp
   obtain ⟨i, hi, ei⟩ := List.mem_iff_getElem.1 e3
   obtain ⟨j, hj, ej⟩ := List.mem_iff_getElem.1 hm
   rcases Nat.lt_trichotomy i j with q | q | q
   ·have := hp i j hi hj q; rw [ei, ej] at this; omega
   ·subst q; exact ei.symm.trans ej
   ·have := hp j i hj hi q; rw [ei, ej] at this; omega
end
structure CrtIn (B : List Ck) (x : Z0) (z : Nat) (sa : Option Addr) (sc : Nat) (S T : List Zk) : Prop where
 c : Z3 z 57 (Z1E x ++ [.slice sa S.length sc]) ∈ B
 t : Zc 49 38 (.slice sa T.length sc) T.length (T.flatMap ZV) ∈ B
 e : S = T.take S.length
 l : S.length ≤ T.length
 n : T.length ≤ 64
section
variable {B : List Ck} {x : Z0} {z sc : Nat} {sa : Option Addr} {S T : List Zk} {w : World} {A : Ck}
theorem CrtIn.more (h : CrtIn B x z sa sc S T) : CrtIn (A :: B) x z sa sc S T := ⟨List.mem_cons_of_mem _ h.c, List.mem_cons_of_mem _ h.t, h.e, h.l, h.n⟩
theorem CrtIn.at (h : CrtIn B x z sa sc S T) (hb : (Z0j B).ok w) : ListAt ZV 38 w (.slice sa S.length sc) S := by
 have q := ListAt.take (k := S.length) (ListAt.row (enc := ZV) (sz := 38) Z0W (by decide) (hb _ h.t)) h.l
 rw [← h.e] at q; exact q
theorem CrtIn.cell (h : CrtIn B x z sa sc S T) (hb : (Z0j B).ok w) : (Z3 z 57 (Z1E x ++ [.slice sa S.length sc])).ok w := hb _ h.c
theorem CrtIn.short (h : CrtIn B x z sa sc S T) : S.length ≤ 64 := Nat.le_trans h.l h.n
end
theorem ZbW {n : Nat} {f : Nat → Value} {w : World} {dst : Option Tmp} {ty : TypeId} {pos : String} {aft : Array Edge} {gd : Option (Nat × Bool)} {a b : Operand} {T : TypeId} (z : Option Nat) (ha : ev n f a = .pointer (z.map fun z => ⟨z, 0, none⟩)) (hb : ev n f b = .pointer none) :
  (execOp (ev n f) ⟨dst, .binOp .neq 117 a b T, ty, pos, aft, gd⟩).run Tryz.prog w = .ok (.value (.bool z.isSome)) w := by
 simp only [execOp, ha, hb]
 cases z <;> kernel_rfl
section
variable {α : Type} {f : α → List Ck} {Q : List α} {q : α} {k : Nat} {w0 w : World} {G G' L R : List Ck}
theorem Sat.perm (H : Sat w0 G w) (h : G.Perm G') : Sat w0 G' w :=
 ⟨H.ext, fun B hB => H.all B (h.mem_iff.2 hB), (h.pairwise_iff (fun hab b hb ha => hab b ha hb)).1 H.dis⟩
theorem Sat.openL (H : Sat w0 (ZL L :: R) w) : Sat w0 (L ++ R) w := by
 have q := H.open 0 rfl
 simpa using q
def Z1j (f : α → List Ck) (Q : List α) : Ck := ZL (Q.flatMap f)
theorem Z6G (hk : Q[k]? = some q) : (Q.flatMap f).Perm (f q ++ (Q.eraseIdx k).flatMap f) := by
 obtain ⟨hl, rfl⟩ := List.getElem?_eq_some_iff.1 hk
 have h : Q.Perm (Q[k] :: Q.eraseIdx k) := by
  rw [List.eraseIdx_eq_take_drop_succ]
  have e : Q = Q.take k ++ Q[k] :: Q.drop (k + 1) := by rw [List.getElem_cons_drop, List.take_append_drop]
  exact (List.Perm.of_eq e).trans List.perm_middle
 exact h.flatMap_right f
theorem Sat.famOut (H : Sat w0 (Z1j f Q :: R) w) (hk : Q[k]? = some q) : Sat w0 (f q ++ (Z1j f (Q.eraseIdx k) :: R)) w := by
 have h1 := Sat.openL H
 have h2 : Sat w0 ((Q.eraseIdx k).flatMap f ++ (f q ++ R)) w := h1.perm (by
  refine ((Z6G hk).append_right R).trans ?_
  rw [List.append_assoc]
  exact (List.perm_append_comm_assoc _ _ _))
 have h3 : Sat w0 (Z1j f (Q.eraseIdx k) :: (f q ++ R)) w := Sat.closeL h2
 exact h3.perm List.perm_middle.symm
theorem Sat.famIn (H : Sat w0 (f q ++ (Z1j f (Q.eraseIdx k) :: R)) w) (hk : k < Q.length) : Sat w0 (Z1j f (Q.set k q) :: R) w := by
 have h1 : Sat w0 (Z1j f (Q.eraseIdx k) :: (f q ++ R)) w := H.perm List.perm_middle
 have h2 := Sat.openL h1
 refine Sat.closeL (L := (Q.set k q).flatMap f) (R := R) (h2.perm ?_)
 have e : (Q.set k q).eraseIdx k = Q.eraseIdx k := by rw [List.eraseIdx_set_eq]
 have h3 := Z6G (f := f) (Q := Q.set k q) (k := k) (q := q) (by rw [List.getElem?_set_self hk])
 rw [e] at h3
 refine ((List.perm_append_comm_assoc _ _ _).trans ?_)
 rw [← List.append_assoc]
 exact h3.symm.append_right R
theorem Sat.famNew (H : Sat w0 G w) (f : α → List Ck) : Sat w0 (G ++ [Z1j f []]) w :=
 H.add (Ext.refl w) (fun _ _ => rfl) ⟨fun A hA => by simp at hA, by simp⟩ (fun b hb => by obtain ⟨A, hA, _⟩ := hb; simp at hA)
theorem Sat.famPush (H : Sat w0 (f q ++ (Z1j f Q :: R)) w) : Sat w0 (Z1j f (Q ++ [q]) :: R) w := by
 have h1 : Sat w0 (Z1j f Q :: (f q ++ R)) w := H.perm List.perm_middle
 have h2 := Sat.openL h1
 refine Sat.closeL (L := (Q ++ [q]).flatMap f) (R := R) (h2.cast ?_)
 rw [List.flatMap_append, List.append_assoc]
 simp
theorem ZbZ (h : (Z1j f Q).ok w) (hk : Q[k]? = some q) : ∀ A ∈ f q, A.ok w := fun A hA => h.1 A (List.mem_flatMap.2 ⟨q, List.mem_of_getElem? hk, hA⟩)
end
instance decEnt : DecidableEq EntD := fun a b =>
 if h : a.cl = b.cl ∧ a.sq = b.sq ∧ a.h = b.h ∧ a.t = b.t then .isTrue (by cases a; cases b; simp_all) else .isFalse (fun e => h (by rw [e]; simp))
instance decRc : DecidableEq RcD := fun a b =>
 if h : a.i = b.i ∧ a.e = b.e then .isTrue (by cases a; cases b; simp_all) else .isFalse (fun e => h (by rw [e]; simp))
structure Zcu where
 p : Int
 t : Int
deriving DecidableEq
def sy0 : Zcu := ⟨0, 0⟩
theorem Zai (w : World) : (zeroValue 131).run Tryz.prog w = .ok (rcV rc0) w := by kernel_rfl
theorem Z61 (w : World) (a b c d : Int) : (Op.equalIn 9998 43 (.agg ⟨[.int .i64 a, .int .i64 b]⟩) (.agg ⟨[.int .i64 c, .int .i64 d]⟩)).run Tryz.prog w = .ok (decide (a = c ∧ b = d)) w := by
 have ei := fun a b => run_equalIn_int (P := Tryz.prog) w 9996 3 .i64 .i64 a b Tryz.underlying3
 refine (Z1Z (d := 9997) _ [a == c, b == d] Tryz.underlying43 (by kernel_rfl)
  ⟨⟨by decide, .int .i64 a, .int .i64 c, by kernel_rfl, by kernel_rfl, ei _ _⟩, ⟨by decide, .int .i64 b, .int .i64 d, by kernel_rfl, by kernel_rfl, ei _ _⟩, trivial⟩).trans ?_
 congr 1
 rw [Bool.eq_iff_iff]
 simp
theorem Zbo (w : World) (s : EntD) : (part 43 ⟨Z4L s⟩ 0).run Tryz.prog w = .ok (.agg ⟨[.int .i64 s.cl, .int .i64 s.sq]⟩) w ∧ (part 40 ⟨Z4L s⟩ 2).run Tryz.prog w = .ok (Z8t s.h) w ∧ (part 45 ⟨Z4L s⟩ 34).run Tryz.prog w = .ok (.int .u64 s.t) w :=
 ⟨by kernel_rfl, by kernel_rfl, by kernel_rfl⟩
theorem Z6F (w : World) (x y : EntD) : (Op.equalIn 9999 73 (.agg ⟨Z4L x⟩) (.agg ⟨Z4L y⟩)).run Tryz.prog w = .ok (decide (x = y)) w := by
 obtain ⟨x1, x2, x3⟩ := Zbo w x
 obtain ⟨y1, y2, y3⟩ := Zbo w y
 have eu := fun a b => run_equalIn_int (P := Tryz.prog) w 9997 45 .u64 .u64 a b Tryz.underlying45
 refine (Z1Z (d := 9998) _ [decide (x.cl = y.cl ∧ x.sq = y.sq), decide (x.h = y.h), x.t == y.t] Tryz.underlying73 (by kernel_rfl)
  ⟨⟨by decide, _, _, x1, y1, Z61 w _ _ _ _⟩, ⟨by decide, _, _, x2, y2, Z2p w 9996 _ _⟩, ⟨by decide, _, _, x3, y3, eu _ _⟩, trivial⟩).trans ?_
 congr 1
 obtain ⟨a1, a2, a3, a4⟩ := x
 obtain ⟨b1, b2, b3, b4⟩ := y
 rw [Bool.eq_iff_iff]
 simp [and_assoc]
theorem rcF_i (w : World) (s : RcD) : (part 3 ⟨Z9g s⟩ 0).run Tryz.prog w = .ok (.int .i64 s.i) w ∧ (part 73 ⟨Z9g s⟩ 1).run Tryz.prog w = .ok (.agg ⟨Z4L s.e⟩) w :=
 ⟨by kernel_rfl, by kernel_rfl⟩
theorem rcF : Flat Tryz.prog 131 Z9g := by
 refine ⟨fun w x y => ?_, by kernel_rfl⟩
 obtain ⟨x1, x2⟩ := rcF_i w x
 obtain ⟨y1, y2⟩ := rcF_i w y
 have ei := fun a b => run_equalIn_int (P := Tryz.prog) w 9998 3 .i64 .i64 a b Tryz.underlying3
 refine (Z1Z (d := 9999) _ [x.i == y.i, decide (x.e = y.e)] Tryz.underlying131 (by kernel_rfl)
  ⟨⟨by decide, _, _, x1, y1, ei _ _⟩, ⟨by decide, _, _, x2, y2, Z6F w _ _⟩, trivial⟩).trans ?_
 congr 1
 obtain ⟨a1, a2⟩ := x
 obtain ⟨b1, b2⟩ := y
 rw [Bool.eq_iff_iff]
 simp
end Go.Proofs.YtgigjkjdmalmaaaGreat

namespace Go.Proofs.YtgigjkjdmalmaaaGreat
open Go.RowKit
theorem Z2a {a a' : Option Addr} {n c n' c' : Nat} (h : Value.slice a n c = .slice a' n' c') : a = a' := by simp only [Value.slice.injEq] at h; exact h.1
section
variable {P : Program} {ops : Array Oper} {Q : Exit → Act → World → Prop} {md : Region.Mode} {S : World → Prop} {B : Nat → Bool}
end
section
variable {P : Program} {n : Nat} {f : Nat → Value} {w w0 : World} {dst : Option Tmp} {ty : TypeId} {pos : String} {aft : Array Edge} {gd : Option (Nat × Bool)} {K : Act → World → Prop} {Q : Exit → Act → World → Prop} {G : List Ck}
theorem Z4z {α : Type} {enc : α → List Value} {size : Nat} (hs : ∀ x, (enc x).length = size) : ∀ {A : List α} {i off : Nat} {x0 x1 : α} {vs : List Value}, A[i]? = some x0 → off + vs.length ≤ size → Z0P (enc x0) off vs = enc x1 → Z0P (A.flatMap enc) (i * size + off) vs = (A.set i x1).flatMap enc
 | [], i, _, _, _, _, h, _, _ => by simp at h
 | y :: A, 0, off, x0, x1, vs, h, ho, hsp => by
  simp only [List.getElem?_cons_zero, Option.some.injEq] at h
  subst h
  simp only [List.flatMap_cons, List.set_cons_zero, Nat.zero_mul, Nat.zero_add]
  rw [← hsp]
  unfold Z0P
  have hl := hs y
  rw [List.take_append_of_le_length (by omega), List.drop_append_of_le_length (by omega), List.append_assoc, List.append_assoc, List.append_assoc]
 | y :: A, i + 1, off, x0, x1, vs, h, ho, hsp => by
  simp only [List.getElem?_cons_succ] at h
  have ih := Z4z hs h ho hsp
  simp only [List.flatMap_cons, List.set_cons_succ]
  rw [← ih]
  unfold Z0P
  have hl := hs y
  have e : (i + 1) * size + off = (enc y).length + (i * size + off) := by rw [hl, Nat.succ_mul]; omega
  rw [e, List.take_length_add_append, Nat.add_assoc, List.drop_length_add_append, List.append_assoc, List.append_assoc, List.append_assoc]
theorem Z2B {α : Type} {enc : α → List Value} {size e : Nat} (hs : ∀ x, (enc x).length = size) {T : TypeId} {x y : Operand} {u : Value} {vs : List Value} {g c m o : Nat} {A : List α} (hd : dst = none) (H : Sat w0 G w) (j : Nat) (hj : G[j]? = some (Zc e size (.slice (some ⟨g, 0, none⟩) m c) m (A.flatMap enc)))
  (hx : ev n f x = .pointer (some ⟨g, o, none⟩)) (hy : ev n f y = u) (hu : u.cells = ⟨vs⟩) (hN : P.cellsOf T = vs.length) (h0 : 0 < vs.length) (h1 : vs.all (·.oneCell') = true) (i off : Nat) {x0 : α} (x1 : α) (hi : A[i]? = some x0) (ho : o = i * size + off) (hle : off + vs.length ≤ size) (hsp : Z0P (enc x0) off vs = enc x1)
  (kk : ∀ w', Sat w0 (G.set j (Zc e size (.slice (some ⟨g, 0, none⟩) m c) m ((A.set i x1).flatMap enc))) w' → K (fr n f) w') : WO P ⟨dst, .store T x y, ty, pos, aft, gd⟩ K Q n f w := by
 have hil : i < A.length := (List.getElem?_eq_some_iff.1 hi).1
 have hlt : i * size + size ≤ A.length * size := by have := Nat.mul_le_mul_right size (show i + 1 ≤ A.length from hil); rwa [Nat.succ_mul] at this
 exact Z4V hd H j hj rfl hx hy hu hN h0 (by rw [Z1p enc size hs]; omega) h1 (xs' := (A.set i x1).flatMap enc) (by rw [ho]; exact Z4z hs hi hle hsp) kk
end
theorem Z8o (w : World) (q : Zq) (b : Nat) (ix : Int) (hb : w.heap[b]? = some (.cells ⟨[.int .i64 ix]⟩ 3 (0, 0))) :
  Calls Tryz.prog 65 #[(.agg ⟨(([(.int .i64 (q.x.cl)), (.int .i64 (q.x.seq))] : List Value) ++ hc q.x.h ++ ([(.int .i64 (q.x.len)), (.int .i64 (q.x.sb)), (.int .i64 (q.x.sm)), ((.slice q.pa q.P.length q.pc))] : List Value) ++ hc q.no ++ ([(.map (some q.ms)), ((.pointer (q.cb.map fun z => ⟨z, 0, none⟩))), (.map (some q.ma)), (.map (some q.mr)), (.bool (q.op)), (.int .i64 (q.pl)), (.map (some q.mp)), (.bool (q.dn)), (ZD q.rp)] : List Value))⟩), (.pointer (some ⟨b, 0, none⟩))] w fun e w' => e = .returned (.bool (q.op && decide (q.pl = ix))) ∧ Upd [] w w' := by
 have H := Sat.start0 w
 refine Zg Tryz.func65 rfl 12 rfl (Nat.le_of_ble_eq_true rfl) ?_
 refine Zf ?_
 refine Zt ?_
 refine Z0B (Z5 rfl) (fun K1 hK1 => ?_)
 refine Z2R (vs := (([(.int .i64 (q.x.cl)), (.int .i64 (q.x.seq))] : List Value) ++ hc q.x.h ++ ([(.int .i64 (q.x.len)), (.int .i64 (q.x.sb)), (.int .i64 (q.x.sm)), ((.slice q.pa q.P.length q.pc))] : List Value) ++ hc q.no ++ ([(.map (some q.ms)), ((.pointer (q.cb.map fun z => ⟨z, 0, none⟩))), (.map (some q.ma)), (.map (some q.mr)), (.bool (q.op)), (.int .i64 (q.pl)), (.map (some q.mp)), (.bool (q.dn)), (ZD q.rp)] : List Value))) rfl H rfl rfl ?_
 intro b2 w3 (H4 : Sat w [Z7 w (fun _ => False), Z3 b2 119 (([(.int .i64 (q.x.cl)), (.int .i64 (q.x.seq))] : List Value) ++ hc q.x.h ++ ([(.int .i64 (q.x.len)), (.int .i64 (q.x.sb)), (.int .i64 (q.x.sm)), ((.slice q.pa q.P.length q.pc))] : List Value) ++ hc q.no ++ ([(.map (some q.ms)), ((.pointer (q.cb.map fun z => ⟨z, 0, none⟩))), (.map (some q.ma)), (.map (some q.mr)), (.bool (q.op)), (.int .i64 (q.pl)), (.map (some q.mp)), (.bool (q.dn)), (ZD q.rp)] : List Value))] w3)
 refine hK1 _ _ ?_
 clear hK1 K1
 refine Z6 (Z5 rfl) (d := 3) (v := (.bool false)) rfl (by kernel_rfl) ?_
 refine Zu ?_
 refine Zb ?_
 refine Zf ?_
 refine Zt ?_
 refine Z6 (Z5 rfl) (d := 4) (v := (.pointer (some ⟨b2, 74, none⟩))) rfl (by kernel_rfl) ?_
 refine Z6 (Z5 rfl) (d := 5) (v := (.bool (q.op))) rfl (Zi rfl (by kernel_rfl) (H4.cell 1 rfl (by kernel_rfl))) ?_
 refine Z6 (Z5 rfl) (d := 6) (v := (.bool (q.op))) rfl (by kernel_rfl) ?_
 refine (ZC (q.op)).elim (fun b5 => ?_) (fun b5 => ?_)
 ·refine ZP 6 (.bool true) (congrArg Value.bool b5) ?_
  refine Z6 (Z0k 2 6 true rfl (by kernel_rfl) rfl (by kernel_rfl)) (d := 7) (v := (.pointer (some ⟨b2, 75, none⟩))) rfl (by kernel_rfl) ?_
  refine Z6 (Z0k 2 6 true rfl (by kernel_rfl) rfl (by kernel_rfl)) (d := 8) (v := (.int .i64 (q.pl))) rfl (Zi rfl (by kernel_rfl) (H4.cell 1 rfl (by kernel_rfl))) ?_
  refine Z6 (Z0k 2 6 true rfl (by kernel_rfl) rfl (by kernel_rfl)) (d := 9) (v := (.int .i64 (ix))) rfl (Zi rfl (by kernel_rfl) (H4.roCell 0 rfl hb (fun h => h) rfl)) ?_
  refine Z6 (Z0k 2 6 true rfl (by kernel_rfl) rfl (by kernel_rfl)) (d := 10) (v := (.bool (decide (q.pl = ix)))) rfl (by kernel_rfl) ?_
  refine Z6 (Z5 rfl) (d := 11) (v := (.bool (decide (q.pl = ix)))) rfl (by kernel_rfl) ?_
  refine Z6 (Z5 rfl) (d := 3) (v := (.bool (decide (q.pl = ix)))) rfl (by kernel_rfl) ?_
  refine Zu ?_
  refine Zb ?_
  refine Zz ?_
  refine Z1x rfl (Z0c (v := (.bool (decide (q.pl = ix)))) rfl) ?_
  exact ⟨congrArg (fun z_ => Ending.returned (Value.bool z_)) (show ((decide (q.pl = ix))) = (q.op && decide (q.pl = ix)) by first | rfl | (rw [b5]; rfl) | (simp only [b5]; rfl)), H4.upd 0 rfl [] (fun _ h => h.elim)⟩
 ·refine ZP 6 (.bool false) (congrArg Value.bool b5) ?_
  refine Z15 (Z0Q 2 6 true rfl (by kernel_rfl) rfl (by kernel_rfl)) rfl ?_
  refine Z15 (Z0Q 2 6 true rfl (by kernel_rfl) rfl (by kernel_rfl)) rfl ?_
  refine Z15 (Z0Q 2 6 true rfl (by kernel_rfl) rfl (by kernel_rfl)) rfl ?_
  refine Z15 (Z0Q 2 6 true rfl (by kernel_rfl) rfl (by kernel_rfl)) rfl ?_
  refine Z6 (Z5 rfl) (d := 11) (v := (.bool false)) rfl (by kernel_rfl) ?_
  refine Z6 (Z5 rfl) (d := 3) (v := (.bool false)) rfl (by kernel_rfl) ?_
  refine Zu ?_
  refine Zb ?_
  refine Zz ?_
  refine Z1x rfl (Z0c (v := (.bool false)) rfl) ?_
  exact ⟨congrArg (fun z_ => Ending.returned (Value.bool z_)) (show (false) = (q.op && decide (q.pl = ix)) by first | rfl | (rw [b5]; rfl) | (simp only [b5]; rfl)), H4.upd 0 rfl [] (fun _ h => h.elim)⟩
end Go.Proofs.YtgigjkjdmalmaaaGreat
namespace Go.Proofs.YtgigjkjdmalmaaaGreat
open Go.RowKit Go.Shelf
def ZaE : Go.Shelf.Ren := ⟨fun | 6 => 64 | n => n, fun | 22 => 110 | 23 => 119 | 25 => 162 | 4 => 4 | 3 => 3 | 0 => 0 | n => n, fun | n => n⟩
theorem idxL : Go.Proofs.SlLaysH0.n6 Tryz.prog ZaE := {
 mixed := by kernel_rfl,
 f6 := ⟨Tryz.f64.name, by decide, Tryz.func64.trans (congrArg some (by kernel_rfl))⟩,
 t0 := Tryz.underlying0,
 a0 := Tryz.isAgg0,
 z0 := Tryz.sizeOf0,
 v0 := Tryz.zeroValue0,
 t3 := Tryz.underlying3,
 a3 := Tryz.isAgg3,
 z3 := Tryz.sizeOf3,
 v3 := Tryz.zeroValue3,
 t4 := Tryz.underlying4,
 a4 := Tryz.isAgg4,
 z4 := Tryz.sizeOf4,
 v4 := Tryz.zeroValue4,
 t22 := Tryz.underlying110,
 a22 := Tryz.isAgg110,
 z22 := Tryz.sizeOf110,
 v22 := Tryz.zeroValue110,
 t25 := Tryz.underlying162,
 a25 := Tryz.isAgg162,
 z25 := Tryz.sizeOf162,
 v25 := Tryz.zeroValue162 }
instance : Inhabited Zq := ⟨rq0⟩
def Z8l (ix : Int) (q : Zq) : Bool := q.op && decide (q.pl = ix)
def Zc2 (Q : List Zq) (ix : Int) : Int := Lib.idxBy (fun _ y => Z8l ix y) Q default
theorem ZaF {Q : List Zq} {ix : Int} {k : Nat} {q : Zq} (hq : Q[k]? = some q) (h : Z8l ix q = true) (hn : ∀ j x, j < k → Q[j]? = some x → Z8l ix x = false) : Zc2 Q ix = (k : Int) := by
 obtain ⟨hk, e⟩ := List.getElem?_eq_some_iff.1 hq
 have := Lib.idxBy_hit (fun _ y => Z8l ix y) Q Q.length k default hk (Nat.le_refl _) (by rw [getElem!_pos Q k hk, e]; exact h) (fun j hj => by
  rw [getElem!_pos Q j (by omega)]; exact hn j _ hj (List.getElem?_eq_getElem (by omega)))
 rw [List.take_length] at this
 exact this
theorem Z9o {Q : List Zq} {ix : Int} (hn : ∀ x ∈ Q, Z8l ix x = false) : Zc2 Q ix = -1 := by
 have := Lib.idxBy_miss (fun _ y => Z8l ix y) Q Q.length default (fun j hj => by rw [getElem!_pos Q j hj]; exact hn _ (List.getElem_mem hj))
 rw [List.take_length] at this
 exact this
theorem ZaG (ix : Int) (b : Nat) (w : World) (hb : w.heap[b]? = some (.cells ⟨[.int .i64 ix]⟩ 3 (0, 0))) : PredBelow Tryz.prog 65 #[.pointer (some ⟨b, 0, none⟩)] (fun x => .agg (Zh x).toArray) (fun x => Z8l ix x) w := fun W x hW =>
 (Z8o W x b ix ((hW.block b (Z0J hb)).trans hb)).mono fun _ _ ⟨he, hu⟩ => ⟨he, Upd.below hW hu (by simp) hW.size⟩
theorem Z6q (w : World) (b : Nat) (ix : Int) (hb : w.heap[b]? = some (.cells ⟨[.int .i64 ix]⟩ 3 (0, 0))) (g lc : Nat) (Q : List Zq) (hv : (Zc 119 79 (.slice (some ⟨g, 0, none⟩) Q.length lc) Q.length (Q.flatMap Zh)).ok w) (hl : Q.length ≤ 1000000) :
  Calls Tryz.prog 64 #[.slice (some ⟨g, 0, none⟩) Q.length lc, .func (.func 65) #[] #[.pointer (some ⟨b, 0, none⟩)]] w fun e w' => e = .returned (.int .i64 (Zc2 Q ix)) ∧ Upd [] w w' := by
 have hg : g < w.heap.size := (Zc _ _ _ _ _).lt hv g rfl
 have h := AnyQ.slices_IndexFunc (P := Tryz.prog) idxL 79 Tryz.isAgg119 Tryz.sizeOf119 Zh ZB (fun x => Z8l ix x) 65 #[.pointer (some ⟨b, 0, none⟩)] (enters_of Tryz.func65 (by kernel_rfl) rfl) g 0 Q.length lc Q w (ZaG ix b w hb) (Nat.le_refl _) (by omega) hg
  (fun j hj i u hi => ZS hv rfl ZB (i := j) (x := Q[j]!) (by rw [getElem!_pos Q j hj, List.getElem?_eq_getElem hj]) i (by have := (List.getElem?_eq_some_iff.1 hi).1; rw [ZB] at this; simp [Nat.blt_eq]; omega) (by omega) hi)
 rw [List.take_length] at h
 exact h.mono fun _ _ ⟨he, hb⟩ => ⟨he, Below.upd hb⟩
end Go.Proofs.YtgigjkjdmalmaaaGreat

namespace Go.Proofs.YtgigjkjdmalmaaaGreat
open Go.RowKit
section
variable {g T n : Nat} {A : List Bool} {w w0 w' : World} {G : List Ck}
end
section
variable {P : Program} {n : Nat} {f : Nat → Value} {w w0 : World} {dst : Option Tmp} {ty : TypeId} {pos : String} {aft : Array Edge} {gd : Option (Nat × Bool)} {K : Act → World → Prop} {Q : Exit → Act → World → Prop} {G : List Ck}
end
section
variable {κ ν : Type} [DecidableEq κ] {P : Program} {n : Nat} {f : Nat → Value} {w w0 : World} {dst : Option Tmp} {ty : TypeId} {pos : String} {aft : Array Edge} {gd : Option (Nat × Bool)} {Q : Exit → Act → World → Prop} {G : List Ck} {T kt et : TypeId} {b : Nat} {encK : κ → Value} {encV : ν → Value} {l : List (κ × ν)}
end
theorem Z6H (a : Bool) : ∀ (es : List MapEntry) (ks : List Bool) (n : Nat), es.map (·.key) = ks.map Value.bool →
  Instr.findNow .bool (.bool a) es n = some ((ks.idxOf? a).bind fun i => (es[i]?).map fun e => (n + i, e.val)) := by
 intro es
 induction es with
 | nil => intro ks n h; cases ks <;> simp_all [Instr.findNow]
 | cons e es ih =>
  intro ks n h
  cases ks with
  | nil => simp at h
  | cons x ks =>
   simp only [List.map_cons, List.cons.injEq] at h
   obtain ⟨h1, h2⟩ := h
   by_cases hax : a = x
   ·subst hax
    simp [Instr.findNow, h1, Instr.sameNow, List.idxOf?_cons]
   ·have hx : (x == a) = false := by simp; exact fun h => hax h.symm
    have hx' : (a == x) = false := by simpa using hax
    simp only [Instr.findNow, h1, Instr.sameNow, hx', ih ks (n + 1) h2, List.idxOf?_cons, hx, Bool.false_eq_true, if_false]
    cases hi : ks.idxOf? a with
    | none => simp
    | some i => simp [Nat.add_assoc, Nat.add_comm 1 i]
theorem KeyTy.bool {P : Program} {k : TypeId} (hk : P.underlying k = some .bool) : KeyTy P k Value.bool where
 check w em a := MapKept.run_checkKey (d := .bool) hk (by simp [MapKept.IsKey]) em 9999
 find w a es ks h := by
  simp [Instr.findKey, run_underlying hk, Z6H a es ks 0 h]
 same a := by simp [Instr.sameBits]
end Go.Proofs.YtgigjkjdmalmaaaGreat
