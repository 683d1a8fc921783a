/- WHAT IS PROVED: contracts and plain laws of CeM, CtM, Dt16, ArrB, BatA. Conditions: stated with each. -/
import Derived.Laws.MakeOwn
import Derived.Test.YtgigjkjdmalmaaaGreatPC04
import Derived.Test.YtgigjkjdmalmaaaGreatPC05
import Derived.Test.YtgigjkjdmalmaaaGreatPC08
import Derived.Test.YtgigjkjdmalmaaaGreatPC09
import Derived.Test.YtgigjkjdmalmaaaGreatPC11
import Derived.Test.YtgigjkjdmalmaaaGreatPC12
set_option maxHeartbeats 4000000
set_option maxRecDepth 100000
namespace Go.Proofs.YtgigjkjdmalmaaaGreat
open Go.RowKit
structure StM (F : Int) (x : Z0) (M : List (Int × Zl)) : Prop where
 nd : (M.map (·.1)).Nodup
 r : ∀ y ∈ M, y.2.r = y.1
 b : ∀ y ∈ M, 0 ≤ y.1 ∧ y.1 < 3 * F + 1
 s : ∀ y ∈ M, Z2H y.2 x = true
theorem Z4B : ∀ (n : Nat) (l : List Int), l.Nodup → (∀ z ∈ l, 0 ≤ z ∧ z < (n : Int)) → l.length ≤ n
 | 0, l, _, h => by
  cases l with
  | nil => exact Nat.le_refl _
  | cons z _ => have := h z List.mem_cons_self; omega
 | n + 1, l, hn, h => by
  have h1 := Z4B n (l.filter fun z => !decide (z = (n : Int))) (hn.filter _) fun z hz => by
   obtain ⟨h2, h3⟩ := List.mem_filter.1 hz
   have := h z h2
   have h4 : ¬ z = (n : Int) := by simpa using h3
   omega
  have h2 : (l.filter fun z => decide (z = (n : Int))).length ≤ 1 := by
   have h3 : (l.filter fun z => decide (z = (n : Int))).Nodup := hn.filter _
   have h4 : ∀ z ∈ l.filter fun z => decide (z = (n : Int)), z = (n : Int) := fun z hz => by simpa using (List.mem_filter.1 hz).2
   revert h3 h4
   generalize (l.filter fun z => decide (z = (n : Int))) = m
   intro h3 h4
   match m, h3, h4 with
   | [], _, _ => exact Nat.zero_le _
   | [_], _, _ => exact Nat.le_refl _
   | a :: b :: m, h3, h4 =>
    have e1 := h4 a (by simp)
    have e2 := h4 b (by simp)
    have h5 := (List.nodup_cons.1 h3).1
    rw [e1, e2] at h5
    exact absurd List.mem_cons_self h5
  have h3 := l.length_eq_countP_add_countP fun z => decide (z = (n : Int))
  rw [List.countP_eq_length_filter, List.countP_eq_length_filter] at h3
  have h4 : (l.filter fun a => decide ¬(decide (a = (n : Int)) = true)) = l.filter fun z => !decide (z = (n : Int)) := by congr 1; funext a; by_cases q : a = (n : Int) <;> simp [q]
  rw [h4] at h3
  omega
section
variable {F : Int} {x : Z0} {M : List (Int × Zl)} {s : Zl}
theorem StM.nil : StM F x [] := ⟨List.nodup_nil, (fun _ h => nomatch h), (fun _ h => nomatch h), (fun _ h => nomatch h)⟩
theorem StM.len (h : StM F x M) (hF : 0 ≤ F) : (M.length : Int) ≤ 3 * F + 1 := by
 have := Z4B (3 * F + 1).toNat (M.map (·.1)) h.nd fun z hz => by
  obtain ⟨y, hy, rfl⟩ := List.mem_map.1 hz
  have := h.b y hy; omega
 rw [List.length_map] at this; omega
theorem StM.add (h : StM F x M) (hb : 0 ≤ s.r ∧ s.r < 3 * F + 1) (hs : Z2H s x = true) : StM F x (Z1k M s.r s) := by
 have hm : ∀ y ∈ Z1k M s.r s, y ∈ M ∨ y = (s.r, s) := fun y hy => by
  unfold Z1k at hy
  split at hy
  ·exact .inl hy
  ·rcases List.mem_append.1 hy with hy | hy
   ·exact .inl hy
   ·exact .inr (List.mem_singleton.1 hy)
 refine ⟨Z5D h.nd, fun y hy => ?_, fun y hy => ?_, fun y hy => ?_⟩
 ·rcases hm y hy with q | rfl
  ·exact h.r y q
  ·rfl
 ·rcases hm y hy with q | rfl
  ·exact h.b y q
  ·exact hb
 ·rcases hm y hy with q | rfl
  ·exact h.s y q
  ·exact hs
def Z4s (M : List (Int × Zl)) (k : Int) : Zl := (Z0f M k).getD Zf
theorem Z6j {l : List Int} {f : Int → Zl} {i : Nat} {y : Int} {D : List Zl} (h : l[i]? = some y) (hD : D = (l.take i).map f) : D ++ [f y] = (l.take (i + 1)).map f := by
 rw [hD, List.take_add_one, h, List.map_append]; rfl
theorem Z7c {k : Int} (hk : k ∈ M.map (·.1)) : (k, Z4s M k) ∈ M := Z7Q hk
theorem StM.ref (h : StM F x M) {T : List Zl} (hT : T = (Z1i M).map (Z4s M)) {n : Nat} (hn : (n : Int) = 3 * F + 1) : Z4H x T n = T ∧ T.length = M.length := by
 have hk : ∀ k ∈ Z1i M, (k, Z4s M k) ∈ M := fun k hk => Z7c (Z6N.1 hk)
 have hlen : T.length = M.length := by rw [hT, List.length_map, Z4J]
 have hs : T.Pairwise fun a b => a.r < b.r := by
  rw [hT, List.pairwise_map]
  refine List.Pairwise.imp_of_mem (fun {a b} ha hb hab => ?_) (Z7s h.nd)
  rw [h.r _ (hk a ha), h.r _ (hk b hb)]; exact hab
 refine ⟨Z56 (Z3g x T n) hs fun s => ?_, hlen⟩
 rw [Z4b]
 constructor
 ·rintro ⟨_, h2⟩; exact (Z1o h2).2.2
 ·intro hm
  have hm' := hm
  rw [hT] at hm'
  obtain ⟨k, hk1, rfl⟩ := List.mem_map.1 hm'
  have h1 := hk k hk1
  have h2 := h.b _ h1
  have h3 := h.r _ h1
  have h4 := h.s _ h1
  simp only at h2 h3 h4
  refine ⟨by omega, ?_⟩
  have hN : ((Z4s M k).r.toNat : Int) = (Z4s M k).r := by omega
  cases hf : Z1f x T (Z4s M k).r.toNat with
  | none =>
   unfold Z1f at hf
   have := List.find?_eq_none.1 hf _ hm
   simp [isR, hN, h4] at this
  | some t =>
   obtain ⟨e1, _, e3⟩ := Z1o hf
   rw [hN] at e1
   congr 1
   have hp := hs
   rw [List.pairwise_iff_getElem] at hp
   obtain ⟨i, hi, ei⟩ := List.mem_iff_getElem.1 e3
   obtain ⟨j, hj, ej⟩ := List.mem_iff_getElem.1 hm
   rcases Nat.lt_trichotomy i j with q | q | q
   ·have := hp i j hi hj q; rw [ei, ej] at this; omega
   ·subst q; exact ei.symm.trans ej
   ·have := hp j i hj hi q; rw [ei, ej] at this; omega
end
structure CrtIn (B : List Ck) (x : Z0) (z : Nat) (sa : Option Addr) (sc : Nat) (S T : List Zl) : Prop where
 c : Z3 z 57 (Z1I x ++ [.slice sa S.length sc]) ∈ B
 t : Ze 49 38 (.slice sa T.length sc) T.length (T.flatMap ZT) ∈ B
 e : S = T.take S.length
 l : S.length ≤ T.length
 n : T.length ≤ 64
section
variable {B : List Ck} {x : Z0} {z sc : Nat} {sa : Option Addr} {S T : List Zl} {w : World} {A : Ck}
theorem CrtIn.at (h : CrtIn B x z sa sc S T) (hb : (Z0u B).ok w) : ListAt ZT 38 w (.slice sa S.length sc) S := by
 have q := ListAt.take (k := S.length) (ListAt.row (enc := ZT) (sz := 38) Z0Q (by decide) (hb _ h.t)) h.l
 rw [← h.e] at q; exact q
theorem CrtIn.cell (h : CrtIn B x z sa sc S T) (hb : (Z0u B).ok w) : (Z3 z 57 (Z1I x ++ [.slice sa S.length sc])).ok w := hb _ h.c
theorem CrtIn.short (h : CrtIn B x z sa sc S T) : S.length ≤ 64 := Nat.le_trans h.l h.n
end
theorem Z7M {n : Nat} {f : Nat → Value} {w : World} {dst : Option Tmp} {ty : TypeId} {pos : String} {aft : Array Edge} {gd : Option (Nat × Bool)} {a b : Operand} {T : TypeId} (z : Option Nat) (ha : ev n f a = .pointer (z.map fun z => ⟨z, 0, none⟩)) (hb : ev n f b = .pointer none) :
  (execOp (ev n f) ⟨dst, .binOp .neq 117 a b T, ty, pos, aft, gd⟩).run Tryz.prog w = .ok (.value (.bool z.isSome)) w := by
 simp only [execOp, ha, hb]
 cases z <;> kernel_rfl
def SgL (h : Z1H) (L : List Z4) : Prop := ∀ y ∈ L, 1000 ≤ y.p ∨ ∃ t, 1 ≤ t ∧ t ≤ 50 ∧ y.s = Z08 ⟨y.p, 1, 1, h, t, 0, 0⟩
def yS (h : Z1H) (fr tm : Int) : Z4 := ⟨fr, Z08 ⟨fr, 1, 1, h, tm, 0, 0⟩⟩
section
variable {h : Z1H} {L : List Z4} {F fr tm sm t u : Int}
theorem Z3R {n : Nat} (hn : n < 128) : Z0S n = [UInt8.ofNat n] := by unfold Z0S Z5c; rw [if_pos hn]
theorem Z5Q (ht : 0 ≤ t ∧ t < 128) (hu : 0 ≤ u ∧ u < 128) (e : Z08 ⟨fr, 1, 1, h, t, 0, 0⟩ = Z08 ⟨fr, 1, 1, h, u, 0, 0⟩) : t = u := by
 simp only [Z08, Z0U, List.flatten_cons, List.flatten_nil, List.append_nil, List.append_cancel_left_eq] at e
 rw [Z3R (by omega), Z3R (by omega)] at e
 have e2 := congrArg UInt8.toNat (List.cons.inj e).1
 rw [UInt8.toNat_ofNat', UInt8.toNat_ofNat'] at e2
 omega
theorem SgL.sign (H : SgL h L) (ht : 1 ≤ tm ∧ tm ≤ 50) : SgL h (Zd L (yS h fr tm)) := fun y hy => by
 unfold Zd at hy
 split at hy
 ·exact H y hy
 ·rcases List.mem_append.1 hy with hy | hy
  ·exact H y hy
  ·rw [List.mem_singleton.1 hy]; exact .inr ⟨tm, ht.1, ht.2, rfl⟩
theorem ct_yes (hm : yS h fr tm ∈ L) (hb : 0 ≤ fr ∧ fr < 3 * F + 1) (ht : 1 ≤ tm ∧ tm ≤ 50) (e : sm = Z9 L (yS h fr tm)) : Z0W F L ⟨fr, 1, 1, h, tm, fr, sm⟩ = true := by
 have hp := Z3K hm
 have hr : Z1S L fr sm (Z08 ⟨fr, 1, 1, h, tm, fr, sm⟩) = true := by
  unfold Z1S
  refine decide_eq_true ⟨?_, ?_⟩
  ·show 0 < Z9 L (yS h fr tm); omega
  ·exact e.symm
 unfold Z0W inB
 rw [hr]
 simp only [Bool.and_true, Bool.and_eq_true, decide_eq_true_eq]
 refine ⟨⟨⟨hb, ht.1⟩, ?_⟩, ?_⟩
 ·show tm < _; omega
 ·first | rfl | trivial
theorem ct_no (H : SgL h L) (hb : 0 ≤ fr ∧ fr < 1000) (ht : 1 ≤ tm ∧ tm ≤ 50) : Z0W F L ⟨fr, 1, 1, h, tm + 60, fr, sm⟩ = false := by
 have hn : (⟨fr, Z08 ⟨fr, 1, 1, h, tm + 60, 0, 0⟩⟩ : Z4) ∉ L := fun q => by
  rcases H _ q with q | ⟨t, h1, h2, e⟩
  ·have : (1000 : Int) ≤ fr := q
   omega
  ·have := Z5Q (t := tm + 60) (u := t) (by omega) (by omega) e
   omega
 have hr : Z1S L fr sm (Z08 ⟨fr, 1, 1, h, tm + 60, fr, sm⟩) = false := by
  unfold Z1S
  refine decide_eq_false fun q => ?_
  have h1 := Z3c hn
  have h2 : 0 < Z9 L ⟨fr, Z08 ⟨fr, 1, 1, h, tm + 60, 0, 0⟩⟩ := q.1
  omega
 unfold Z0W
 rw [hr, Bool.and_false]
end
def Z0p (M : List (Int × Zl)) : List (Int × Bool) := M.map fun e => (e.1, true)
section
variable {M : List (Int × Zl)} {fr : Int} {s : Zl}
theorem Z3b : (Z0p M).length = M.length := List.length_map ..
theorem Z3I : (Z0p M).map (·.1) = M.map (·.1) := by unfold Z0p; rw [List.map_map]; rfl
theorem Z4z : Z2q (Z0p M) fr true = Z0p (Z1k M fr s) := by
 unfold Z2q
 by_cases h : fr ∈ M.map (·.1)
 ·rw [if_pos (by rw [Z3I]; exact h), Z61 h]
  unfold Z0p
  rw [List.map_map]
  refine List.map_congr_left fun e _ => ?_
  show (if e.1 = fr then (fr, true) else (e.1, true)) = (e.1, true)
  split
  ·rename_i q; rw [q]
  ·rfl
 ·rw [if_neg (by rw [Z3I]; exact h), Z5e h]
  unfold Z0p
  rw [List.map_append]; rfl
theorem Z62 : M.length ≤ (Z1k M fr s).length := by unfold Z1k; split <;> simp
end
end Go.Proofs.YtgigjkjdmalmaaaGreat

namespace Go.Proofs.YtgigjkjdmalmaaaGreat
open Go.RowKit
section
variable {g T n : Nat} {A : List Bool} {w w0 w' : World} {G : List Ck}
end
section
variable {P : Program} {n : Nat} {f : Nat → Value} {w w0 : World} {dst : Option Tmp} {ty : TypeId} {pos : String} {aft : Array Edge} {gd : Option (Nat × Bool)} {K : Act → World → Prop} {Q : Exit → Act → World → Prop} {G : List Ck}
end
section
variable {κ ν : Type} [DecidableEq κ] {P : Program} {n : Nat} {f : Nat → Value} {w w0 : World} {dst : Option Tmp} {ty : TypeId} {pos : String} {aft : Array Edge} {gd : Option (Nat × Bool)} {Q : Exit → Act → World → Prop} {G : List Ck} {T kt et : TypeId} {b : Nat} {encK : κ → Value} {encV : ν → Value} {l : List (κ × ν)}
end
theorem Z4q (a : Bool) : ∀ (es : List MapEntry) (ks : List Bool) (n : Nat), es.map (·.key) = ks.map Value.bool →
  Instr.findNow .bool (.bool a) es n = some ((ks.idxOf? a).bind fun i => (es[i]?).map fun e => (n + i, e.val)) := by
 intro es
 induction es with
 | nil => intro ks n h; cases ks <;> simp_all [Instr.findNow]
 | cons e es ih =>
  intro ks n h
  cases ks with
  | nil => simp at h
  | cons x ks =>
   simp only [List.map_cons, List.cons.injEq] at h
   obtain ⟨h1, h2⟩ := h
   by_cases hax : a = x
   ·subst hax
    simp [Instr.findNow, h1, Instr.sameNow, List.idxOf?_cons]
   ·have hx : (x == a) = false := by simp; exact fun h => hax h.symm
    have hx' : (a == x) = false := by simpa using hax
    simp only [Instr.findNow, h1, Instr.sameNow, hx', ih ks (n + 1) h2, List.idxOf?_cons, hx, Bool.false_eq_true, if_false]
    cases hi : ks.idxOf? a with
    | none => simp
    | some i => simp [Nat.add_assoc, Nat.add_comm 1 i]
theorem KeyTy.bool {P : Program} {k : TypeId} (hk : P.underlying k = some .bool) : KeyTy P k Value.bool where
 check w em a := MapKept.run_checkKey (d := .bool) hk (by simp [MapKept.IsKey]) em 9999
 find w a es ks h := by
  simp [Instr.findKey, run_underlying hk, Z4q a es ks 0 h]
 same a := by simp [Instr.sameBits]
theorem Z2K (w : World) (v n : Int) (hn : n ≤ 4611686018427387904) :
  Calls Tryz.prog 8 #[(.int .i64 (v)), (.int .i64 (n))] w fun e w' => e = .returned (.int .i64 (Z0G v n)) ∧ Upd [] w w' := by
 have H := Sat.start0 w
 refine Zv Tryz.func8 rfl 17 rfl (Nat.le_of_ble_eq_true rfl) ?_
 refine Zh ?_
 refine Zs ?_
 refine Z5 (Z2 rfl) (d := 4) (v := (.int .i64 (0))) rfl (by kernel_rfl) ?_
 refine Zr ?_
 refine Z7 ?_
 refine Zh ?_
 refine Zh ?_
 refine Zs ?_
 refine Z5 (Z2 rfl) (d := 6) (v := (.int .i64 (n))) rfl (by kernel_rfl) ?_
 refine Z5 (Z2 rfl) (d := 7) (v := (.bool (decide (n < 1)))) rfl (by kernel_rfl) ?_
 refine Zr ?_
 refine Z7 ?_
 refine (Z00 (decide (n < 1))).elim (fun b1 => ?_) (fun b1 => ?_)
 ·have g2 := of_decide_eq_true b1
  refine Zy 7 (.bool true) (congrArg Value.bool b1) ?_
  refine Z1j rfl ?_
  refine Zh ?_
  refine Zs ?_
  refine Z5 (Z2 rfl) (d := 4) (v := (.int .i64 (0))) rfl (by kernel_rfl) ?_
  refine Zr ?_
  refine Z7 ?_
  refine ZU ?_
  refine Z0Y ?_
  refine Z0T rfl (ZK (v := (.int .i64 (0))) rfl) ?_
  exact ⟨by unfold Z0G; rw [if_pos (of_decide_eq_true b1)], H.upd 0 rfl [] (fun _ h => h.elim)⟩
 ·have g3 := of_decide_eq_false b1
  refine Zy 7 (.bool false) (congrArg Value.bool b1) ?_
  refine Z0o rfl ?_
  refine ZW ?_
  refine Z7 ?_
  refine Zh ?_
  refine Zs ?_
  refine Z5 (Z2 rfl) (d := 8) (v := (.int .i64 (v))) rfl (by kernel_rfl) ?_
  refine Z5 (Z2 rfl) (d := 9) (v := (.int .i64 (n))) rfl (by kernel_rfl) ?_
  refine Z5 (Z2 rfl) (d := 10) (v := (.int .i64 (Int.tmod v n))) rfl (e_tmod (by kernel_rfl) (by omega)) ?_
  refine Z5 (Z2 rfl) (d := 5) (v := (.int .i64 (Int.tmod v n))) rfl (by kernel_rfl) ?_
  refine Zr ?_
  refine Z7 ?_
  refine Zh ?_
  refine Zh ?_
  refine Zs ?_
  refine Z5 (Z2 rfl) (d := 11) (v := (.int .i64 (Int.tmod v n))) rfl (by kernel_rfl) ?_
  refine Z5 (Z2 rfl) (d := 12) (v := (.bool (decide ((Int.tmod v n) < 0)))) rfl (by kernel_rfl) ?_
  refine Zr ?_
  refine Z7 ?_
  refine (Z00 (decide ((Int.tmod v n) < 0))).elim (fun b4 => ?_) (fun b4 => ?_)
  ·have g5 := of_decide_eq_true b4
   refine Zy 12 (.bool true) (congrArg Value.bool b4) ?_
   refine Z1j rfl ?_
   refine Zs ?_
   refine Z5 (Z2 rfl) (d := 13) (v := (.int .i64 (Int.tmod v n))) rfl (by kernel_rfl) ?_
   refine Z5 (Z2 rfl) (d := 14) (v := (.int .i64 (n))) rfl (by kernel_rfl) ?_
   refine Z5 (Z2 rfl) (d := 15) (v := (.int .i64 ((Int.tmod v n) + n))) rfl (Z0h (z := (Int.tmod v n) + n) (by kernel_rfl) (IntWalk.i64_in _ (by have := Z5v v n (by omega); omega))) ?_
   refine Z5 (Z2 rfl) (d := 5) (v := (.int .i64 ((Int.tmod v n) + n))) rfl (by kernel_rfl) ?_
   refine Zr ?_
   refine Z7 ?_
   refine Zh ?_
   refine Zs ?_
   refine Z5 (Z2 rfl) (d := 16) (v := (.int .i64 ((Int.tmod v n) + n))) rfl (by kernel_rfl) ?_
   refine Z5 (Z2 rfl) (d := 4) (v := (.int .i64 ((Int.tmod v n) + n))) rfl (by kernel_rfl) ?_
   refine Zr ?_
   refine Z7 ?_
   refine ZU ?_
   refine Z0T rfl (ZK (v := (.int .i64 ((Int.tmod v n) + n))) rfl) ?_
   exact ⟨by unfold Z0G; rw [if_neg (of_decide_eq_false b1), Z4L v n (by have := of_decide_eq_false b1; omega), if_pos (of_decide_eq_true b4)], H.upd 0 rfl [] (fun _ h => h.elim)⟩
  ·have g6 := of_decide_eq_false b4
   refine Zy 12 (.bool false) (congrArg Value.bool b4) ?_
   refine Z0o rfl ?_
   refine ZW ?_
   refine Z7 ?_
   refine Zh ?_
   refine Zs ?_
   refine Z5 (Z2 rfl) (d := 16) (v := (.int .i64 (Int.tmod v n))) rfl (by kernel_rfl) ?_
   refine Z5 (Z2 rfl) (d := 4) (v := (.int .i64 (Int.tmod v n))) rfl (by kernel_rfl) ?_
   refine Zr ?_
   refine Z7 ?_
   refine ZU ?_
   refine Z0T rfl (ZK (v := (.int .i64 (Int.tmod v n))) rfl) ?_
   exact ⟨by unfold Z0G; rw [if_neg (of_decide_eq_false b1), Z4L v n (by have := of_decide_eq_false b1; omega), if_neg (of_decide_eq_false b4)], H.upd 0 rfl [] (fun _ h => h.elim)⟩
theorem Z7H (w : World) (f c : Int) (hf : -1099511627776 ≤ f ∧ f ≤ 1099511627776) :
  Calls Tryz.prog 55 #[(.agg ⟨([(.int .i64 (f)), (.int .i64 (c))] : List Value)⟩)] w fun e w' => e = .returned (.int .i64 (3 * f + 1)) ∧ Upd [] w w' := by
 have H := Sat.start0 w
 refine Zv Tryz.func55 rfl 7 rfl (Nat.le_of_ble_eq_true rfl) ?_
 refine Zh ?_
 refine Zs ?_
 refine ZQ (Z2 rfl) (fun K1 hK1 => ?_)
 refine Z0N (vs := ([(.int .i64 (f)), (.int .i64 (c))] : List Value)) rfl H rfl rfl ?_
 intro b2 w3 (H4 : Sat w [Za w (fun _ => False), Z3 b2 27 ([(.int .i64 (f)), (.int .i64 (c))] : List Value)] w3)
 refine hK1 _ _ ?_
 clear hK1 K1
 refine Z5 (Z2 rfl) (d := 2) (v := (.int .i64 (0))) rfl (by kernel_rfl) ?_
 refine Zr ?_
 refine Z7 ?_
 refine Zh ?_
 refine Zs ?_
 refine Z5 (Z2 rfl) (d := 3) (v := (.pointer (some ⟨b2, 0, none⟩))) rfl (by kernel_rfl) ?_
 refine Z5 (Z2 rfl) (d := 4) (v := (.int .i64 (f))) rfl (Zi rfl (by kernel_rfl) (H4.cell 1 rfl rfl)) ?_
 refine Z5 (Z2 rfl) (d := 5) (v := (.int .i64 (3 * f))) rfl (Z0h (z := 3 * f) (by kernel_rfl) (IntWalk.i64_in _ (by omega))) ?_
 refine Z5 (Z2 rfl) (d := 6) (v := (.int .i64 ((3 * f) + 1))) rfl (Z0h (z := (3 * f) + 1) (by kernel_rfl) (IntWalk.i64_in _ (by omega))) ?_
 refine Z5 (Z2 rfl) (d := 2) (v := (.int .i64 ((3 * f) + 1))) rfl (by kernel_rfl) ?_
 refine Zr ?_
 refine Z7 ?_
 refine ZU ?_
 refine Z0T rfl (ZK (v := (.int .i64 ((3 * f) + 1))) rfl) ?_
 exact ⟨rfl, H4.upd 0 rfl [] (fun _ h => h.elim)⟩
theorem wQ_any (w : World) (f c : Int) (hf : -1099511627776 ≤ f ∧ f ≤ 1099511627776) :
  Calls Tryz.prog 58 #[(.agg ⟨([(.int .i64 (f)), (.int .i64 (c))] : List Value)⟩)] w fun e w' => e = .returned (.int .i64 (2 * f + 1)) ∧ Upd [] w w' := by
 have H := Sat.start0 w
 refine Zv Tryz.func58 rfl 7 rfl (Nat.le_of_ble_eq_true rfl) ?_
 refine Zh ?_
 refine Zs ?_
 refine ZQ (Z2 rfl) (fun K1 hK1 => ?_)
 refine Z0N (vs := ([(.int .i64 (f)), (.int .i64 (c))] : List Value)) rfl H rfl rfl ?_
 intro b2 w3 (H4 : Sat w [Za w (fun _ => False), Z3 b2 27 ([(.int .i64 (f)), (.int .i64 (c))] : List Value)] w3)
 refine hK1 _ _ ?_
 clear hK1 K1
 refine Z5 (Z2 rfl) (d := 2) (v := (.int .i64 (0))) rfl (by kernel_rfl) ?_
 refine Zr ?_
 refine Z7 ?_
 refine Zh ?_
 refine Zs ?_
 refine Z5 (Z2 rfl) (d := 3) (v := (.pointer (some ⟨b2, 0, none⟩))) rfl (by kernel_rfl) ?_
 refine Z5 (Z2 rfl) (d := 4) (v := (.int .i64 (f))) rfl (Zi rfl (by kernel_rfl) (H4.cell 1 rfl rfl)) ?_
 refine Z5 (Z2 rfl) (d := 5) (v := (.int .i64 (2 * f))) rfl (Z0h (z := 2 * f) (by kernel_rfl) (IntWalk.i64_in _ (by omega))) ?_
 refine Z5 (Z2 rfl) (d := 6) (v := (.int .i64 ((2 * f) + 1))) rfl (Z0h (z := (2 * f) + 1) (by kernel_rfl) (IntWalk.i64_in _ (by omega))) ?_
 refine Z5 (Z2 rfl) (d := 2) (v := (.int .i64 ((2 * f) + 1))) rfl (by kernel_rfl) ?_
 refine Zr ?_
 refine Z7 ?_
 refine ZU ?_
 refine Z0T rfl (ZK (v := (.int .i64 ((2 * f) + 1))) rfl) ?_
 exact ⟨rfl, H4.upd 0 rfl [] (fun _ h => h.elim)⟩
theorem Z6T (w : World) (f c r : Int) (hf : -1099511627776 ≤ f ∧ f ≤ 1099511627776) :
  Calls Tryz.prog 36 #[(.agg ⟨([(.int .i64 (f)), (.int .i64 (c))] : List Value)⟩), (.int .i64 (r))] w fun e w' => e = .returned (.bool (inB f r)) ∧ Upd [] w w' := by
 have H := Sat.start0 w
 refine Zv Tryz.func36 rfl 13 rfl (Nat.le_of_ble_eq_true rfl) ?_
 refine Zh ?_
 refine Zs ?_
 refine ZQ (Z2 rfl) (fun K1 hK1 => ?_)
 refine Z0N (vs := ([(.int .i64 (f)), (.int .i64 (c))] : List Value)) rfl H rfl rfl ?_
 intro b2 w3 (H4 : Sat w [Za w (fun _ => False), Z3 b2 27 ([(.int .i64 (f)), (.int .i64 (c))] : List Value)] w3)
 refine hK1 _ _ ?_
 clear hK1 K1
 refine Z5 (Z2 rfl) (d := 4) (v := (.bool false)) rfl (by kernel_rfl) ?_
 refine Zr ?_
 refine Z7 ?_
 refine Z0K [4, 5, 6, 7, 8, 9, 10, 11, 12] (fun G_ W_ => G_ 4 = (.bool (inB f r)) ∧ Sat w [Za w (fun _ => False), Z3 b2 27 ([(.int .i64 (f)), (.int .i64 (c))] : List Value)] W_) ?_ ?_
 ·refine Zs ?_
  refine Z5 (Z2 rfl) (d := 5) (v := (.int .i64 (r))) rfl (by kernel_rfl) ?_
  refine Z5 (Z2 rfl) (d := 6) (v := (.bool (decide (r ≥ 0)))) rfl (by kernel_rfl) ?_
  refine Z5 (Z2 rfl) (d := 7) (v := (.bool (decide (r ≥ 0)))) rfl (by kernel_rfl) ?_
  refine (Z00 (decide (r ≥ 0))).elim (fun b6 => ?_) (fun b6 => ?_)
  ·have g7 := of_decide_eq_true b6
   refine Z05 7 (.bool true) (congrArg Value.bool b6) ?_
   refine Z5 (Zw 2 7 true rfl (by kernel_rfl) rfl (by kernel_rfl)) (d := 8) (v := (.int .i64 (r))) rfl (by kernel_rfl) ?_
   refine Z5 (Zw 2 7 true rfl (by kernel_rfl) rfl (by kernel_rfl)) (d := 9) (v := (.agg ⟨([(.int .i64 (f)), (.int .i64 (c))] : List Value)⟩)) rfl (ZE (vs := ([(.int .i64 (f)), (.int .i64 (c))] : List Value)) rfl (by kernel_rfl) (by kernel_rfl) (by exact Nat.le_of_ble_eq_true (by kernel_rfl)) (H4.at 1 rfl) (by kernel_rfl)) ?_
   refine ZQ (Zw 2 7 true rfl (by kernel_rfl) rfl (by kernel_rfl)) (fun K8 hK8 => ?_)
   refine ZJ (d := 10) rfl (by kernel_rfl) (Z7H w3 f c (by omega)) ?_
   rintro _ w9 ⟨rfl, u11⟩
   have H10 := H4.keepU u11
   refine ⟨_, rfl, ?_⟩
   refine hK8 _ _ ?_
   clear hK8 K8
   refine Z5 (Zw 2 7 true rfl (by kernel_rfl) rfl (by kernel_rfl)) (d := 11) (v := (.bool (decide (r < (3 * f + 1))))) rfl (by kernel_rfl) ?_
   refine Z5 (Z2 rfl) (d := 12) (v := (.bool (decide (r < (3 * f + 1))))) rfl (by kernel_rfl) ?_
   refine Z5 (Z2 rfl) (d := 4) (v := (.bool (decide (r < (3 * f + 1))))) rfl (by kernel_rfl) ?_
   refine Zr ?_
   refine Z02 ?_ ⟨(congrArg Value.bool (show (decide (r < (3 * f + 1))) = (inB f r) by simp [inB, b6])), H10⟩
   exact (Z6 rfl (Z6 rfl (Z6 rfl (Z6 rfl (Z6 rfl (Z6 rfl (Z6 rfl (Z6 rfl (Z6 rfl (Z6 rfl (Z0B)))))))))))
  ·have g12 := of_decide_eq_false b6
   refine Z05 7 (.bool false) (congrArg Value.bool b6) ?_
   refine ZI (Zx 2 7 true rfl (by kernel_rfl) rfl (by kernel_rfl)) rfl ?_
   refine ZI (Zx 2 7 true rfl (by kernel_rfl) rfl (by kernel_rfl)) rfl ?_
   refine ZI (Zx 2 7 true rfl (by kernel_rfl) rfl (by kernel_rfl)) rfl ?_
   refine ZI (Zx 2 7 true rfl (by kernel_rfl) rfl (by kernel_rfl)) rfl ?_
   refine Z5 (Z2 rfl) (d := 12) (v := (.bool false)) rfl (by kernel_rfl) ?_
   refine Z5 (Z2 rfl) (d := 4) (v := (.bool false)) rfl (by kernel_rfl) ?_
   refine Zr ?_
   refine Z02 ?_ ⟨(congrArg Value.bool (show false = (inB f r) by simp [inB, b6])), H4⟩
   exact (Z6 rfl (Z6 rfl (Z6 rfl (Z6 rfl (Z6 rfl (Z6 rfl (Z6 rfl (Z6 rfl (Z6 rfl (Z6 rfl (Z0B)))))))))))
 ·rintro f13 w14 ⟨v16, H15⟩
  refine Zy 4 _ v16 ?_
  refine ZU ?_
  refine Z0T rfl (ZK (v := (.bool (inB f r))) rfl) ?_
  exact ⟨rfl, H15.upd 0 rfl [] (fun _ h => h.elim)⟩
theorem Z5p (w : World) :
  Calls Tryz.prog 10 #[] w fun e w' => ∃ b mb, e = .returned (.pointer (some ⟨b, 0, none⟩)) ∧ (ZP [Z3 b 108 [.map (some mb)], Zn mb Zc (Value.int .i64) (Zk [])]).ok w' ∧ Upd [] w w' ∧ ∀ q_, (ZP [Z3 b 108 [.map (some mb)], Zn mb Zc (Value.int .i64) (Zk [])]).fp q_ → w.heap.size ≤ q_ := by
 have H := Sat.start0 w
 refine Zv Tryz.func10 rfl 4 rfl (Nat.le_of_ble_eq_true rfl) ?_
 refine Zh ?_
 refine Zs ?_
 refine Z5 (Z2 rfl) (d := 0) (v := (.pointer none)) rfl (by kernel_rfl) ?_
 refine Zr ?_
 refine Z7 ?_
 refine Zh ?_
 refine Zs ?_
 refine ZQ (Z2 rfl) (fun K1 hK1 => ?_)
 refine Z0l Zc (Value.int .i64) rfl H ?_
 intro b2 w3 (H4 : Sat w [Za w (fun _ => False), Zn b2 Zc (Value.int .i64) []] w3)
 refine hK1 _ _ ?_
 clear hK1 K1
 refine Z5 (Z2 rfl) (d := 2) (v := (.agg ⟨([(.map (some b2))] : List Value)⟩)) rfl (by kernel_rfl) ?_
 refine ZQ (Z2 rfl) (fun K5 hK5 => ?_)
 refine Z0N (vs := ([(.map (some b2))] : List Value)) rfl H4 rfl rfl ?_
 intro b6 w7 (H8 : Sat w [Za w (fun _ => False), Zn b2 Zc (Value.int .i64) [], Z3 b6 108 ([(.map (some b2))] : List Value)] w7)
 refine hK5 _ _ ?_
 clear hK5 K5
 refine Z5 (Z2 rfl) (d := 0) (v := (.pointer (some ⟨b6, 0, none⟩))) rfl (by kernel_rfl) ?_
 refine Zr ?_
 refine Z7 ?_
 refine ZU ?_
 refine Z0T rfl (ZK (v := (.pointer (some ⟨b6, 0, none⟩))) rfl) ?_
 exact ⟨b6, b2, rfl, H8.fin [2, 1] (by decide) rfl, H8.upd 0 rfl [] (fun _ h => h.elim), H8.freshS 0 rfl (fun _ h => h) [2, 1] rfl rfl⟩
end Go.Proofs.YtgigjkjdmalmaaaGreat
