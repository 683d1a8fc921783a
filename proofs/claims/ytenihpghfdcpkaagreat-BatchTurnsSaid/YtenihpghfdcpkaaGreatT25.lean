/- WHAT IS PROVED: contracts and plain laws of TurnM12, Flats. Conditions: stated with each. -/
import Derived.Test.YtenihpghfdcpkaaGreatT15
import Derived.Test.YtenihpghfdcpkaaGreatT16
import Derived.Test.YtenihpghfdcpkaaGreatT24
set_option maxHeartbeats 4000000
set_option maxRecDepth 100000
namespace Go.Proofs.YtenihpghfdcpkaaGreat
open Go.RowKit
section
variable {α : Type} {num : α → Int} {may : α → Bool} {L L' D D' : List α} {x : α}
theorem turn_mem {k : Nat} : ∀ x, x ∈ L.drop k ++ L.take k ↔ x ∈ L := fun x => by
 rw [List.mem_append, or_comm, ← List.mem_append, List.take_append_drop]
theorem twice_mem : ∀ x, x ∈ L ++ L ↔ x ∈ L := fun x => by simp
theorem firstN_le : (firstN num may L).length ≤ L.length := by
 have key : ∀ n, (firstN num may (L.take n)).length ≤ (L.take n).length := fun n => by
  induction n with
  | zero => simp [firstN]
  | succ n ih =>
   rcases Nat.lt_or_ge n L.length with q | q
   ·rw [firstN_step (List.getElem?_eq_getElem q), List.take_add_one, List.getElem?_eq_getElem q]
    have := takeN_len (num := num) (may := may) (D := firstN num may (L.take n)) (x := L[n])
    simp only [Option.toList_some, List.length_append, List.length_cons, List.length_nil]
    omega
   ·rw [List.take_of_length_le (by omega)]; rw [List.take_of_length_le q] at ih; exact ih
 have := key L.length
 rwa [List.take_length] at this
theorem SortN.ids (hs : SortN num may L D) (hm : ∀ x, x ∈ L ↔ x ∈ L') (hup : L'.Pairwise fun a b => num a < num b) (hy : ∀ x ∈ L', may x = true) : D = L' := by
 refine sorted_same hs.up hup fun x => ?_
 rw [hs.mem]
 constructor
 ·exact fun h => (hm x).1 (List.mem_of_find?_eq_some h)
 ·intro hx
  obtain ⟨z, hz⟩ := Option.isSome_iff_exists.1 (List.find?_isSome (p := fun y => decide (num y = num x) && may y) (xs := L) |>.2 ⟨x, (hm x).2 hx, by simp [hy x hx]⟩)
  rw [hz]
  have h1 := (hm z).1 (List.mem_of_find?_eq_some hz)
  have h2 := List.find?_some hz
  simp only [Bool.and_eq_true, decide_eq_true_eq] at h2
  obtain ⟨i, hi, ei⟩ := List.mem_iff_getElem.1 h1
  obtain ⟨j, hj, ej⟩ := List.mem_iff_getElem.1 hx
  rcases Nat.lt_trichotomy i j with q | q | q
  ·have := List.pairwise_iff_getElem.1 hup i j hi hj q
   rw [ei, ej] at this; omega
  ·subst q; rw [ei] at ej; rw [ej]
  ·have := List.pairwise_iff_getElem.1 hup j i hj hi q
   rw [ei, ej] at this; omega
theorem SortN.two (h : SortN num may (L ++ L) D) (h' : SortN num may L D') : D = D' := h.same h' fun n => by
 rw [List.find?_append]
 cases L.find? fun y => decide (num y = n) && may y <;> rfl
theorem SortN.one (h : SortN num may L D) (h' : SortN num may L D') : D = D' := h.same h' fun _ => rfl
end
theorem mayTb_same {M : List (Int × EntD)} {X X' : List (Int × Bool)} {D : List OpR} (h : HvOk X (fun x : OpR => x.i) D) (h' : HvOk X' (fun x : OpR => x.i) D) : mayTb M X' = mayTb M X := by
 funext t
 unfold mayTb
 rw [h t.i, h' t.i]
section
variable {F last tm : Int} {Lb : List Signed} {B : List Ck} {PS L DP : List PrR} {OS : List OpR} {TS : List TbR} {w : World} {o : OpR} {t : TbR}
theorem PsF.dps (h : PsF F last tm Lb B PS) (hm : ∀ x, x ∈ L ↔ x ∈ PS) (hs : SortN (fun x : PrR => x.r) (mayPr F 4 tm) L DP) : DP = PS := hs.ids hm h.up fun x hx => (h.all x hx).may
theorem PsF.lims (h : PsF F last tm Lb B PS) (hm : ∀ x, x ∈ L ↔ x ∈ PS) (hF : 1 ≤ F ∧ F ≤ 2) {m : PrR → Bool} : (firstN (fun x : PrR => x.r) m L).length ≤ 12 :=
 Nat.le_trans (firstN_lim (n := 7) fun x hx => by have := (h.all x ((hm x).1 hx)).r; omega) (by decide)
theorem OpG.opk (h : OpG B o) (hb : (bagC B).ok w) : OpK w o := ⟨hb _ h.inn, by rw [h.len]; decide⟩
theorem TbG.tbk {F : Int} (h : TbG F Lb B t) (hb : (bagC B).ok w) : TbK w t := ⟨hb _ h.inn, Nat.le_trans h.len (by decide)⟩
end
instance : DecidableEq StampD := fun a b =>
 if h : a.r = b.r ∧ a.cl = b.cl ∧ a.seq = b.seq ∧ a.h = b.h ∧ a.t = b.t ∧ a.sb = b.sb ∧ a.sm = b.sm then .isTrue (by cases a; cases b; simp_all) else .isFalse (fun e => h (by rw [e]; simp))
instance : DecidableEq CommitD := fun a b =>
 if h : a.cl = b.cl ∧ a.seq = b.seq ∧ a.h = b.h ∧ a.len = b.len ∧ a.sb = b.sb ∧ a.sm = b.sm then .isTrue (by cases a; cases b; simp_all) else .isFalse (fun e => h (by rw [e]; simp))
instance : DecidableEq DenyD := fun a b =>
 if h : a.r = b.r ∧ a.i = b.i ∧ a.sb = b.sb ∧ a.sm = b.sm then .isTrue (by cases a; cases b; simp_all) else .isFalse (fun e => h (by rw [e]; simp))
theorem sig_equalIn (w : World) (a b c d : Int) : (Op.equalIn 9999 69 (pairV a b) (pairV c d)).run Tryz.prog w = .ok (decide (a = c ∧ b = d)) w := by
 have ei := fun a b => run_equalIn_int (P := Tryz.prog) w 9997 3 .i64 .i64 a b Tryz.underlying3
 refine (struct_equalIn (d := 9998) _ [a == c, b == d] Tryz.underlying69 (by kernel_rfl)
  ⟨⟨by decide, .int .i64 a, .int .i64 c, by kernel_rfl, by kernel_rfl, ei _ _⟩, ⟨by decide, .int .i64 b, .int .i64 d, by kernel_rfl, by kernel_rfl, ei _ _⟩, trivial⟩).trans ?_
 congr 1
 rw [Bool.eq_iff_iff]
 simp
theorem stF_i (w : World) (s : StampD) : (part 3 ⟨encSt s⟩ 0).run Tryz.prog w = .ok (.int .i64 s.r) w ∧ (part 59 ⟨encSt s⟩ 1).run Tryz.prog w = .ok (pairV s.cl s.seq) w ∧ (part 61 ⟨encSt s⟩ 3).run Tryz.prog w = .ok (hashV s.h) w ∧ (part 25 ⟨encSt s⟩ 35).run Tryz.prog w = .ok (.int .u64 s.t) w ∧ (part 69 ⟨encSt s⟩ 36).run Tryz.prog w = .ok (pairV s.sb s.sm) w :=
 ⟨by kernel_rfl, by kernel_rfl, by kernel_rfl, by kernel_rfl, by kernel_rfl⟩
theorem stF : Flat Tryz.prog 149 encSt := by
 refine ⟨fun w x y => ?_, by kernel_rfl⟩
 obtain ⟨x1, x2, x3, x4, x5⟩ := stF_i w x
 obtain ⟨y1, y2, y3, y4, y5⟩ := stF_i w y
 have ei := fun a b => run_equalIn_int (P := Tryz.prog) w 9998 3 .i64 .i64 a b Tryz.underlying3
 have eu := fun a b => run_equalIn_int (P := Tryz.prog) w 9998 25 .u64 .u64 a b Tryz.underlying25
 refine (struct_equalIn (d := 9999) _ [x.r == y.r, decide (x.cl = y.cl ∧ x.seq = y.seq), decide (x.h = y.h), x.t == y.t, decide (x.sb = y.sb ∧ x.sm = y.sm)] Tryz.underlying149 (by kernel_rfl)
  ⟨⟨by decide, _, _, x1, y1, ei _ _⟩, ⟨by decide, _, _, x2, y2, name_equalIn w _ _ _ _⟩, ⟨by decide, _, _, x3, y3, hash_equalIn w 9997 _ _⟩, ⟨by decide, _, _, x4, y4, eu _ _⟩, ⟨by decide, _, _, x5, y5, sig_equalIn w _ _ _ _⟩, trivial⟩).trans ?_
 congr 1
 obtain ⟨a1, a2, a3, a4, a5, a6, a7⟩ := x
 obtain ⟨b1, b2, b3, b4, b5, b6, b7⟩ := y
 rw [Bool.eq_iff_iff]
 simp [and_assoc]
theorem coF_i (w : World) (s : CommitD) : (part 59 ⟨encCo s⟩ 0).run Tryz.prog w = .ok (pairV s.cl s.seq) w ∧ (part 61 ⟨encCo s⟩ 2).run Tryz.prog w = .ok (hashV s.h) w ∧ (part 3 ⟨encCo s⟩ 34).run Tryz.prog w = .ok (.int .i64 s.len) w ∧ (part 69 ⟨encCo s⟩ 35).run Tryz.prog w = .ok (pairV s.sb s.sm) w :=
 ⟨by kernel_rfl, by kernel_rfl, by kernel_rfl, by kernel_rfl⟩
theorem coF : Flat Tryz.prog 73 encCo := by
 refine ⟨fun w x y => ?_, by kernel_rfl⟩
 obtain ⟨x1, x2, x3, x4⟩ := coF_i w x
 obtain ⟨y1, y2, y3, y4⟩ := coF_i w y
 have ei := fun a b => run_equalIn_int (P := Tryz.prog) w 9998 3 .i64 .i64 a b Tryz.underlying3
 refine (struct_equalIn (d := 9999) _ [decide (x.cl = y.cl ∧ x.seq = y.seq), decide (x.h = y.h), x.len == y.len, decide (x.sb = y.sb ∧ x.sm = y.sm)] Tryz.underlying73 (by kernel_rfl)
  ⟨⟨by decide, _, _, x1, y1, name_equalIn w _ _ _ _⟩, ⟨by decide, _, _, x2, y2, hash_equalIn w 9997 _ _⟩, ⟨by decide, _, _, x3, y3, ei _ _⟩, ⟨by decide, _, _, x4, y4, sig_equalIn w _ _ _ _⟩, trivial⟩).trans ?_
 congr 1
 obtain ⟨a1, a2, a3, a4, a5, a6⟩ := x
 obtain ⟨b1, b2, b3, b4, b5, b6⟩ := y
 rw [Bool.eq_iff_iff]
 simp [and_assoc]
theorem dnF_i (w : World) (s : DenyD) : (part 3 ⟨encDn s⟩ 0).run Tryz.prog w = .ok (.int .i64 s.r) w ∧ (part 3 ⟨encDn s⟩ 1).run Tryz.prog w = .ok (.int .i64 s.i) w ∧ (part 69 ⟨encDn s⟩ 2).run Tryz.prog w = .ok (pairV s.sb s.sm) w :=
 ⟨by kernel_rfl, by kernel_rfl, by kernel_rfl⟩
theorem dnF : Flat Tryz.prog 122 encDn := by
 refine ⟨fun w x y => ?_, by kernel_rfl⟩
 obtain ⟨x1, x2, x3⟩ := dnF_i w x
 obtain ⟨y1, y2, y3⟩ := dnF_i w y
 have ei := fun a b => run_equalIn_int (P := Tryz.prog) w 9998 3 .i64 .i64 a b Tryz.underlying3
 refine (struct_equalIn (d := 9999) _ [x.r == y.r, x.i == y.i, decide (x.sb = y.sb ∧ x.sm = y.sm)] Tryz.underlying122 (by kernel_rfl)
  ⟨⟨by decide, _, _, x1, y1, ei _ _⟩, ⟨by decide, _, _, x2, y2, ei _ _⟩, ⟨by decide, _, _, x3, y3, sig_equalIn w _ _ _ _⟩, trivial⟩).trans ?_
 congr 1
 obtain ⟨a1, a2, a3, a4⟩ := x
 obtain ⟨b1, b2, b3, b4⟩ := y
 rw [Bool.eq_iff_iff]
 simp [and_assoc]
theorem e_eqSig {n : Nat} {f : Nat → Value} {w : World} {dst : Option Tmp} {ty : TypeId} {pos : String} {aft : Array Edge} {gd : Option (Nat × Bool)} {x y : Operand} {T : TypeId} (a b c d : Int) (hx : ev n f x = .agg ⟨[.int .i64 a, .int .i64 b]⟩) (hy : ev n f y = .agg ⟨[.int .i64 c, .int .i64 d]⟩) :
  (execOp (ev n f) ⟨dst, .binOp .eql 69 x y T, ty, pos, aft, gd⟩).run Tryz.prog w = .ok (.value (.bool (decide (a = c ∧ b = d)))) w := by
 simp only [execOp, hx, hy]
 simp [go_sem]
 by_cases h1 : a = c <;> by_cases h2 : b = d <;> simp_all
end Go.Proofs.YtenihpghfdcpkaaGreat
