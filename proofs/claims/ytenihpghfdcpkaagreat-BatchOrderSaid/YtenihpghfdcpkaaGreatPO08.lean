/- WHAT IS PROVED: contracts and plain laws of MedMath, RightD, MinMax, Wr10, Wt. Conditions: stated with each. -/
import Derived.Lib.MinMax
import Derived.Test.YtenihpghfdcpkaaGreatPO02
import Derived.Test.YtenihpghfdcpkaaGreatPO03
import Derived.Test.YtenihpghfdcpkaaGreatPO05
import Derived.Test.YtenihpghfdcpkaaGreatPO06
import Derived.Test.YtenihpghfdcpkaaGreatPO07
set_option maxHeartbeats 4000000
set_option maxRecDepth 100000
namespace Go.Proofs.YtenihpghfdcpkaaGreat
def cLt (xs : List Int) (m : Int) : Nat := xs.countP fun x => decide (x < m)
def cLe (xs : List Int) (m : Int) : Nat := xs.countP fun x => decide (x ≤ m)
structure MedP (xs : List Int) (m : Int) : Prop where
 mem : m ∈ xs
 lt : cLt xs m ≤ xs.length / 2
 le : xs.length / 2 < cLe xs m
theorem ZaY {xs : List Int} {a b : Int} (h : a < b) : cLe xs a ≤ cLt xs b := List.countP_mono_left fun x _ hx => by simp at hx ⊢; omega
theorem MedP.uniq {xs : List Int} {a b : Int} (ha : MedP xs a) (hb : MedP xs b) : a = b := by
 rcases Int.lt_trichotomy a b with h | h | h
 ·have := ZaY (xs := xs) h; have := ha.le; have := hb.lt; omega
 ·exact h
 ·have := ZaY (xs := xs) h; have := hb.le; have := ha.lt; omega
theorem MedP.perm {xs ys : List Int} {a : Int} (h : MedP xs a) (hp : xs.Perm ys) : MedP ys a := by
 refine ⟨hp.mem_iff.1 h.mem, ?_, ?_⟩
 ·unfold cLt; rw [← hp.countP_eq, ← hp.length_eq]; exact h.lt
 ·unfold cLe; rw [← hp.countP_eq, ← hp.length_eq]; exact h.le
theorem MedP.of_srt {B : List Int} {m : Int} (hs : Srt (fun x y : Int => decide (x < y)) 0 B.length B) (hm : B[B.length / 2]? = some m) : MedP B m := by
 have hlt := (List.getElem?_eq_some_iff.1 hm).1
 have hsplit : B = B.take (B.length / 2) ++ B.drop (B.length / 2) := (List.take_append_drop _ _).symm
 have hsplit2 : B = B.take (B.length / 2 + 1) ++ B.drop (B.length / 2 + 1) := (List.take_append_drop _ _).symm
 refine ⟨List.mem_of_getElem? hm, ?_, ?_⟩
 ·have h0 : (B.drop (B.length / 2)).countP (fun x => decide (x < m)) = 0 := by
   rw [List.countP_eq_zero]
   intro x hx
   obtain ⟨i, hi, rfl⟩ := List.mem_iff_getElem.1 hx
   rw [List.length_drop] at hi
   rw [List.getElem_drop]
   simp only [decide_eq_true_eq, Int.not_lt]
   by_cases e : i = 0
   ·subst e
    have := (List.getElem?_eq_some_iff.1 hm).2
    simp only [Nat.add_zero, this]; exact Int.le_refl _
   ·have := hs (B.length / 2) (B.length / 2 + i) m _ (Nat.zero_le _) (by omega) (by omega) hm (List.getElem?_eq_getElem (by omega))
    simpa using this
  have h1 : cLt B m = (B.take (B.length / 2)).countP (fun x => decide (x < m)) := by
   unfold cLt
   conv => lhs; rw [hsplit]
   rw [List.countP_append, h0, Nat.add_zero]
  rw [h1]
  exact Nat.le_trans List.countP_le_length (by rw [List.length_take]; omega)
 ·have h0 : (B.take (B.length / 2 + 1)).countP (fun x => decide (x ≤ m)) = (B.take (B.length / 2 + 1)).length := by
   rw [List.countP_eq_length]
   intro x hx
   obtain ⟨i, hi, rfl⟩ := List.mem_iff_getElem.1 hx
   rw [List.length_take] at hi
   rw [List.getElem_take]
   simp only [decide_eq_true_eq]
   by_cases e : i = B.length / 2
   ·subst e
    exact Int.le_of_eq (List.getElem?_eq_some_iff.1 hm).2
   ·have := hs i (B.length / 2) _ m (Nat.zero_le _) (by omega) (by omega) (List.getElem?_eq_getElem (by omega)) hm
    simpa using this
  have h1 : (B.take (B.length / 2 + 1)).countP (fun x => decide (x ≤ m)) ≤ cLe B m := by
   unfold cLe
   conv => rhs; rw [hsplit2]
   rw [List.countP_append]; omega
  rw [h0, List.length_take] at h1
  omega
theorem ZfH {xs : List Int} (h : xs.length % 2 = 1) : ∃ m, MedP xs m := by
 obtain ⟨B, hB⟩ : ∃ B, xs.mergeSort (fun a b => decide (a ≤ b)) = B := ⟨_, rfl⟩
 have hp : B.Perm xs := hB ▸ List.mergeSort_perm xs _
 have hs : B.Pairwise fun a b => decide (a ≤ b) = true := hB ▸ List.pairwise_mergeSort (by simp; omega) (by simp; omega) xs
 have hl := hp.length_eq
 have hlt : B.length / 2 < B.length := by omega
 refine ⟨B[B.length / 2], (MedP.of_srt (B := B) ?_ (List.getElem?_eq_getElem hlt)).perm hp⟩
 intro i j x y _ hij hj hx hy
 obtain ⟨h1, rfl⟩ := List.getElem?_eq_some_iff.1 hx
 obtain ⟨h2, rfl⟩ := List.getElem?_eq_some_iff.1 hy
 have := List.pairwise_iff_getElem.1 hs i j h1 h2 hij
 simp at this ⊢; omega
noncomputable def Z9G (xs : List Int) : Int := open Classical in if h : xs.length % 2 = 1 then Classical.choose (ZfH h) else 0
theorem Zbm {xs : List Int} (h : xs.length % 2 = 1) : MedP xs (Z9G xs) := by
 unfold Z9G; rw [dif_pos h]; exact Classical.choose_spec (ZfH h)
theorem Zas {xs : List Int} {m : Int} (h : xs.length % 2 = 1) (hm : MedP xs m) : Z9G xs = m := (Zbm h).uniq hm
theorem Z4o {xs : List Int} (h : xs.length % 2 = 0) : Z9G xs = 0 := by
 unfold Z9G; rw [dif_neg (by omega)]
theorem ZdA {xs ys : List Int} (hp : xs.Perm ys) : Z9G xs = Z9G ys := by
 rcases Nat.mod_two_eq_zero_or_one xs.length with h | h
 ·rw [Z4o h, Z4o (by rw [← hp.length_eq]; exact h)]
 ·exact Zas h ((Zbm (by rw [← hp.length_eq]; exact h)).perm hp.symm)
def cEq (xs : List Int) (m : Int) : Nat := xs.countP fun x => decide (x = m)
theorem Z9m (xs : List Int) (m : Int) : cLe xs m = cLt xs m + cEq xs m := by
 unfold cLe cLt cEq
 induction xs with
 | nil => rfl
 | cons x xs ih =>
  simp only [List.countP_cons, ih]
  rcases Int.lt_trichotomy x m with h | h | h
  ·have a : x ≤ m := by omega
   have b : ¬ x = m := by omega
   simp [h, a, b]; omega
  ·subst h; simp; omega
  ·have a : ¬ x ≤ m := by omega
   have b : ¬ x = m := by omega
   have c : ¬ x < m := by omega
   simp [a, b, c]
theorem Z3w (p : Int → Bool) (xs : List Int) (k : Nat) (h : k < xs.length) : (xs.take (k + 1)).countP p = (xs.take k).countP p + if p (xs.getD k 0) = true then 1 else 0 := by
 rw [List.getD_eq_getElem?_getD, List.getElem?_eq_getElem h, List.take_add_one, List.getElem?_eq_getElem h, List.countP_append]
 simp only [Option.toList_some, List.countP_singleton, Option.getD_some]
theorem cLt_le (xs : List Int) (m : Int) : cLt xs m ≤ xs.length := List.countP_le_length
theorem cEq_le (xs : List Int) (m : Int) : cEq xs m ≤ xs.length := List.countP_le_length
theorem Z0M (p : Int → Bool) (xs : List Int) (k : Nat) : (xs.take k).countP p ≤ k := by
 have := List.countP_le_length (p := p) (l := xs.take k)
 rw [List.length_take] at this; omega
def Z6P (xs : List Int) (j : Nat) : Prop := ¬ (cLt xs (xs.getD j 0) ≤ xs.length / 2 ∧ xs.length / 2 < cLt xs (xs.getD j 0) + cEq xs (xs.getD j 0))
theorem Zeh {xs : List Int} {j : Nat} (h : j < xs.length) : xs.getD j 0 ∈ xs := by
 rw [List.getD_eq_getElem?_getD, List.getElem?_eq_getElem h]; exact List.getElem_mem h
theorem Zgi {xs : List Int} {j : Nat} (h : xs.length % 2 = 1) (hj : j < xs.length) (h1 : cLt xs (xs.getD j 0) ≤ xs.length / 2) (h2 : xs.length / 2 < cLt xs (xs.getD j 0) + cEq xs (xs.getD j 0)) : Z9G xs = xs.getD j 0 :=
 Zas h ⟨Zeh hj, h1, by rw [Z9m]; exact h2⟩
theorem Zgy {xs : List Int} (h : xs.length % 2 = 1) (hn : ∀ j, j < xs.length → Z6P xs j) : False := by
 have hm := Zbm h
 obtain ⟨j, hj, he⟩ := List.mem_iff_getElem.1 hm.mem
 refine hn j hj ?_
 have : xs.getD j 0 = Z9G xs := by rw [List.getD_eq_getElem?_getD, List.getElem?_eq_getElem hj]; exact he
 rw [this, ← Z9m]
 exact ⟨hm.lt, hm.le⟩
theorem Z6D {xs : List Int} {i : Nat} (h : ∀ j, j < i → Z6P xs j) (hn : Z6P xs i) : ∀ j, j < i + 1 → Z6P xs j := fun j hj => by
 rcases Nat.lt_or_ge j i with h1 | h1
 ·exact h j h1
 ·obtain rfl : j = i := by omega
  exact hn
theorem srt_le {B : List Int} (h : Srt (fun x y : Int => decide (x < y)) 0 B.length B) {m : Int} (hm : B[B.length / 2]? = some m) : MedP B m := MedP.of_srt h hm
end Go.Proofs.YtenihpghfdcpkaaGreat
namespace Go.Proofs.YtenihpghfdcpkaaGreat
open Go.RowKit
def inB (f r : Int) : Bool := decide (0 ≤ r) && decide (r < 3 * f + 1)
def Z0X (cn : Int) (x : Zg) : Bool := decide (0 ≤ x.cl) && decide (x.cl < cn) && decide (1 ≤ x.seq) && decide (x.seq ≤ 1048576) && decide (0 ≤ x.len) && decide (x.len ≤ 256)
def Z2A (cn : Int) (L : List Signed) (x : Zg) : Bool := Z0X cn x && decide (x.sb = IntKind.i64.wrap (1000 + x.cl)) && Z0x L x.sb x.sm (Zp x)
def Z1x (f : Int) (L : List Signed) (s : Z9) : Bool := inB f s.r && decide (1 ≤ s.t) && decide (s.t < 18446744073709551615) && decide (s.sb = s.r) && Z0x L s.sb s.sm (Zx s)
def Z35 (s : Z9) (x : Zg) : Bool := decide (s.cl = x.cl ∧ s.seq = x.seq) && decide (s.h = x.h)
def Z3T (f : Int) (L : List Signed) (x : Zg) (S : List Z9) (i : Nat) : Bool := (!decide ((i : Int) > 0) || !decide ((S.getD i Zi).r ≤ (S.getD (i - 1) Zi).r)) && Z35 (S.getD i Zi) x && Z1x f L (S.getD i Zi)
def Z0r (f cn : Int) (L : List Signed) (x : Zg) (S : List Z9) : Bool := Z2A cn L x && decide ((S.length : Int) = 2 * f + 1) && (List.range S.length).all (Z3T f L x S)
theorem Z1B {p : Nat → Bool} {n : Nat} (h : ∀ j, j < n → p j = true) : (List.range n).all p = true := by
 rw [List.all_eq_true]; intro j hj; exact h j (List.mem_range.1 hj)
theorem Z0h {p : Nat → Bool} {n i : Nat} (hi : i < n) (h : p i = false) : (List.range n).all p = false := by
 rw [Bool.eq_false_iff]; intro hc
 rw [List.all_eq_true] at hc
 rw [hc i (List.mem_range.2 hi)] at h; cases h
def Z3V (S : List Z9) : List Int := S.map (·.t)
noncomputable def Zz (S : List Z9) : Int := Z9G (Z3V S)
def StOk (s : Z9) : Prop := s.r ≤ 9223372036854775807 ∧ s.cl ≤ 9223372036854775807 ∧ s.seq ≤ 9223372036854775807 ∧ 0 ≤ s.t ∧ s.t < 18446744073709551616
def ZcK (s : Zg) : Prop := s.cl ≤ 9223372036854775807 ∧ s.seq ≤ 9223372036854775807 ∧ s.len ≤ 9223372036854775807
theorem Z3k {n : Nat} {f : Nat → Value} {w : World} {dst : Option Tmp} {ty : TypeId} {pos : String} {aft : Array Edge} {gd : Option (Nat × Bool)} {x y : Operand} {T : TypeId} (a b c d : Int) (hx : ev n f x = .agg ⟨[i6 a, i6 b]⟩) (hy : ev n f y = .agg ⟨[i6 c, i6 d]⟩) :
  (execOp (ev n f) ⟨dst, .binOp .neq 59 x y T, ty, pos, aft, gd⟩).run Tryz.prog w = .ok (.value (.bool (!decide (a = c ∧ b = d)))) w := by
 simp only [execOp, hx, hy]
 simp [go_sem]
 by_cases h1 : a = c <;> by_cases h2 : b = d <;> simp_all
theorem Z7S (S : List Z9) {i : Nat} (h : i < S.length) : Z3V (S.take (i + 1)) = Z3V (S.take i) ++ [(S.getD i Zi).t] := by
 unfold Z3V
 rw [List.take_add_one, List.getElem?_eq_getElem h, List.map_append, List.getD_eq_getElem?_getD, List.getElem?_eq_getElem h]
 rfl
theorem Z5P (S : List Z9) : (Z3V S).length = S.length := by simp [Z3V]
def Zfg (S : List Z9) : Prop := ∀ i, i < S.length → StOk (S.getD i Zi)
section
variable {P : Program} {n : Nat} {f : Nat → Value} {w : World} {dst : Option Tmp} {ty : TypeId} {pos : String} {aft : Array Edge} {gd : Option (Nat × Bool)}
theorem e_minI {T : Array TypeId} {x y : Operand} {k : IntKind} {a b z : Int} (hx : ev n f x = .int k a) (hy : ev n f y = .int k b) (hz : min a b = z) :
  (execOp (ev n f) ⟨dst, .call { callee := .builtin .min, args := #[x, y], argTypes := T }, ty, pos, aft, gd⟩).run P w = .ok (.value (.int k z)) w := by
 have := Lib.run_min_ints (P := P) w T ty k k a b
 subst hz
 simp [execOp, resolve, invoke, builtin, hx, hy, this, Result.andThen]
theorem Zg5 {T : Array TypeId} {x y : Operand} {k : IntKind} {a b z : Int} (hx : ev n f x = .int k a) (hy : ev n f y = .int k b) (hz : min a b = z) :
  (execOp (ev n f) ⟨dst, .call { callee := .builtin .min, args := #[x, y], argTypes := T }, ty, pos, aft, gd⟩).run P w = .ok (.value (.int k z)) w := e_minI hx hy hz
theorem ZfB {T : Array TypeId} {x y : Operand} {k : IntKind} {a b z : Int} (hx : ev n f x = .int k a) (hy : ev n f y = .int k b) (hz : max a b = z) :
  (execOp (ev n f) ⟨dst, .call { callee := .builtin .max, args := #[x, y], argTypes := T }, ty, pos, aft, gd⟩).run P w = .ok (.value (.int k z)) w := by
 have := Lib.run_max_ints (P := P) w T ty k k a b
 subst hz
 simp [execOp, resolve, invoke, builtin, hx, hy, this, Result.andThen]
end
abbrev Z7o (p0 : Option Addr) (p1 : Nat) (p2 : Nat) : List Value := ([(.slice p0 p1 p2)] : LV)
abbrev Za5 (p0 : Option Addr) (p1 : List UInt8) (p2 : Nat) : Ck := Zh 5 1 (.slice p0 p1.length p2) p1.length (p1.flatMap Zr)
theorem Z9p {f m : Nat} (hm : m < 128 ^ f) (h : 128 ≤ m) : 0 < f - 1 ∧ m / 128 < 128 ^ (f - 1) ∧ Zbo f m = UInt8.ofNat (bOr .u8 ((m : Int) % 256) 128).toNat :: Zbo (f - 1) (m / 128) := by
 cases f with
 | zero => simp at hm; omega
 | succ f =>
  have h1 : m / 128 < 128 ^ f := Nat.div_lt_of_lt_mul (by rw [Nat.pow_succ] at hm; omega)
  refine ⟨?_, h1, ?_⟩
  ·cases f with
   | zero => simp at h1; omega
   | succ f => simp
  rw [Za7 om, show (((m : Int) % 128 + 128).toNat) = m % 128 + 128 by omega]
  conv => lhs; unfold Zbo
  rw [if_neg om]; rfl
theorem Z9O {f m : Nat} (hf : 0 < f) (h : m < 128) : Zbo f m = [UInt8.ofNat ((m : Int) % 256).toNat] := by
 cases f with
 | zero => omega
 | succ f => unfold Zbo; rw [if_pos h, show ((m : Int) % 256).toNat = m by omega]
def wrL (r : Nat) (a : Option Addr) (c : Nat) (B : List UInt8) : List Ck := [Z0 r 266 [.slice a B.length c], Zh 5 1 (.slice a B.length c) B.length (B.flatMap Zr)]
theorem Z6q (w : World) (r : Nat) (a0 : Option Addr) (c0 : Nat) (B : List UInt8) (hB : (Z04 (wrL r a0 c0 B)).ok w) (hl : B.length ≤ 1000000) (n : Nat) (hn : n < 18446744073709551616) :
  Calls Tryz.prog 187 #[zp r, (u6 ((n : Int)))] w fun e w' => ∃ a' c', e = .returned (zp r) ∧ Sat w [Z0 r 266 [.slice a' (B ++ Z1A n).length c'], Zh 5 1 (.slice a' (B ++ Z1A n).length c') (B ++ Z1A n).length ((B ++ Z1A n).flatMap Zr), ZF w (Z04 (wrL r a0 c0 B)).fp] w' := by
 have H := Sat.start (wrL r a0 c0 B) hB
 refine Za Tryz.func187 rfl 33 rfl kn ?_
 refine zsl <| wv 4 (.pointer none) <| znt <| Z7 <| Zc <| Zq ([1] ++ List.range' 5 16) (fun F_ W_ m_ => ∃ (m : Nat) (a : Option Addr) (c : Nat) (D : List UInt8) (f : Nat), F_ 1 = (vu m) ∧ (0 < f ∧ m < 128 ^ f ∧ m < 18446744073709551616) ∧ (D ++ Zbo f m = B ++ Z1A n) ∧ (D.length + f ≤ B.length + 10) ∧ Sat w [Z0 r 266 (Z7o a D.length c), (Za5 a D c), ZF w (Z04 (wrL r a0 c0 B)).fp] W_ ∧ m_ = m + 1) _ ⟨n, a0, c0, B, 10, (show ((vu n) : Value) = _ by first | rfl | go_num), ⟨by omega, by omega, hn⟩, rfl, by omega, H, rfl⟩ ?_
 rintro g1 w2 _ ⟨m, a, c, D, f, v4, hm, hD, hf, H3, rfl⟩
 refine Ze 1 _ v4 ?_
 refine Z7 <| zsl <| wv 5 (vu m) <| wv 6 (.bool (decide ((m : Int) ≥ 128))) <| znt ?_
 let A1 : Value := .int .u8 ((m : Int) % 256)
 refine zid (fun b6 g7 => ?_) fun b6 g26 => ?_
 ·refine Zm <| ztn <| Zc <| zsl <| wv 7 (pt r 0) <| wv 8 (pt r 0) <| wv 9 (pt r 0) <| wv 10 (pt r 0) <| zw1 11 (.slice a D.length c) (H3.cell 0 rfl rfl) <| wv 12 (vu m) ?_
  refine wv 13 A1 ?_ (hr := Z0q (z := (m : Int)) kr (by rw [Z4d]))
  let A0 : Value := .int .u8 (bOr .u8 ((m : Int) % 256) 128)
  refine wv 14 A0 <| zy <| Z2J 5 1 1 (.int .u8 (0)) [(0, A0)] ([A0] : LV) H3 fun b10 w11 H12 => ?_
  have H13 := H12.ct 3 rfl (Zh 5 1 (.slice (some ⟨b10, 0, none⟩) 1 1) 1 ([UInt8.ofNat (bOr .u8 ((m : Int) % 256) 128).toNat].flatMap Zr)) (by rw [Z3v (by rw [Za7 om]; omega)])
  refine kk <| zy <| Z0g (T := 84) (e := 5) (size := 1) (bytes := 1) rfl H13 kr 1 3 rfl rfl rfl rfl (Z07 Zr Z10 [UInt8.ofNat (bOr .u8 ((m : Int) % 256) 128).toNat]) om om fun v15 w16 H17 => ?_
  have H20 := H17.ct 1 rfl (Zh 5 1 v15 ((D ++ [UInt8.ofNat (bOr .u8 ((m : Int) % 256) 128).toNat]).length) ((D ++ [UInt8.ofNat (bOr .u8 ((m : Int) % 256) 128).toNat]).flatMap Zr)) ja
  obtain ⟨a18, c19, rfl⟩ := Z1 (H20.at 1 rfl)
  refine kk <| wv 17 (pt r 0) <| wv 18 (pt r 0) <| zy <| Z3g (vs := (Z7o a18 ((D ++ [UInt8.ofNat (bOr .u8 ((m : Int) % 256) 128).toNat]).length) c19)) rfl H20 0 rfl rfl rfl rfl kr kn kn kr fun w22 H23 => ?_
  refine kk <| znt <| Zl <| wv 19 (vu m) <| wv 20 (vu ((m : Int) / 128)) ?_ (hr := Z5C rfl rfl (by decide) (by decide) (by decide))
  refine wv 1 (vu ((m : Int) / 128)) <| Zn <| Z6 ?_
  have hv := Z9p hm.2.1 (show 128 ≤ m by omega)
  have H25 := H23.pk [0, 1, 2]
  refine Z5 ?_ _ ⟨(m / 128), a18, c19, (D ++ [UInt8.ofNat (bOr .u8 ((m : Int) % 256) 128).toNat]), (f - 1), rfl, ⟨hv.1, hv.2.1, by omega⟩, (by rw [hv.2.2] at hD; simpa using hD), (by rw [List.length_append]; simp only [List.length_cons, List.length_nil]; omega), H25, rfl⟩ om
  exact zs
 refine zxb <| ztn <| zsl <| wv 21 (pt r 0) <| wv 22 (pt r 0) <| wv 23 (pt r 0) <| wv 24 (pt r 0) <| zw1 25 (.slice a D.length c) (H3.cell 0 rfl rfl) <| wv 26 (vu m) <| wv 27 A1 ?_ (hr := Z0q (z := (m : Int)) kr (by rw [Z4d]))
 refine zy <| Z2J 5 1 1 (.int .u8 (0)) [(0, A1)] ([A1] : LV) H3 fun b29 w30 H31 => ?_
 have H32 := H31.ct 3 rfl (Zh 5 1 (.slice (some ⟨b29, 0, none⟩) 1 1) 1 ([UInt8.ofNat ((m : Int) % 256).toNat].flatMap Zr)) (by rw [Z3v om])
 refine kk <| zy <| Z0g (T := 84) (e := 5) (size := 1) (bytes := 1) rfl H32 kr 1 3 rfl rfl rfl rfl (Z07 Zr Z10 [UInt8.ofNat ((m : Int) % 256).toNat]) om om fun v34 w35 H36 => ?_
 have H39 := H36.ct 1 rfl (Zh 5 1 v34 ((D ++ [UInt8.ofNat ((m : Int) % 256).toNat]).length) ((D ++ [UInt8.ofNat ((m : Int) % 256).toNat]).flatMap Zr)) ja
 obtain ⟨a37, c38, rfl⟩ := Z1 (H39.at 1 rfl)
 refine kk <| wv 30 (pt r 0) <| wv 31 (pt r 0) <| zy <| Z3g (vs := (Z7o a37 ((D ++ [UInt8.ofNat ((m : Int) % 256).toNat]).length) c38)) rfl H39 0 rfl rfl rfl rfl kr kn kn kr ?_
 intro w41 (H42 : Sat w [Z0 r 266 (Z7o a37 ((D ++ [UInt8.ofNat ((m : Int) % 256).toNat]).length) c38), (Za5 a37 (D ++ [UInt8.ofNat ((m : Int) % 256).toNat]) c38), ZF w (Z04 (wrL r a0 c0 B)).fp, Zh 5 1 (.slice (some ⟨b29, 0, none⟩) 1 1) 1 ([UInt8.ofNat ((m : Int) % 256).toNat].flatMap Zr)] w41)
 refine kk <| Z0G <| wv 32 (pt r 0) <| wv 4 (pt r 0) <| znt <| Zk <| ze1 (pt r 0) ?_
 have hv := Z9O hm.1 (show m < 128 by omega)
 have hfin : (D ++ [UInt8.ofNat ((m : Int) % 256).toNat]) = B ++ Z1A n := by rw [← hD, hv]
 exact ⟨a37, c38, rfl, (H42.pick [0, 1, 2] (by decide)).cast (by show [_, _, _] = _; rw [hfin])⟩
theorem Z0p (w : World) (r : Nat) (a0 : Option Addr) (c0 : Nat) (B : List UInt8) (hB : (Z04 (wrL r a0 c0 B)).ok w) (hl : B.length ≤ 1000000) (n : Int) (hn : n ≤ 9223372036854775807) :
  Calls Tryz.prog 141 #[zp r, i6 n] w fun e w' => ∃ a' c', e = .returned (zp r) ∧ Sat w [Z0 r 266 [.slice a' (B ++ Z1A (max 0 n).toNat).length c'], Zh 5 1 (.slice a' (B ++ Z1A (max 0 n).toNat).length c') (B ++ Z1A (max 0 n).toNat).length ((B ++ Z1A (max 0 n).toNat).flatMap Zr), ZF w (Z04 (wrL r a0 c0 B)).fp] w' := by
 have H := Sat.start (wrL r a0 c0 B) hB
 obtain ⟨k, hk⟩ : ∃ k : Nat, (k : Int) = max 0 n := ⟨(max 0 n).toNat, by omega⟩
 refine Za Tryz.func141 rfl 10 rfl kn ?_
 refine zsl <| wv 4 (.pointer none) <| Z0G <| wv 5 (pt r 0) <| wv 6 (vi n) <| wv 7 (vi (max (0 : Int) n)) ?_ (hr := ZfB (k := .i64) (a := 0) (b := n) (z := max (0 : Int) n) rfl rfl rfl)
 refine wv 8 (vu k) ?_ (hr := Z0q (z := max (0 : Int) n) kr ((by rw [← hk]; exact Z1s om)))
 refine zy <| zdc 9 (Z6q w r a0 c0 B (H.fn [0, 1]) om k om) ?_
 rintro _ w2 ⟨a4, c5, rfl, T3⟩
 have H6 := H.tl [Z0 r 266 (Z7o a4 ((B ++ Z1A k).length) c5), (Za5 a4 (B ++ Z1A k) c5)] [0, 1] [2] T3 [0, 1, 2]
 refine ⟨_, rfl, ?_⟩
 refine kk <| wv 4 (pt r 0) <| znt <| Zk <| ze1 (pt r 0) ?_
 have hkn : (max 0 n).toNat = k := by omega
 exact ⟨a4, c5, rfl, by rw [hkn]; exact H6⟩
theorem Z2a (w : World) (r : Nat) (a0 : Option Addr) (c0 : Nat) (B : List UInt8) (hB : (Z04 (wrL r a0 c0 B)).ok w) (hl : B.length ≤ 1000000) :
  Calls Tryz.prog 142 #[zp r] w fun e w' => ∃ u, e = .returned u ∧ Sat w [Z0 r 266 [.slice a0 B.length c0], Zh 5 1 (.slice a0 B.length c0) B.length (B.flatMap Zr), Zh 5 1 u B.length (B.flatMap Zr), ZF w (Z04 (wrL r a0 c0 B)).fp] w' := by
 have H := Sat.start (wrL r a0 c0 B) hB
 refine Za Tryz.func142 rfl 8 rfl kn ?_
 refine zsl <| wv 2 (.slice none 0 0) <| Z0G <| wv 3 (pt r 0) <| wv 4 (pt r 0) <| wv 5 (pt r 0) <| zw1 6 (.slice a0 B.length c0) (H.cell 0 rfl rfl) <| zy <| Za6 (T := 84) (e := 5) (size := 1) (bytes := 1) rfl H kr (H.at 1 rfl) rfl rfl (Z07 Zr Z10 B) om om fun v2 w3 H4 => ?_
 obtain ⟨a5, c6, rfl⟩ := Z1 (H4.at 3 rfl)
 refine kk <| wv 2 (.slice a5 B.length c6) <| znt <| Zk <| ze1 (.slice a5 B.length c6) ?_
 exact ⟨_, rfl, H4.pk [0, 1, 3, 2]⟩
abbrev Z96 (p0 : Option Addr) (p1 : Nat) (p2 : Nat) : List Value := ([(.slice p0 p1 p2)] : LV)
abbrev ZcA (p0 : Option Addr) (p1 : List UInt8) (p2 : Nat) : Ck := Zh 5 1 (.slice p0 p1.length p2) p1.length (p1.flatMap Zr)
abbrev kWt_2 (p0 : Int) (p1 : Int) : List Value := ([i6 p0, i6 p1] : LV)
theorem ListAt.nowD {α : Type} {enc : α → List Value} {sz : Nat} {w0 w W : World} {G : List Ck} {D : Nat → Prop} (H : Sat w0 G w) (j : Nat) (hj : G[j]? = Option.some (ZF W D)) {a : Option Addr} {n c : Nat} {xs : List α} (hv : ListAt enc sz W (.slice a n c) xs) (hf : 0 < xs.length → ∀ ad, a = some ad → ¬ D ad.block) : ListAt enc sz w (.slice a n c) xs := by
 rcases hv with h | ⟨h0, b', o, c', e, hc, h⟩
 ·exact .inl h
 have ha : a = some ⟨b', o, none⟩ := by simp only [Value.slice.injEq] at e; exact e.1
 refine .inr ⟨h0, b', o, c', e, hc, fun i hi q u hq => ?_⟩
 have h1 := h i hi q u hq
 rw [Addr.add_lit] at h1 ⊢
 exact H.cellR j hj h1 (show ¬ D b' from hf h0 _ ha)
theorem Z2G (w : World) (r : Nat) (a0 : Option Addr) (c0 : Nat) (B : List UInt8) (hB : (Z04 (wrL r a0 c0 B)).ok w) (hl : B.length ≤ 1000000) (x : Hash) :
  Calls Tryz.prog 160 #[zp r, (.agg ⟨(hc x)⟩)] w fun e w' => ∃ a' c', e = .returned (zp r) ∧ Sat w [Z0 r 266 [.slice a' (B ++ x.l).length c'], Zh 5 1 (.slice a' (B ++ x.l).length c') (B ++ x.l).length ((B ++ x.l).flatMap Zr), ZF w (Z04 (wrL r a0 c0 B)).fp] w' := by
 have H := Sat.start (wrL r a0 c0 B) hB
 have hx := x.len
 refine Za Tryz.func160 rfl 15 rfl kn ?_
 refine zsl <| zy <| zdb (hc x) H fun b2 w3 H4 => ?_
 let A0 := ZF w (Z04 (wrL r a0 c0 B)).fp
 let A2 := Z0 b2 61 (hc x)
 refine kk <| wv 4 (.pointer none) <| znt <| Z7 <| Z1j H4 [Z0 r 266 (Z96 a0 B.length c0), A0, A2] [9] 10 rfl kr (fun Hx => (Hx.pk [0, 2, 3])) fun w5 H6 S7 => ?_
 refine zkp 0 S7 5 (pt r 0) <| zkp 1 S7 6 (pt r 0) <| zkp 2 S7 7 (pt r 0) <| zkp 3 S7 8 (pt r 0) <| zkv 4 S7 9 (.slice a0 B.length c0) ?_ (he := fun _ H' => (zl1 (H'.cell 0 rfl rfl)))
 refine zkp 5 S7 10 (.slice (some ⟨b2, 0, none⟩) 32 32) <| zky 6 ?_
 refine Z4I (T := 84) (e := 5) (size := 1) (bytes := 1) rfl H6 kr Zs Z10 1 rfl (ListAt.ofHash (x := x) (Z3N (H6.at 3 rfl) kr) (by decide)) rfl rfl om om ?_
 intro v9 w10 H12
 have H11 := H12.ct 1 rfl (Zh 5 1 v9 ((B ++ x.l).length) ((B ++ x.l).flatMap Zr)) (by simp only [List.length_append, List.flatMap_append])
 obtain ⟨a13, c14, rfl⟩ := Z1 (H11.at 1 rfl)
 have S15 := H11.pk [0, 2, 3]
 refine ke S15 <| zkp 7 S15 12 (pt r 0) <| zkp 8 S15 13 (pt r 0) <| Z3s 9 (Sat w [A0, A2]) rfl kr (Z8 rfl) rfl (fun Kq kq => ?_)
 let A1 := Z96 a13 ((B ++ x.l).length) c14
 refine Z1p A1 H11 0 ?_
 intro w17 (H18 : Sat w [Z0 r 266 A1, (ZcA a13 (B ++ x.l) c14), A0, A2] w17)
 have S20 := H18.pk [2, 3]
 refine kq _ _ S20 <| zhf <| ztn <| zsl <| wv 14 (pt r 0) <| wv 4 (pt r 0) <| znt <| Zk <| ze1 (pt r 0) ?_
 have hX : (B ++ x.l) = (B ++ x.l) := by rfl
 exact ⟨a13, c14, rfl, (H18.pk [0, 1, 2]).cast (by show [_, _, _] = _; rw [hX])⟩
theorem Z2g (w : World) (r : Nat) (a0 : Option Addr) (c0 : Nat) (B : List UInt8) (hB : (Z04 (wrL r a0 c0 B)).ok w) (hl : B.length ≤ 1000000) (ta : Option Addr) (tc : Nat) (tx : List UInt8) (ht : ListAt Zr 1 w (.slice ta tx.length tc) tx) (hoff : 0 < tx.length → ∀ ad, ta = some ad → ¬ (Z04 (wrL r a0 c0 B)).fp ad.block) (hl2 : tx.length ≤ 1000000) :
  Calls Tryz.prog 158 #[zp r, (.slice ta tx.length tc)] w fun e w' => ∃ a' c', e = .returned (zp r) ∧ Sat w [Z0 r 266 [.slice a' (B ++ Zj tx).length c'], Zh 5 1 (.slice a' (B ++ Zj tx).length c') (B ++ Zj tx).length ((B ++ Zj tx).flatMap Zr), ZF w (Z04 (wrL r a0 c0 B)).fp] w' := by
 have H := Sat.start (wrL r a0 c0 B) hB
 have hvl := Zv (tx.length : Int)
 refine Za Tryz.func158 rfl 19 rfl kn ?_
 refine zsl <| wv 4 (.pointer none) <| Z0G <| wv 5 (pt r 0) <| wv 6 (.slice ta tx.length tc) <| wv 7 (vi tx.length) <| zy ?_
 have l7 := Zv (tx.length : Int)
 refine zdc 8 (Z0p w r a0 c0 B (H.fn [0, 1]) om (tx.length : Int) om) ?_
 rintro _ w2 ⟨a4, c5, rfl, T3⟩
 have H8 := H.tl [Z0 r 266 (Z96 a4 ((B ++ Z4 (tx.length : Int)).length) c5), (ZcA a4 (B ++ Z4 (tx.length : Int)) c5)] [0, 1] [2] T3 [0, 1, 2]
 refine ⟨_, rfl, ?_⟩
 refine kk <| Z0G <| wv 9 (pt r 0) <| wv 10 (pt r 0) <| wv 11 (pt r 0) <| wv 12 (pt r 0) <| zw1 13 (.slice a4 ((B ++ Z4 (tx.length : Int)).length) c5) (H8.cell 0 rfl rfl) <| wv 14 (.slice ta tx.length tc) <| zy <| Z4I (T := 84) (e := 5) (size := 1) (bytes := 1) rfl H8 kr Zs Z10 1 rfl (ListAt.nowD H8 2 rfl ht hoff) rfl rfl (by simp only [List.length_append]; omega) (by simp only [List.length_append]; omega) ?_
 intro v10 w11 H13
 have H12 := H13.ct 1 rfl (Zh 5 1 v10 (((B ++ Z4 (tx.length : Int)) ++ tx).length) (((B ++ Z4 (tx.length : Int)) ++ tx).flatMap Zr)) (by simp only [List.length_append, List.flatMap_append])
 obtain ⟨a14, c15, rfl⟩ := Z1 (H12.at 1 rfl)
 refine kk <| wv 16 (pt r 0) <| wv 17 (pt r 0) <| zy <| Z3g (vs := (Z96 a14 (((B ++ Z4 (tx.length : Int)) ++ tx).length) c15)) rfl H12 0 rfl rfl rfl rfl kr kn kn kr ?_
 intro w17 (H18 : Sat w [Z0 r 266 (Z96 a14 (((B ++ Z4 (tx.length : Int)) ++ tx).length) c15), (ZcA a14 ((B ++ Z4 (tx.length : Int)) ++ tx) c15), ZF w (Z04 (wrL r a0 c0 B)).fp] w17)
 refine kk <| Z0G <| wv 18 (pt r 0) <| wv 4 (pt r 0) <| znt <| Zk <| ze1 (pt r 0) ?_
 have hX : ((B ++ Z4 (tx.length : Int)) ++ tx) = (B ++ Zj tx) := by unfold Zj Z4; rw [show (max 0 (tx.length : Int)).toNat = tx.length by omega, List.append_assoc]
 exact ⟨a14, c15, rfl, (H18.pick [0, 1, 2] (by decide)).cast (by show [_, _, _] = _; rw [hX])⟩
theorem Z4c (w : World) :
  Calls Tryz.prog 157 #[] w fun e w' => ∃ r a c, e = .returned (zp r) ∧ (Z04 (wrL r a c [])).ok w' ∧ Upd [] w w' ∧ ∀ q_, (Z04 (wrL r a c [])).fp q_ → w.heap.size ≤ q_ := by
 have H := Sat.start0 w
 refine Za Tryz.func157 rfl 3 rfl kn ?_
 let A0 := ([(.slice none 0 0)] : LV)
 refine zsl <| wv 0 (.pointer none) <| Z0G <| wv 1 (.agg ⟨A0⟩) <| zy <| zdb A0 H fun b2 w3 H4 => ?_
 refine kk <| wv 0 (pt b2 0) <| znt <| Zk <| ze1 (pt b2 0) ?_
 have H5 := H4.addNil 5 1
 exact ⟨b2, none, 0, rfl, H5.fn [1, 2], H5.upd 0 rfl [] ne, H5.freshS 0 rfl (fun _ h => h) [1, 2] rfl rfl⟩
theorem Z79 (w : World) (s : List UInt8) (hs : 0 < s.length ∧ s.length ≤ 1000000) :
  Calls Tryz.prog 140 #[(Z5Q s)] w fun e w' => ∃ r a c, e = .returned (zp r) ∧ (Z04 (wrL r a c (Zj s))).ok w' ∧ Upd [] w w' ∧ ∀ q_, (Z04 (wrL r a c (Zj s))).fp q_ → w.heap.size ≤ q_ := by
 have H := Sat.start0 w
 refine Za Tryz.func140 rfl 7 rfl kn ?_
 refine zsl <| wv 2 (.pointer none) <| Z0G <| zy <| zdc 3 (Z4c w) ?_
 rintro _ w2 ⟨r3, a4, c5, rfl, k6, p7, q8⟩
 have H9 := H.addU p7 k6 q8
 have H10 := H9.open 1 rfl
 refine ⟨_, rfl, ?_⟩
 refine kk <| wv 4 (Z5Q s) <| zy <| Zd1 (e := 5) (s := s) rfl H10 kr kr kr rfl om om fun b14 c15 w12 H13 => ?_
 refine kk <| zy ?_
 have l22 := Z0A s
 refine zdc 6 (Z2g w12 r3 a4 c5 z8 (H13.fn [1, 2]) (by simp) (some ⟨b14, 0, none⟩) c15 s (ListAt.ofTxt (H13.at 3 rfl)) (Z5d (fun b hb => H13.offP [1, 2] 3 rfl rfl (by decide) hb)) (by first | omega | simp)) ?_
 rintro _ w17 ⟨a19, c20, rfl, T18⟩
 have H23 := H13.tl [Z0 r3 266 (Z96 a19 ((z8 ++ Zj s).length) c20), (ZcA a19 (z8 ++ Zj s) c20)] [1, 2] [0, 3] T18 [2, 0, 1, 3]
 refine ⟨_, rfl, ?_⟩
 refine kk <| wv 2 (pt r3 0) <| znt <| Zk <| ze1 (pt r3 0) ?_
 have hX : (z8 ++ Zj s) = Zj s := by exact List.nil_append _
 exact ⟨r3, a19, c20, rfl, (by rw [← hX]; exact H23.fn [1, 2]), H23.upd 0 rfl [] ne, (by rw [← hX]; exact H23.freshS 0 rfl (fun _ h => h) [1, 2] rfl rfl)⟩
theorem Z6W (w : World) (r : Nat) (a0 : Option Addr) (c0 : Nat) (B : List UInt8) (hB : (Z04 (wrL r a0 c0 B)).ok w) (hl : B.length ≤ 900000) (a b : Int) (hs : a ≤ 9223372036854775807 ∧ b ≤ 9223372036854775807) :
  Calls Tryz.prog 228 #[zp r, (.agg ⟨([i6 a, i6 b] : LV)⟩)] w fun e w' => ∃ a' c', e = .returned (.tuple #[]) ∧ Sat w [Z0 r 266 [.slice a' (B ++ Z0l a b).length c'], Zh 5 1 (.slice a' (B ++ Z0l a b).length c') (B ++ Z0l a b).length ((B ++ Z0l a b).flatMap Zr), ZF w (Z04 (wrL r a0 c0 B)).fp] w' := by
 have H := Sat.start (wrL r a0 c0 B) hB
 refine Za Tryz.func228 rfl 11 rfl kn ?_
 refine zsl <| zy <| zdb (kWt_2 a b) H fun b2 w3 H4 => ?_
 refine kk <| znt <| ZX H4 [ZF w (Z04 (wrL r a0 c0 B)).fp, Z0 b2 59 (kWt_2 a b)] 7 rfl kr (fun Hx => (Hx.pk [2, 3])) fun w5 H6 S7 => ?_
 refine hv0 0 S7 4 (pt r 0) <| hv0 1 S7 5 (pt b2 0) <| hv0 2 S7 6 (vi a) ?_ (he := fun _ H' => (zl1 (H'.cell 1 rfl rfl)))
 refine hv0 4 S7 8 (pt b2 1) <| hv0 5 S7 9 (vi b) ?_ (he := fun _ H' => (zl1 (H'.cell 1 rfl rfl)))
 refine zhy 3 ?_
 have l14 := Zv a
 refine zdc 7 (Z0p w5 r a0 c0 B (H6.fn [0, 1]) om a om) ?_
 rintro _ w9 ⟨a11, c12, rfl, T10⟩
 have H15 := H6.tl [Z0 r 266 (Z96 a11 ((B ++ Z4 a).length) c12), (ZcA a11 (B ++ Z4 a) c12)] [0, 1] [2, 3] T10 [0, 1, 2, 3]
 refine ⟨_, rfl, ?_⟩
 have S16 := H15.pk [2, 3]
 refine kh S16 <| zhy 6 ?_
 have l23 := Zv b
 refine zdc 10 (Z0p w9 r a11 c12 (B ++ Z4 a) (H15.fn [0, 1]) (by simp only [List.length_append, List.length_nil]; omega) b om) ?_
 rintro _ w18 ⟨a20, c21, rfl, T19⟩
 have H24 := H15.tl [Z0 r 266 (Z96 a20 (((B ++ Z4 a) ++ Z4 b).length) c21), (ZcA a20 ((B ++ Z4 a) ++ Z4 b) c21)] [0, 1] [2, 3] T19 [0, 1, 2, 3]
 refine ⟨_, rfl, ?_⟩
 have S25 := H24.pk [2, 3]
 refine kh S25 <| zhf <| Z2c ?_
 refine Zeu rfl  ?_
 have hX : ((B ++ Z4 a) ++ Z4 b) = (B ++ Z0l a b) := by simp only [Z0l, List.flatten_cons, List.flatten_nil, List.append_nil, List.append_assoc]
 exact ⟨a20, c21, rfl, (H24.pk [0, 1, 2]).cast (by show [_, _, _] = _; rw [hX])⟩
end Go.Proofs.YtenihpghfdcpkaaGreat
