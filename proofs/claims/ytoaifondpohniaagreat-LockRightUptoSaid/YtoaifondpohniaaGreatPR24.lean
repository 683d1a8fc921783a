/- WHAT IS PROVED: contracts and plain laws of CmpF, SortNN, SortN, SrtN, LtH, LtT. Conditions: stated with each. -/
import Derived.Shelf.SlSortCmp.WholeK
import Derived.Test.YtoaifondpohniaaGreatPR04
import Derived.Test.YtoaifondpohniaaGreatPR11
import Derived.Test.YtoaifondpohniaaGreatPR12
import Derived.Test.YtoaifondpohniaaGreatPR22
import Derived.Test.YtoaifondpohniaaGreatPR23
set_option maxHeartbeats 4000000
set_option maxRecDepth 100000
namespace Go.Proofs.YtoaifondpohniaaGreat
open Go.RowKit
theorem Z6d (w : World) (a b c d : Int) :
  Calls Tryz.prog 53 #[(.agg ⟨([(.int .i64 (a)), (.int .i64 (b))] : List Value)⟩), (.agg ⟨([(.int .i64 (c)), (.int .i64 (d))] : List Value)⟩)] w fun e w' => e = .returned (.int .i64 (or2 (Z3x a c) (Z3x b d))) ∧ Upd [] w w' ∧ Gr w w' := by
 have H := Sat.start0 w
 refine Zp Tryz.func53 rfl 17 rfl (Nat.le_of_ble_eq_true rfl) ?_
 refine Zt ?_
 refine ZU ?_
 refine Z5d (Zs rfl) (fun K1 hK1 => ?_)
 refine ZbM (vs := ([(.int .i64 (a)), (.int .i64 (b))] : List Value)) rfl H rfl rfl ?_
 intro b2 w3 (H4 : Sat w [Z6 w (fun _ => False), Z0 b2 24 ([(.int .i64 (a)), (.int .i64 (b))] : List Value)] w3) g5
 refine hK1 _ _ ?_
 clear hK1 K1
 refine Z5d (Zs rfl) (fun K6 hK6 => ?_)
 refine ZbM (vs := ([(.int .i64 (c)), (.int .i64 (d))] : List Value)) rfl H4 rfl rfl ?_
 intro b7 w8 (H9 : Sat w [Z6 w (fun _ => False), Z0 b2 24 ([(.int .i64 (a)), (.int .i64 (b))] : List Value), Z0 b7 24 ([(.int .i64 (c)), (.int .i64 (d))] : List Value)] w8) g10
 have gr11 := g5.trans g10
 refine hK6 _ _ ?_
 clear hK6 K6
 refine ZX (Zs rfl) (d := 4) (v := (.int .i64 (0))) rfl (by kernel_rfl) ?_
 refine ZQ ?_
 refine Z0M ?_
 refine Zt ?_
 refine Zbb H9 [Z6 w (fun _ => False), Z0 b2 24 ([(.int .i64 (a)), (.int .i64 (b))] : List Value), Z0 b7 24 ([(.int .i64 (c)), (.int .i64 (d))] : List Value)] 13 rfl (by kernel_rfl) (fun Hx => (Hx.pick [0, 1, 2] (by decide))) ?_
 intro w12 H13 S14 g15
 have gr16 := gr11.trans g15
 refine Z1D 0 rfl (by kernel_rfl) (by kernel_rfl) (by kernel_rfl) (fun _ _ _ h => h) S14 (Zs rfl) (d := 5) (v := (.pointer (some ⟨b2, 0, none⟩))) rfl (fun _ H' => (by kernel_rfl)) ?_
 refine Z1D 1 rfl (by kernel_rfl) (by kernel_rfl) (by kernel_rfl) (fun _ _ _ h => h) S14 (Zs rfl) (d := 6) (v := (.int .i64 (a))) rfl (fun _ H' => (Z2 rfl (by kernel_rfl) (H'.cell 1 rfl rfl))) ?_
 refine Z1D 2 rfl (by kernel_rfl) (by kernel_rfl) (by kernel_rfl) (fun _ _ _ h => h) S14 (Zs rfl) (d := 7) (v := (.pointer (some ⟨b7, 0, none⟩))) rfl (fun _ H' => (by kernel_rfl)) ?_
 refine Z1D 3 rfl (by kernel_rfl) (by kernel_rfl) (by kernel_rfl) (fun _ _ _ h => h) S14 (Zs rfl) (d := 8) (v := (.int .i64 (c))) rfl (fun _ H' => (Z2 rfl (by kernel_rfl) (H'.cell 2 rfl rfl))) ?_
 refine Z1D 5 rfl (by kernel_rfl) (by kernel_rfl) (by kernel_rfl) (fun _ _ _ h => h) S14 (Zs rfl) (d := 10) (v := (.pointer (some ⟨b2, 1, none⟩))) rfl (fun _ H' => (by kernel_rfl)) ?_
 refine Z1D 6 rfl (by kernel_rfl) (by kernel_rfl) (by kernel_rfl) (fun _ _ _ h => h) S14 (Zs rfl) (d := 11) (v := (.int .i64 (b))) rfl (fun _ H' => (Z2 rfl (by kernel_rfl) (H'.cell 1 rfl rfl))) ?_
 refine Z1D 7 rfl (by kernel_rfl) (by kernel_rfl) (by kernel_rfl) (fun _ _ _ h => h) S14 (Zs rfl) (d := 12) (v := (.pointer (some ⟨b7, 1, none⟩))) rfl (fun _ H' => (by kernel_rfl)) ?_
 refine Z1D 8 rfl (by kernel_rfl) (by kernel_rfl) (by kernel_rfl) (fun _ _ _ h => h) S14 (Zs rfl) (d := 13) (v := (.int .i64 (d))) rfl (fun _ H' => (Z2 rfl (by kernel_rfl) (H'.cell 2 rfl rfl))) ?_
 refine Z5v 4 rfl (by kernel_rfl) (Zs rfl) (fun K17 hK17 => ?_)
 refine Z2p (d := 9) rfl (by kernel_rfl) (Z6f a c w12) ?_
 rintro _ w18 ⟨rfl, hw18⟩
 obtain rfl := hw18.symm
 refine ⟨_, rfl, ?_⟩
 have S19 := H13.pick [0, 1, 2] (by decide)
 refine hK17 _ _ S19 ?_
 clear hK17 K17
 refine Z5v 9 rfl (by kernel_rfl) (Zs rfl) (fun K20 hK20 => ?_)
 refine Z2p (d := 14) rfl (by kernel_rfl) (Z6f b d w12) ?_
 rintro _ w21 ⟨rfl, hw21⟩
 obtain rfl := hw21.symm
 refine ⟨_, rfl, ?_⟩
 have S22 := H13.pick [0, 1, 2] (by decide)
 refine hK20 _ _ S22 ?_
 clear hK20 K20
 refine Z5v 10 rfl (by kernel_rfl) (Zs rfl) (fun K23 hK23 => ?_)
 refine Z6C (e := 3) (size := 1) (bytes := 8) (z := (.int .i64 (0))) (pvs := [(0, (.int .i64 (Z3x a c))), (1, (.int .i64 (Z3x b d)))]) (vs := ([(.int .i64 (Z3x a c)), (.int .i64 (Z3x b d))] : List Value)) rfl H13 (by kernel_rfl) (by kernel_rfl) (by kernel_rfl) (by kernel_rfl) (by kernel_rfl) rfl rfl ?_
 intro b24 w25 (H26 : Sat w [Z6 w (fun _ => False), Z0 b2 24 ([(.int .i64 (a)), (.int .i64 (b))] : List Value), Z0 b7 24 ([(.int .i64 (c)), (.int .i64 (d))] : List Value), ZH 3 1 (.slice (some ⟨b24, 0, none⟩) 2 2) 2 ([(.int .i64 (Z3x a c)), (.int .i64 (Z3x b d))] : List Value)] w25) g27
 have gr28 := gr16.trans g27
 have S29 := H26.pick [0, 1, 2] (by decide)
 refine hK23 _ _ S29 ?_
 clear hK23 K23
 refine Z5v 11 rfl (by kernel_rfl) (Zs rfl) (fun K30 hK30 => ?_)
 refine Z2p (d := 16) rfl (by kernel_rfl) (Zcy (Z3x a c) (Z3x b d) b24 w25 (Z3O (H26.at 3 rfl) rfl rfl) (Z3O (H26.at 3 rfl) rfl rfl)) ?_
 rintro _ w31 ⟨rfl, hw31⟩
 obtain rfl := hw31.symm
 refine ⟨_, rfl, ?_⟩
 have S32 := H26.pick [0, 1, 2] (by decide)
 refine hK30 _ _ S32 ?_
 clear hK30 K30
 refine Z1D 12 rfl (by kernel_rfl) (by kernel_rfl) (by kernel_rfl) (fun _ _ _ h => h) S32 (Zs rfl) (d := 4) (v := (.int .i64 (or2 (Z3x a c) (Z3x b d)))) rfl (fun _ H' => (by kernel_rfl)) ?_
 refine h_fin (by kernel_rfl) ?_
 refine Z0M ?_
 refine ZA ?_
 refine Z6E rfl (Z1m (v := (.int .i64 (or2 (Z3x a c) (Z3x b d)))) rfl) ?_
 exact ⟨rfl, H26.upd 0 rfl [] (fun _ h => h.elim), gr28⟩
end Go.Proofs.YtoaifondpohniaaGreat
namespace Go.Proofs.YtoaifondpohniaaGreat
open Go.RowKit Go.Shelf Go.Sort
theorem Zbe (p : Option Addr) (cap : Nat) (fv : Value) (w : World) : Calls Tryz.prog 127 #[.slice p 0 cap, .int .i64 0, .int .i64 0, fv] w fun e w' => e = .returned (.tuple #[]) ∧ w' = w := by
 go_enter Tryz.func127, Tryz.ntmps127
 go_wp2
 refine wp_loop_rounds 1 ?_
 rw [rounds_succ]
 go_wp2
 go_end0
 exact ⟨rfl, rfl⟩
theorem Zby (p : Option Addr) (cap : Nat) (lim : Int) (fv : Value) (w : World) : Calls Tryz.prog 118 #[.slice p 0 cap, .int .i64 0, .int .i64 0, .int .i64 lim, fv] w fun e w' => e = .returned (.tuple #[]) ∧ w' = w := by
 have hi := fun W => Zbe p cap fv W
 go_enter Tryz.func118, Tryz.ntmps118
 go_wp2
 refine wp_loop_rounds 1 ?_
 rw [rounds_succ]
 go_wp2_with (go_at_call 127; refine (hi _).mono ?_; rintro e w' ⟨rfl, rfl⟩)
 (try simp only [Exit.inBlock, Exit.then]); refine bodyPost_ret (results_none rfl _ _ _) rfl ?_
 exact ⟨rfl, rfl⟩
theorem ZaQ (p : Option Addr) (cap : Nat) (fv : Value) (w : World) : Calls Tryz.prog 97 #[.slice p 0 cap, fv] w fun e w' => e = .returned (.tuple #[]) ∧ w' = w := by
 have hp := fun lim W => Zby p cap lim fv W
 have hl : ∀ W, Calls Tryz.prog 119 #[.int .u64 0] W fun e w' => e = .returned (.int .i64 (Lib.bitLen 0 : Nat)) ∧ w' = W := fun W => Any.bits_Len bitsL 0 W (by omega) (by omega)
 go_enter Tryz.func97, Tryz.ntmps97
 go_wp2_with (first | (go_at_call 119; refine (hl _).mono ?_; rintro e w' ⟨rfl, rfl⟩) | (go_at_call 118; refine (hp _ _).mono ?_; rintro e w' ⟨rfl, rfl⟩))
 go_end0
 exact ⟨rfl, rfl⟩
instance : Inhabited NmD := ⟨nm0⟩
def Z9Q (x y : NmD) : Int := or2 (Z3x x.cl y.cl) (Z3x x.sq y.sq)
def Z5Y (x y : NmD) : Prop := x.cl < y.cl ∨ (x.cl = y.cl ∧ x.sq < y.sq)
instance (x y : NmD) : Decidable (Z5Y x y) := by unfold Z5Y; exact inferInstance
theorem Z6q (a b : Int) : (a < b ∧ Z3x a b = -1) ∨ (a = b ∧ Z3x a b = 0) ∨ (a > b ∧ Z3x a b = 1) := by
 unfold Z3x
 rcases Int.lt_trichotomy a b with h | h | h
 ·exact .inl ⟨h, if_pos h⟩
 ·exact .inr (.inl ⟨h, by rw [if_neg (by omega), if_neg (by omega)]⟩)
 ·exact .inr (.inr ⟨h, by rw [if_neg (by omega), if_pos h]⟩)
theorem Z3K (x y : NmD) : ltOf Z9Q x y = decide (Z5Y x y) := by
 unfold ltOf
 refine decide_eq_decide.2 ?_
 unfold Z9Q Z5Y
 rcases Z6q x.cl y.cl with ⟨h2, e2⟩ | ⟨h2, e2⟩ | ⟨h2, e2⟩ <;> rcases Z6q x.sq y.sq with ⟨h3, e3⟩ | ⟨h3, e3⟩ | ⟨h3, e3⟩ <;> rw [e2, e3] <;>
  first | exact iff_of_true (by decide) (by omega) | exact iff_of_false (by decide) (by omega)
theorem Z9R : SWO (ltOf Z9Q) := by
 refine ⟨fun x => ?_, fun x y z h1 h2 => ?_, fun x y z h1 h2 => ?_⟩
 ·rw [Z3K]; exact decide_eq_false (by unfold Z5Y; omega)
 ·rw [Z3K] at *
  have := of_decide_eq_true h1; have := of_decide_eq_true h2
  unfold Z5Y at *
  exact decide_eq_true (by omega)
 ·rw [Z3K] at *
  have := of_decide_eq_false h1; have := of_decide_eq_false h2
  unfold Z5Y at *
  exact decide_eq_false (by omega)
theorem Z7Y (blk off size : Nat) (w : World) : CmpLays Tryz.prog 53 #[] Z1A 2 Z9Q blk off size w := fun m os dk _ x y =>
 (Z6d (sortWorldK Z1A 2 w blk off m dk os) x.cl x.sq y.cl y.sq).mono fun _ _ h => ⟨h.1, h.2.2⟩
theorem Z7K {α : Type} [Inhabited α] (enc : α → List Value) (k : Nat) (hk : ∀ x, (enc x).length = k) (k0 : 0 < k) (d : Array α) (cur : Array Value) (h : d.size * k ≤ cur.size) : (putCells id 0 (flatK enc k d) cur).size = cur.size ∧ (putCells id 0 (flatK enc k d) cur).toList.take (d.size * k) = d.toList.flatMap enc := by
 refine ⟨by simp [putCells], ?_⟩
 refine List.ext_getElem? fun t => ?_
 rw [List.getElem?_take]
 split
 ·rename_i ht
  have hj : t / k < d.size := (Nat.div_lt_iff_lt_mul k0).2 ht
  have hm : t % k < k := Nat.mod_lt _ k0
  have e : t = t / k * k + t % k := by rw [Nat.mul_comm]; exact (Nat.div_add_mod t k).symm
  have hr : (d.toList.flatMap enc)[t]? = (enc d[t / k]!)[t % k]? := by
   conv => lhs; rw [e]
   exact Z3D enc k hk d.toList (t / k) (t % k) d[t / k]! (by rw [getElem!_pos d _ hj]; simp [hj]) hm
  rw [hr, Array.getElem?_toList]
  have ht' : t < (flatK enc k d).size := by rw [size_flatK]; exact ht
  have hl : (putCells id 0 (flatK enc k d) cur)[t]? = some (flatK enc k d)[t]! := by
   unfold putCells
   rw [Array.getElem?_mapIdx, Array.getElem?_eq_getElem (by omega)]
   simp only [Option.map_some]
   rw [if_pos ⟨Nat.zero_le _, by omega⟩]; rfl
  rw [hl, get_flatK enc k d t ht, getElem!_pos (enc d[t / k]!) _ (by rw [hk]; exact hm), List.getElem?_eq_getElem (by rw [hk]; exact hm)]
 ·rename_i ht
  rw [List.getElem?_eq_none]
  rw [Z1u enc k hk]; simp; omega
theorem ZaR (w : World) (g c : Nat) (D : List NmD) (hv : (ZH 24 2 (.slice (some ⟨g, 0, none⟩) D.length c) D.length (D.flatMap Z1A)).ok w) (h12 : D.length < 4611686018427387904) :
  Calls Tryz.prog 97 #[.slice (some ⟨g, 0, none⟩) D.length c, .func (.func 53) #[] #[]] w fun e w' => e = .returned (.tuple #[]) ∧ ∃ D' : List NmD, D'.Perm D ∧ (D'.Pairwise fun a b => ¬ Z5Y b a) ∧ (ZH 24 2 (.slice (some ⟨g, 0, none⟩) D.length c) D.length (D'.flatMap Z1A)).ok w' ∧ Upd [g] w w' := by
 obtain ⟨A, rfl⟩ : ∃ A : List NmD, A = D := ⟨D, rfl⟩
 have hg : g < w.heap.size := (ZH _ _ _ _ _).lt hv g rfl
 obtain ⟨cur, hb, hnc, hcm, hcs, htk⟩ : ∃ cur, w.heap[g]? = some (.cells cur 24 (0, 0)) ∧ A.length ≤ c ∧ c ≤ maxLen ∧ cur.size = c * 2 ∧ cur.toList.take (A.length * 2) = A.flatMap Z1A := by
  rcases hv.2 with ⟨h, _⟩ | ⟨g', c', cur, h, _, h1, h2, h3, h4, h5⟩
  ·cases h
  ·simp only [Value.slice.injEq, Option.some.injEq, Addr.mk.injEq] at h
   obtain ⟨⟨rfl, _⟩, _, rfl⟩ := h
   exact ⟨cur, h1, h2, h3, h4, h5⟩
 have hH : HoldsK Z1A 2 w g 0 A.toArray := fun j hj => by
  have hj' : j < A.length * 2 := by simpa using hj
  have hq : j / 2 < A.length := (Nat.div_lt_iff_lt_mul (by omega)).2 hj'
  refine ⟨?_, ?_⟩
  ·rw [get_flatK _ _ _ _ (by simpa using hj')]
   have hx : A.toArray[j / 2]! = A[j / 2] := by rw [getElem!_pos A.toArray (j / 2) (by simpa using hq)]; simp
   rw [hx]
   refine Z2f (enc := Z1A) hv rfl Z2V (i := j / 2) (x := A[j / 2]) (List.getElem?_eq_getElem hq) (j % 2) (by have := Nat.mod_lt j (show 0 < 2 by omega); simp [Nat.blt_eq, this]) (by omega) ?_
   have hm : j % 2 < (Z1A A[j / 2]).length := by rw [Z2V]; omega
   rw [List.getElem?_eq_getElem hm, getElem!_pos (Z1A A[j / 2]) _ hm]; rfl
  ·unfold World.frozen?
   rw [hb]; simp
 have h := AnyQ.slices_SortFunc (P := Tryz.prog) sortL 2 Tryz.isAgg24 Tryz.sizeOf24 Z1A Z2V (fun x v hv => List.all_eq_true.1 (Z9Z x) v hv) Z9Q Z9R 53 #[] g 0 c A.toArray w (enters_of Tryz.func53 (by kernel_rfl) rfl) (Z7Y g 0 _ w) hH hg (by simpa using h12)
 rw [show A.toArray.size = A.length from List.size_toArray ..] at h
 refine h.mono fun e w' ⟨he, d', n, os, hp, hs, hw⟩ => ?_
 have hsz : d'.size = A.length := by simpa using hp.1
 have hp2 : d'.toList.Perm A := by
  have := hp.2.2
  have e1 : d'.extract 0 A.length = d' := by rw [← hsz]; exact Array.extract_size
  have e2 : A.toArray.extract 0 A.length = A.toArray := Array.extract_size (xs := A.toArray)
  rw [e1, e2] at this
  exact this
 refine ⟨he, d'.toList, hp2, ?_, ?_, ?_⟩
 ·rw [List.pairwise_iff_getElem]
  intro i j hi hj hij
  have hi' : i < d'.size := by simpa using hi
  have hj' : j < d'.size := by simpa using hj
  have := hs i j (Nat.zero_le _) hij (by omega)
  rw [getElem!_pos d' i hi', getElem!_pos d' j hj'] at this
  rw [Z3K] at this
  have h5 := of_decide_eq_false this
  rwa [Array.getElem_toList, Array.getElem_toList]
 ·obtain ⟨q1, q2⟩ := Z7K Z1A 2 Z2V (by omega) d' cur (by rw [hsz, hcs]; exact Nat.mul_le_mul_right _ hnc)
  refine ⟨by rw [Z1u Z1A 2 Z2V]; simp [hsz], .inr ⟨g, c, putCells id 0 (flatK Z1A 2 d') cur, rfl, Nat.zero_le _, ?_, hnc, hcm, by rw [q1, hcs], by rw [← hsz]; exact q2⟩⟩
  rw [hw]
  unfold sortWorldK putRowK putRow mapBlock grow Sort.ahead
  simp only [Array.getElem?_append, Array.size_modify, hg, if_true, Array.getElem?_modify]
  rw [hb]; rfl
 ·subst hw
  refine ⟨rfl, rfl, rfl, size_sortWorldK_c _ _ _ _ _ _ _ _, fun k hk hne => ?_⟩
  have hne : g ≠ k := fun e => hne (by simp [e])
  unfold sortWorldK putRowK putRow mapBlock grow Sort.ahead
  simp only [Array.getElem?_append, Array.size_modify, hk, if_true, Array.getElem?_modify, if_neg hne]
theorem Z8v (w : World) (a : Option Addr) (c : Nat) (D : List NmD) (hv : (Z0c [ZH 24 2 (.slice a D.length c) D.length (D.flatMap Z1A)]).ok w) (h12 : D.length < 4611686018427387904) :
  Calls Tryz.prog 97 #[.slice a D.length c, .func (.func 53) #[] #[]] w fun e w' => ∃ D' : List NmD, e = .returned (.tuple #[]) ∧ D'.Perm D ∧ (D'.Pairwise fun a b => ¬ Z5Y b a) ∧ Sat w [ZH 24 2 (.slice a D'.length c) D'.length (D'.flatMap Z1A), Z6 w (Z0c [ZH 24 2 (.slice a D.length c) D.length (D.flatMap Z1A)]).fp] w' := by
 have H := Sat.start _ hv
 cases hD : D with
 | nil =>
  subst hD
  refine (ZaQ a c (.func (.func 53) #[] #[]) w).mono fun e w' ⟨he, hw⟩ => ?_
  subst hw
  exact ⟨[], he, List.Perm.refl _, List.Pairwise.nil, H⟩
 | cons x D0 =>
  rw [← hD]
  have hv0 := hv.1 _ (List.mem_singleton.2 rfl)
  obtain ⟨g, c', hs⟩ := Z1n hv0 (by rw [hD]; simp)
  simp only [Value.slice.injEq] at hs
  obtain ⟨rfl, _, rfl⟩ := hs
  refine (ZaR w g c D hv0 h12).mono fun e w' ⟨he, D', hp, hs, hok, hu⟩ => ?_
  have hl := hp.length_eq
  refine ⟨D', he, hp, hs, ?_⟩
  rw [hl]
  exact H.setU hu 0 rfl (by rintro b' hb; rw [List.mem_singleton.1 hb]; rfl) hok (fun b hb => .inl hb)
variable {ν : Type} {encV : ν → Value}
theorem Z9S (c b : Nat) (M : List (NmD × ν)) (hlM : M.length ≤ 1000) (w : World) (hm : w.cell? ⟨c, 0, none⟩ = some (.map (some b))) (hM : MapAt w b nmV encV M) :
  Calls Tryz.prog 96 #[.func (.func 98) #[] #[.pointer (some ⟨c, 0, none⟩)]] w fun e w' => ∃ (u : Value) (ss : List NmD), e = .returned u ∧ ss.Perm (M.map (·.1)) ∧ (ZH 24 2 u ss.length (ss.flatMap Z1A)).ok w' ∧ Upd [] w w' ∧ ∀ k, u.ownBlock = some k → w.heap.size ≤ k := by
 have h := Z5s c b M hlM w hm hM
 go_enter Tryz.func96, Tryz.ntmps96
 go_wp2_with (go_at_call 117; refine h.mono ?_; rintro e w' ⟨u, ss, rfl, hp, hok, hu, hfr⟩)
 (try simp only [Exit.inBlock, Exit.then]); refine bodyPost_ret (results_tmp rfl _ _ _) rfl ?_
 exact ⟨u, ss, rfl, hp, hok, hu, hfr⟩
theorem ZbG (c b : Nat) (M : List (NmD × ν)) (hlM : M.length ≤ 1000) (w : World) (hm : w.cell? ⟨c, 0, none⟩ = some (.map (some b))) (hM : MapAt w b nmV encV M) :
  Calls Tryz.prog 60 #[.func (.func 98) #[] #[.pointer (some ⟨c, 0, none⟩)], .func (.func 53) #[] #[]] w fun e w' => ∃ (a : Option Addr) (cp : Nat) (ss : List NmD), e = .returned (.slice a ss.length cp) ∧ ss.Perm (M.map (·.1)) ∧ (ss.Pairwise fun a b => ¬ Z5Y b a) ∧ (ZH 24 2 (.slice a ss.length cp) ss.length (ss.flatMap Z1A)).ok w' ∧ Upd [] w w' ∧ ∀ k, (Value.slice a ss.length cp).ownBlock = some k → w.heap.size ≤ k := by
 have h := Z9S c b M hlM w hm hM
 go_enter Tryz.func60, Tryz.ntmps60
 go_wp2_with (first | (go_at_call 96; refine h.mono ?_; rintro e w' ⟨u, ss, rfl, hp, hok, hu, hfr⟩; obtain ⟨a, cp, rfl⟩ := Z1 hok; have H1 : Sat w [Z6 w (fun _ => False), ZH 24 2 (.slice a ss.length cp) ss.length (ss.flatMap Z1A)] w' := (Sat.start0 w).addU hu hok hfr) | (go_at_call 97; refine (Z8v _ a cp ss (H1.fin [1] (by decide) rfl) (by have := hp.length_eq; simp at this; omega)).mono ?_; rintro e w2 ⟨D', rfl, hp2, hs, H2⟩))
 have H3 := Sat.turnL (L' := [ZH 24 2 (.slice a D'.length cp) D'.length (D'.flatMap Z1A)]) (R := [Z6 w (fun _ => False)]) H1 [1] [0] (by decide) rfl rfl H2
 have hl := hp2.length_eq
 rw [← hl]
 (try simp only [Exit.inBlock, Exit.then]); refine bodyPost_ret (results_tmp rfl _ _ _) rfl ?_
 exact ⟨a, cp, D', rfl, hp2.trans hp, hs, H3.at 0 rfl, H3.upd 1 rfl [] (fun _ h => h.elim), fun k hk => H3.freshS 1 rfl (fun _ h => h) [0] rfl rfl k ⟨_, List.mem_singleton.2 rfl, hk⟩⟩
theorem Zan (w : World) (b : Nat) : Calls Tryz.prog 61 #[.map (some b)] w fun e w' => ∃ bx, e = .returned (.func (.func 98) #[] #[.pointer (some ⟨bx, 0, none⟩)]) ∧ (Z0 bx 119 [.map (some b)]).ok w' ∧ Upd [] w w' ∧ w.heap.size ≤ bx := by
 go_enter Tryz.func61, Tryz.ntmps61
 go_wp2
 (try simp only [Exit.inBlock, Exit.then]); refine bodyPost_ret (results_tmp rfl _ _ _) rfl ?_
 exact ⟨_, rfl, Z1a w _, ⟨rfl, rfl, rfl, by simp, fun k hk _ => Below.heap_alloc w _ k hk⟩, Nat.le_refl _⟩
end Go.Proofs.YtoaifondpohniaaGreat
namespace Go.Proofs.YtoaifondpohniaaGreat
open Go.RowKit
abbrev ZbT (p0 : Nat) : List Value := ([(.map (some p0))] : List Value)
abbrev ZbU (p0 : Option Addr) (p1 : List NmD) (p2 : Nat) : Ck := ZH 24 2 (.slice p0 p1.length p2) p1.length (p1.flatMap Z1A)
abbrev kLtH_2 (p0 : Option Addr) (p1 : List CeR) (p2 : Nat) : Ck := ZH 53 38 (.slice p0 p1.length p2) p1.length (p1.flatMap Z0h)
abbrev Z6i (p0 : Int) (p1 : Int) : List Value := ([(.int .i64 p0), (.int .i64 p1)] : List Value)
abbrev kLtH_4 (p0 : Zg) (p1 : CeR) (p2 : Nat) : List Value := ([(.int .i64 p0.cl), (.int .i64 p0.seq)] : List Value) ++ hc p0.h ++ ([(.int .i64 p0.len), (.int .i64 p0.sb), (.int .i64 p0.sm), (.slice p1.sa p2 p1.sc)] : List Value)
abbrev Zaa (p0 : Zg) (p1 : Option Addr) (p2 : Nat) (p3 : Nat) : List Value := ([(.int .i64 p0.cl), (.int .i64 p0.seq)] : List Value) ++ hc p0.h ++ ([(.int .i64 p0.len), (.int .i64 p0.sb), (.int .i64 p0.sm), (.slice p1 p2 p3)] : List Value)
def Z51 (c : CeR) : Zg × List Z5 := (c.x, c.S)
def HvC (M : List (NmD × CeR)) (ss : List NmD) (D : List CeR) : Prop := D.map Z51 = ss.map fun n => Z51 ((ZV M n).getD ce0)
theorem Z8b {M : List (NmD × CeR)} {ss : List NmD} {D : List CeR} (h : HvC M ss D) : D.length = ss.length := by
 have q := congrArg List.length h
 simpa using q
theorem Zbd {M : List (NmD × CeR)} {ss : List NmD} {D : List CeR} {i : Nat} {sa : Option Addr} {sc : Nat} {n : NmD} (h : HvC M (ss.take i) D) (hn : ss[i]? = some n) : HvC M (ss.take (i + 1)) (D ++ [⟨((ZV M n).getD ce0).x, sa, sc, ((ZV M n).getD ce0).S⟩]) := by
 unfold HvC at h ⊢
 rw [List.take_add_one, List.map_append, List.map_append, h, hn]; rfl
theorem Z9l (w : World) (t tm : Nat) (F Cn rp : Int) (M : List (NmD × CeR)) (ht : (Z0 t 121 [.int .i64 F, .int .i64 Cn, .int .i64 rp, .map (some tm)]).ok w) (htm : MapAt w tm nmV ceV M) (hst : ∀ q ∈ M, (stC q.2).ok w ∧ q.2.S.length ≤ 12) (hlM : M.length ≤ 64) :
  Calls Tryz.prog 25 #[(.pointer (some ⟨t, 0, none⟩))] w fun e w' => ∃ (da : Option Addr) (dc : Nat) (D : List CeR) (B : List Ck) (ss : List NmD), e = .returned (.slice da D.length dc) ∧ ss.Perm (M.map (·.1)) ∧ (ss.Pairwise fun a b => ¬ Z5Y b a) ∧ HvC M ss D ∧ (∀ c ∈ D, stC c ∈ B) ∧ (Z0c [ZH 53 38 (.slice da D.length dc) D.length (D.flatMap Z0h), Z0o B]).ok w' ∧ Upd [] w w' ∧ ∀ q_, (Z0c [ZH 53 38 (.slice da D.length dc) D.length (D.flatMap Z0h), Z0o B]).fp q_ → w.heap.size ≤ q_ := by
 have H := Sat.start0 w
 refine Zp Tryz.func25 rfl 29 rfl (Nat.le_of_ble_eq_true rfl) ?_
 apply zsl
 refine wv 2 (.slice none 0 0) ?_
 apply Z1y
 refine wv 3 (.slice none 0 0) ?_
 apply znt
 apply Zt
 apply zsl
 refine wv 6 (pt t 0) ?_
 refine wv 7 (pt t 0) ?_
 refine wv 8 (pt t 3) ?_
 refine zw1 9 (.map (some tm)) (H.roCell 0 rfl ht (fun h => h) rfl) ?_
 refine zwd fun Kq kq => ?_
 refine zdc 10 (Zan w tm) ?_
 rintro _ w3 ⟨b2, rfl, k4, p5, q6⟩
 have H7 := H.addU p5 k4 (fun _ h => h ▸ q6)
 refine ⟨_, rfl, ?_⟩
 refine kq _ _ ?_
 clear kq Kq
 refine zwd fun Kq kq => ?_
 refine zdc 11 (ZbG b2 tm M (by omega) w3 (H7.cell 1 rfl rfl) (H7.roMap 0 rfl htm (fun h => h))) ?_
 rintro _ w9 ⟨a10, c11, ss, rfl, p12, s13, k14, u15, q16⟩
 have H17 := H7.addU u15 k14 q16
 refine ⟨_, rfl, ?_⟩
 have hssl := p12.length_eq
 rw [List.length_map] at hssl
 refine kq _ _ ?_
 clear kq Kq
 refine wv 12 (.int .i64 ((ss.length : Int))) ?_
 refine wv 13 (.int .i64 (0)) ?_
 apply znt
 apply ZG
 have H18 := H17.addNil 53 38
 have H19 := H18.bag0
 refine Z02 ([3, 5] ++ List.range' 13 15) (fun F_ W_ m_ => ∃ (i : Nat) (da : Option Addr) (dc : Nat) (D : List CeR) (B : List Ck), F_ 13 = (.int .i64 ((i : Int))) ∧ F_ 3 = (.slice da D.length dc) ∧ (i ≤ ss.length) ∧ (HvC M (ss.take i) D) ∧ (∀ c ∈ D, stC c ∈ B) ∧ Sat w [Z6 w (fun _ => False), Z0 b2 119 (ZbT tm), (ZbU a10 ss c11), (kLtH_2 da D dc), Z0o B] W_ ∧ m_ = ss.length - i) _ ⟨0, none, 0, [], [], (show ((.int .i64 (0)) : Value) = _ by first | rfl | go_num), (by first | rfl | go_num), (Nat.zero_le _), rfl, (fun c hm => by simp at hm), H19, rfl⟩ ?_
 rintro g20 w21 _ ⟨i, da, dc, D, B, v23, v24, hi, hco, hin, H22, rfl⟩
 refine ZF 13 _ v23 ?_
 refine ZF 3 _ v24 ?_
 have hDl := Z8b hco
 rw [List.length_take] at hDl
 apply zsl
 refine wv 14 (.bool (decide ((i : Int) < (ss.length : Int)))) ?_
 apply znt
 apply Zt
 refine (Zl (decide ((i : Int) < (ss.length : Int)))).elim (fun b26 => ?_) (fun b26 => ?_)
 ·have g27 := of_decide_eq_true b26
  refine Z1o _ b26 ?_
  apply ZL
  apply ztn
  apply Zt
  apply ZG
  apply zsl
  obtain ⟨g29, c30, e31⟩ := Z1n (H22.at 2 rfl) (by omega)
  obtain ⟨x32, h33⟩ := Z2j (show i < ss.length by omega)
  refine wv 15 (.pointer (some ⟨g29, 0 + ((i : Int)).toNat * 2, none⟩)) ?_ (hr := Z0t (E := 24) (by kernel_rfl) (by kernel_rfl) (Nat.le_of_ble_eq_true rfl) rfl e31 rfl (by omega) (by omega))
  refine wv 16 (.agg ⟨(Z6i x32.cl x32.sq)⟩) ?_ (hr := Z0f (vs := (Z6i x32.cl x32.sq)) rfl (by kernel_rfl) (by kernel_rfl) (Nat.le_of_ble_eq_true (by kernel_rfl)) (Z2a (H22.at 2 rfl) e31 Z2V h33 0 (show 0 + ((i : Int)).toNat * 2 = i * 2 + 0 by omega) (by kernel_rfl) (by kernel_rfl)))
  refine zwd fun Kq kq => ?_
  refine zda ([(.int .i64 (0)), (.int .i64 (0))] : List Value) H22 ?_
  intro b35 w36 H37
  refine kq _ _ ?_
  clear kq Kq
  refine zwd fun Kq kq => ?_
  refine Z2k (Z6i x32.cl x32.sq) H37 5 ?_
  intro w39 H40
  refine kq _ _ ?_
  clear kq Kq
  apply znt
  refine Z00 H40 [Z6 w (fun _ => False), Z0 b2 119 (ZbT tm), (ZbU a10 ss c11), Z0o B, Z0 b35 24 (Z6i x32.cl x32.sq)] 11 rfl (by kernel_rfl) (fun Hx => (Hx.pk [0, 1, 2, 4, 5])) ?_
  intro w42 H43 S44
  refine hv0 0 S44 17 (.slice da D.length dc) ?_
  refine hv0 1 S44 18 (pt t 0) ?_
  refine hv0 2 S44 19 (pt t 0) ?_
  refine hv0 3 S44 20 (pt t 3) ?_
  refine hv0 4 S44 21 (.map (some tm)) ?_ (he := fun _ H' => (Z2 rfl (by kernel_rfl) (H'.roCell 0 rfl ht (fun h => h) rfl)))
  refine hv0 5 S44 22 (.agg ⟨(Z6i x32.cl x32.sq)⟩) ?_ (he := fun _ H' => (Zc (vs := (Z6i x32.cl x32.sq)) rfl (by kernel_rfl) (by kernel_rfl) (by exact Nat.le_of_ble_eq_true (by kernel_rfl)) (H'.at 4 rfl) (by kernel_rfl)))
  refine hv0 6 S44 23 (.agg ⟨(kLtH_4 (((ZV M (⟨x32.cl, x32.sq⟩ : NmD)).getD ce0).x) ((ZV M (⟨x32.cl, x32.sq⟩ : NmD)).getD ce0) (((ZV M (⟨x32.cl, x32.sq⟩ : NmD)).getD ce0).S.length))⟩) ?_ (he := fun _ H' => (Z3A (kt := 24) (et := 53) nmK (by kernel_rfl) zeroCe rfl (⟨x32.cl, x32.sq⟩ : NmD) rfl (H'.roMap 0 rfl htm (fun h => h)) (ZcI ceV _ _)))
  refine Z09 7 fun Kq kq => ?_
  refine zdc 24 (Z7b w42 ((ZV M (⟨x32.cl, x32.sq⟩ : NmD)).getD ce0).x ((ZV M (⟨x32.cl, x32.sq⟩ : NmD)).getD ce0).sa ((ZV M (⟨x32.cl, x32.sq⟩ : NmD)).getD ce0).sc ((ZV M (⟨x32.cl, x32.sq⟩ : NmD)).getD ce0).S (H43.roCk 0 rfl (Zcs hst) (fun _ _ h => h)) (Zbp hst)) ?_
  rintro _ w46 ⟨u47, rfl, k48, p49, q50⟩
  have H51 := H43.addU p49 k48 q50
  obtain ⟨a52, c53, rfl⟩ := Z1 (H51.at 6 rfl)
  refine ⟨_, rfl, ?_⟩
  have S54 := H51.pk [0, 1, 2, 4, 5]
  refine kq _ _ S54 ?_
  clear kq Kq
  refine Z09 8 fun Kq kq => ?_
  refine Z3o 53 38 96 (.agg ⟨(([(.int .i64 (0)), (.int .i64 (0))] : List Value) ++ hc Z0d ++ ([(.int .i64 (0)), (.int .i64 (0)), (.int .i64 (0)), (.slice none 0 0)] : List Value))⟩) [(0, (.agg ⟨(Zaa (((ZV M (⟨x32.cl, x32.sq⟩ : NmD)).getD ce0).x) a52 ((((ZV M (⟨x32.cl, x32.sq⟩ : NmD)).getD ce0).S).length) c53)⟩))] (Zaa (((ZV M (⟨x32.cl, x32.sq⟩ : NmD)).getD ce0).x) a52 ((((ZV M (⟨x32.cl, x32.sq⟩ : NmD)).getD ce0).S).length) c53) H51 ?_
  intro b56 w57 H58
  have H59 := H58.ct 7 rfl (ZH 53 38 (.slice (some ⟨b56, 0, none⟩) 1 1) 1 ([(⟨((ZV M (⟨x32.cl, x32.sq⟩ : NmD)).getD ce0).x, a52, c53, ((ZV M (⟨x32.cl, x32.sq⟩ : NmD)).getD ce0).S⟩ : CeR)].flatMap Z0h)) (by rw [(show ((Zaa (((ZV M (⟨x32.cl, x32.sq⟩ : NmD)).getD ce0).x) a52 ((((ZV M (⟨x32.cl, x32.sq⟩ : NmD)).getD ce0).S).length) c53) : List Value) = [(⟨((ZV M (⟨x32.cl, x32.sq⟩ : NmD)).getD ce0).x, a52, c53, ((ZV M (⟨x32.cl, x32.sq⟩ : NmD)).getD ce0).S⟩ : CeR)].flatMap Z0h by kernel_rfl)])
  have S60 := H59.pk [0, 1, 2, 4, 5]
  refine kq _ _ S60 ?_
  clear kq Kq
  refine Z09 9 fun Kq kq => ?_
  refine Z14 (T := 32) (e := 53) (size := 38) (bytes := 96) rfl H59 (by kernel_rfl) 3 7 rfl rfl rfl rfl (Z0U Z0h Z3r [(⟨((ZV M (⟨x32.cl, x32.sq⟩ : NmD)).getD ce0).x, a52, c53, ((ZV M (⟨x32.cl, x32.sq⟩ : NmD)).getD ce0).S⟩ : CeR)]) (by omega) (by omega) ?_
  intro v62 w63 H64
  have H67 := H64.ct 3 rfl (ZH 53 38 v62 ((D ++ [(⟨((ZV M (⟨x32.cl, x32.sq⟩ : NmD)).getD ce0).x, a52, c53, ((ZV M (⟨x32.cl, x32.sq⟩ : NmD)).getD ce0).S⟩ : CeR)]).length) ((D ++ [(⟨((ZV M (⟨x32.cl, x32.sq⟩ : NmD)).getD ce0).x, a52, c53, ((ZV M (⟨x32.cl, x32.sq⟩ : NmD)).getD ce0).S⟩ : CeR)]).flatMap Z0h)) ja
  obtain ⟨a65, c66, rfl⟩ := Z1 (H67.at 3 rfl)
  have S68 := H67.pk [0, 1, 2, 4, 5]
  refine kq _ _ S68 ?_
  clear kq Kq
  refine hv0 10 S68 3 (.slice a65 ((D ++ [(⟨((ZV M (⟨x32.cl, x32.sq⟩ : NmD)).getD ce0).x, a52, c53, ((ZV M (⟨x32.cl, x32.sq⟩ : NmD)).getD ce0).S⟩ : CeR)]).length) c66) ?_
  refine zhf ?_
  apply Zq
  apply ztn
  have H69 := (H67.pk [4, 6, 0, 1, 2, 3, 5, 7]).bag
  have H70 := H69.pk [1, 2, 3, 4, 0, 5, 6]
  apply ZU
  refine zwi 27 ((i : Int) + 1) ?_
  refine wv 13 (.int .i64 ((i : Int) + 1)) ?_
  apply ZQ
  have H71 := H70.pk [0, 1, 2, 3, 4]
  refine Zw ?_ _ ⟨(i + 1), a65, c66, (D ++ [(⟨((ZV M (⟨x32.cl, x32.sq⟩ : NmD)).getD ce0).x, a52, c53, ((ZV M (⟨x32.cl, x32.sq⟩ : NmD)).getD ce0).S⟩ : CeR)]), (stC (⟨((ZV M (⟨x32.cl, x32.sq⟩ : NmD)).getD ce0).x, a52, c53, ((ZV M (⟨x32.cl, x32.sq⟩ : NmD)).getD ce0).S⟩ : CeR) :: B), rfl, (show ((.slice a65 ((D ++ [(⟨((ZV M (⟨x32.cl, x32.sq⟩ : NmD)).getD ce0).x, a52, c53, ((ZV M (⟨x32.cl, x32.sq⟩ : NmD)).getD ce0).S⟩ : CeR)]).length) c66) : Value) = _ by first | rfl | go_num), (by omega), (Zbd hco h33), (Zci hin), H71, rfl⟩ (by omega)
  exact zs
 have g72 := of_decide_eq_false b26
 refine Z18 _ b26 ?_
 apply zxb
 apply ztn
 apply zsl
 refine wv 28 (.slice da D.length dc) ?_
 refine wv 2 (.slice da D.length dc) ?_
 apply znt
 apply ZA
 refine ze1 (.slice da D.length dc) ?_
 exact ⟨da, dc, D, B, ss, rfl, p12, s13, (by rw [List.take_of_length_le (by omega)] at hco; exact hco), hin, H22.fn [3, 4], H22.upd 0 rfl [] (fun _ h => h.elim), H22.freshS 0 rfl (fun _ h => h) [3, 4] rfl rfl⟩
def nmX (x : CeR) : NmD := ⟨x.x.cl, x.x.seq⟩
section
variable {B : List Ck} {A : Ck} {c x : CeR} {M : List (NmD × CeR)} {a : NmD} {w : World} {F Cn floor : Int} {Lb : List Signed}
theorem CeT.more (h : CeT B c) (A : Ck) : CeT (A :: B) c := ⟨h.x, h.S, h.len, List.mem_cons_of_mem _ h.bag⟩
theorem Zbo (h : ∀ q ∈ M, CeT B q.2) (hs : (ZV M a).isSome = true) : CeT B ((ZV M a).getD ce0) := by
 obtain ⟨v, hv⟩ := Option.isSome_iff_exists.1 hs
 rw [hv]
 exact h _ (Z5G hv)
noncomputable def takeM (F Cn floor : Int) (Lb : List Signed) (M : List (NmD × CeR)) (x : CeR) : Int :=
 if Z06 F Cn Lb x.x x.S = true then
  if (ZV M (nmX x)).isSome = true then
   if ((ZV M (nmX x)).getD ce0).x.h = x.x.h ∧ ZK ((ZV M (nmX x)).getD ce0).S = ZK x.S then 0 else 5
  else if ZK x.S ≤ floor then 4 else if 64 ≤ M.length then 7 else 0
 else 3
end
end Go.Proofs.YtoaifondpohniaaGreat
