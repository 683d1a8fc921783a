/- WHAT IS PROVED: contracts and plain laws of CmpF, SortNN, SortN, SrtN. Conditions: stated with each. -/
import Derived.Shelf.SlSortCmp.WholeK
import Derived.Test.YtoaifondpohniaaGreatMT12
import Derived.Test.YtoaifondpohniaaGreatMT14
import Derived.Test.YtoaifondpohniaaGreatMT25
set_option maxHeartbeats 4000000
set_option maxRecDepth 100000
namespace Go.Proofs.YtoaifondpohniaaGreat
open Go.RowKit
theorem Z58 (w : World) (a b c d : Int) :
  Calls Tryz.prog 53 #[(.agg ⟨([(.int .i64 (a)), (.int .i64 (b))] : List Value)⟩), (.agg ⟨([(.int .i64 (c)), (.int .i64 (d))] : List Value)⟩)] w fun e w' => e = .returned (.int .i64 (or2 (Z2H a c) (Z2H b d))) ∧ Upd [] w w' ∧ Gr w w' := by
 have H := Sat.start0 w
 refine Zr Tryz.func53 rfl 17 rfl (Nat.le_of_ble_eq_true rfl) ?_
 refine Zb ?_
 refine Zl ?_
 refine ZQ (Z0 rfl) (fun K1 hK1 => ?_)
 refine Z9e (vs := ([(.int .i64 (a)), (.int .i64 (b))] : List Value)) rfl H rfl rfl ?_
 intro b2 w3 (H4 : Sat w [Z5 w (fun _ => False), Z1 b2 24 ([(.int .i64 (a)), (.int .i64 (b))] : List Value)] w3) g5
 refine hK1 _ _ ?_
 clear hK1 K1
 refine ZQ (Z0 rfl) (fun K6 hK6 => ?_)
 refine Z9e (vs := ([(.int .i64 (c)), (.int .i64 (d))] : List Value)) rfl H4 rfl rfl ?_
 intro b7 w8 (H9 : Sat w [Z5 w (fun _ => False), Z1 b2 24 ([(.int .i64 (a)), (.int .i64 (b))] : List Value), Z1 b7 24 ([(.int .i64 (c)), (.int .i64 (d))] : List Value)] w8) g10
 have gr11 := g5.trans g10
 refine hK6 _ _ ?_
 clear hK6 K6
 refine Z3 (Z0 rfl) (d := 4) (v := (.int .i64 (0))) rfl (by kernel_rfl) ?_
 refine Zi ?_
 refine Z4 ?_
 refine Zb ?_
 refine Z8M H9 [Z5 w (fun _ => False), Z1 b2 24 ([(.int .i64 (a)), (.int .i64 (b))] : List Value), Z1 b7 24 ([(.int .i64 (c)), (.int .i64 (d))] : List Value)] 13 rfl (by kernel_rfl) (fun Hx => (Hx.pick [0, 1, 2] (by decide))) ?_
 intro w12 H13 S14 g15
 have gr16 := gr11.trans g15
 refine ZM 0 rfl (by kernel_rfl) (by kernel_rfl) (by kernel_rfl) (fun _ _ _ h => h) S14 (Z0 rfl) (d := 5) (v := (.pointer (some ⟨b2, 0, none⟩))) rfl (fun _ H' => (by kernel_rfl)) ?_
 refine ZM 1 rfl (by kernel_rfl) (by kernel_rfl) (by kernel_rfl) (fun _ _ _ h => h) S14 (Z0 rfl) (d := 6) (v := (.int .i64 (a))) rfl (fun _ H' => (Za rfl (by kernel_rfl) (H'.cell 1 rfl rfl))) ?_
 refine ZM 2 rfl (by kernel_rfl) (by kernel_rfl) (by kernel_rfl) (fun _ _ _ h => h) S14 (Z0 rfl) (d := 7) (v := (.pointer (some ⟨b7, 0, none⟩))) rfl (fun _ H' => (by kernel_rfl)) ?_
 refine ZM 3 rfl (by kernel_rfl) (by kernel_rfl) (by kernel_rfl) (fun _ _ _ h => h) S14 (Z0 rfl) (d := 8) (v := (.int .i64 (c))) rfl (fun _ H' => (Za rfl (by kernel_rfl) (H'.cell 2 rfl rfl))) ?_
 refine ZM 5 rfl (by kernel_rfl) (by kernel_rfl) (by kernel_rfl) (fun _ _ _ h => h) S14 (Z0 rfl) (d := 10) (v := (.pointer (some ⟨b2, 1, none⟩))) rfl (fun _ H' => (by kernel_rfl)) ?_
 refine ZM 6 rfl (by kernel_rfl) (by kernel_rfl) (by kernel_rfl) (fun _ _ _ h => h) S14 (Z0 rfl) (d := 11) (v := (.int .i64 (b))) rfl (fun _ H' => (Za rfl (by kernel_rfl) (H'.cell 1 rfl rfl))) ?_
 refine ZM 7 rfl (by kernel_rfl) (by kernel_rfl) (by kernel_rfl) (fun _ _ _ h => h) S14 (Z0 rfl) (d := 12) (v := (.pointer (some ⟨b7, 1, none⟩))) rfl (fun _ H' => (by kernel_rfl)) ?_
 refine ZM 8 rfl (by kernel_rfl) (by kernel_rfl) (by kernel_rfl) (fun _ _ _ h => h) S14 (Z0 rfl) (d := 13) (v := (.int .i64 (d))) rfl (fun _ H' => (Za rfl (by kernel_rfl) (H'.cell 2 rfl rfl))) ?_
 refine Z1l 4 rfl (by kernel_rfl) (Z0 rfl) (fun K17 hK17 => ?_)
 refine ZX (d := 9) rfl (by kernel_rfl) (Z4W a c w12) ?_
 rintro _ w18 ⟨rfl, hw18⟩
 obtain rfl := hw18.symm
 refine ⟨_, rfl, ?_⟩
 have S19 := H13.pick [0, 1, 2] (by decide)
 refine hK17 _ _ S19 ?_
 clear hK17 K17
 refine Z1l 9 rfl (by kernel_rfl) (Z0 rfl) (fun K20 hK20 => ?_)
 refine ZX (d := 14) rfl (by kernel_rfl) (Z4W b d w12) ?_
 rintro _ w21 ⟨rfl, hw21⟩
 obtain rfl := hw21.symm
 refine ⟨_, rfl, ?_⟩
 have S22 := H13.pick [0, 1, 2] (by decide)
 refine hK20 _ _ S22 ?_
 clear hK20 K20
 refine Z1l 10 rfl (by kernel_rfl) (Z0 rfl) (fun K23 hK23 => ?_)
 refine Z5q (e := 3) (size := 1) (bytes := 8) (z := (.int .i64 (0))) (pvs := [(0, (.int .i64 (Z2H a c))), (1, (.int .i64 (Z2H b d)))]) (vs := ([(.int .i64 (Z2H a c)), (.int .i64 (Z2H b d))] : List Value)) rfl H13 (by kernel_rfl) (by kernel_rfl) (by kernel_rfl) (by kernel_rfl) (by kernel_rfl) rfl rfl ?_
 intro b24 w25 (H26 : Sat w [Z5 w (fun _ => False), Z1 b2 24 ([(.int .i64 (a)), (.int .i64 (b))] : List Value), Z1 b7 24 ([(.int .i64 (c)), (.int .i64 (d))] : List Value), Zd 3 1 (.slice (some ⟨b24, 0, none⟩) 2 2) 2 ([(.int .i64 (Z2H a c)), (.int .i64 (Z2H b d))] : List Value)] w25) g27
 have gr28 := gr16.trans g27
 have S29 := H26.pick [0, 1, 2] (by decide)
 refine hK23 _ _ S29 ?_
 clear hK23 K23
 refine Z1l 11 rfl (by kernel_rfl) (Z0 rfl) (fun K30 hK30 => ?_)
 refine ZX (d := 16) rfl (by kernel_rfl) (Z9r (Z2H a c) (Z2H b d) b24 w25 (Z2Q (H26.at 3 rfl) rfl rfl) (Z2Q (H26.at 3 rfl) rfl rfl)) ?_
 rintro _ w31 ⟨rfl, hw31⟩
 obtain rfl := hw31.symm
 refine ⟨_, rfl, ?_⟩
 have S32 := H26.pick [0, 1, 2] (by decide)
 refine hK30 _ _ S32 ?_
 clear hK30 K30
 refine ZM 12 rfl (by kernel_rfl) (by kernel_rfl) (by kernel_rfl) (fun _ _ _ h => h) S32 (Z0 rfl) (d := 4) (v := (.int .i64 (or2 (Z2H a c) (Z2H b d)))) rfl (fun _ H' => (by kernel_rfl)) ?_
 refine Z20 (by kernel_rfl) ?_
 refine Z4 ?_
 refine ZY ?_
 refine Z1i rfl (ZJ (v := (.int .i64 (or2 (Z2H a c) (Z2H b d)))) rfl) ?_
 exact ⟨rfl, H26.upd 0 rfl [] (fun _ h => h.elim), gr28⟩
end Go.Proofs.YtoaifondpohniaaGreat
namespace Go.Proofs.YtoaifondpohniaaGreat
open Go.RowKit Go.Shelf Go.Sort
theorem Z95 (p : Option Addr) (cap : Nat) (fv : Value) (w : World) : Calls Tryz.prog 127 #[.slice p 0 cap, .int .i64 0, .int .i64 0, fv] w fun e w' => e = .returned (.tuple #[]) ∧ w' = w := by
 go_enter Tryz.func127, Tryz.ntmps127
 go_wp2
 refine wp_loop_rounds 1 ?_
 rw [rounds_succ]
 go_wp2
 go_end0
 exact ⟨rfl, rfl⟩
theorem Z8W (p : Option Addr) (cap : Nat) (lim : Int) (fv : Value) (w : World) : Calls Tryz.prog 118 #[.slice p 0 cap, .int .i64 0, .int .i64 0, .int .i64 lim, fv] w fun e w' => e = .returned (.tuple #[]) ∧ w' = w := by
 have hi := fun W => Z95 p cap fv W
 go_enter Tryz.func118, Tryz.ntmps118
 go_wp2
 refine wp_loop_rounds 1 ?_
 rw [rounds_succ]
 go_wp2_with (go_at_call 127; refine (hi _).mono ?_; rintro e w' ⟨rfl, rfl⟩)
 (try simp only [Exit.inBlock, Exit.then]); refine bodyPost_ret (results_none rfl _ _ _) rfl ?_
 exact ⟨rfl, rfl⟩
theorem Z8c (p : Option Addr) (cap : Nat) (fv : Value) (w : World) : Calls Tryz.prog 97 #[.slice p 0 cap, fv] w fun e w' => e = .returned (.tuple #[]) ∧ w' = w := by
 have hp := fun lim W => Z8W p cap lim fv W
 have hl : ∀ W, Calls Tryz.prog 119 #[.int .u64 0] W fun e w' => e = .returned (.int .i64 (Lib.bitLen 0 : Nat)) ∧ w' = W := fun W => Any.bits_Len bitsL 0 W (by omega) (by omega)
 go_enter Tryz.func97, Tryz.ntmps97
 go_wp2_with (first | (go_at_call 119; refine (hl _).mono ?_; rintro e w' ⟨rfl, rfl⟩) | (go_at_call 118; refine (hp _ _).mono ?_; rintro e w' ⟨rfl, rfl⟩))
 go_end0
 exact ⟨rfl, rfl⟩
instance : Inhabited NmD := ⟨nm0⟩
def Z84 (x y : NmD) : Int := or2 (Z2H x.cl y.cl) (Z2H x.sq y.sq)
def Z7t (x y : NmD) : Prop := x.cl < y.cl ∨ (x.cl = y.cl ∧ x.sq < y.sq)
instance (x y : NmD) : Decidable (Z7t x y) := by unfold Z7t; exact inferInstance
theorem Z53 (a b : Int) : (a < b ∧ Z2H a b = -1) ∨ (a = b ∧ Z2H a b = 0) ∨ (a > b ∧ Z2H a b = 1) := by
 unfold Z2H
 rcases Int.lt_trichotomy a b with h | h | h
 ·exact .inl ⟨h, if_pos h⟩
 ·exact .inr (.inl ⟨h, by rw [if_neg (by omega), if_neg (by omega)]⟩)
 ·exact .inr (.inr ⟨h, by rw [if_neg (by omega), if_pos h]⟩)
theorem Z2P (x y : NmD) : ltOf Z84 x y = decide (Z7t x y) := by
 unfold ltOf
 refine decide_eq_decide.2 ?_
 unfold Z84 Z7t
 rcases Z53 x.cl y.cl with ⟨h2, e2⟩ | ⟨h2, e2⟩ | ⟨h2, e2⟩ <;> rcases Z53 x.sq y.sq with ⟨h3, e3⟩ | ⟨h3, e3⟩ | ⟨h3, e3⟩ <;> rw [e2, e3] <;>
  first | exact iff_of_true (by decide) (by omega) | exact iff_of_false (by decide) (by omega)
theorem Z7V : SWO (ltOf Z84) := by
 refine ⟨fun x => ?_, fun x y z h1 h2 => ?_, fun x y z h1 h2 => ?_⟩
 ·rw [Z2P]; exact decide_eq_false (by unfold Z7t; omega)
 ·rw [Z2P] at *
  have := of_decide_eq_true h1; have := of_decide_eq_true h2
  unfold Z7t at *
  exact decide_eq_true (by omega)
 ·rw [Z2P] at *
  have := of_decide_eq_false h1; have := of_decide_eq_false h2
  unfold Z7t at *
  exact decide_eq_false (by omega)
theorem Z6h (blk off size : Nat) (w : World) : CmpLays Tryz.prog 53 #[] Z0T 2 Z84 blk off size w := fun m os dk _ x y =>
 (Z58 (sortWorldK Z0T 2 w blk off m dk os) x.cl x.sq y.cl y.sq).mono fun _ _ h => ⟨h.1, h.2.2⟩
theorem Z62 {α : Type} [Inhabited α] (enc : α → List Value) (k : Nat) (hk : ∀ x, (enc x).length = k) (k0 : 0 < k) (d : Array α) (cur : Array Value) (h : d.size * k ≤ cur.size) : (putCells id 0 (flatK enc k d) cur).size = cur.size ∧ (putCells id 0 (flatK enc k d) cur).toList.take (d.size * k) = d.toList.flatMap enc := by
 refine ⟨by simp [putCells], ?_⟩
 refine List.ext_getElem? fun t => ?_
 rw [List.getElem?_take]
 split
 ·rename_i ht
  have hj : t / k < d.size := (Nat.div_lt_iff_lt_mul k0).2 ht
  have hm : t % k < k := Nat.mod_lt _ k0
  have e : t = t / k * k + t % k := by rw [Nat.mul_comm]; exact (Nat.div_add_mod t k).symm
  have hr : (d.toList.flatMap enc)[t]? = (enc d[t / k]!)[t % k]? := by
   conv => lhs; rw [e]
   exact Z2S enc k hk d.toList (t / k) (t % k) d[t / k]! (by rw [getElem!_pos d _ hj]; simp [hj]) hm
  rw [hr, Array.getElem?_toList]
  have ht' : t < (flatK enc k d).size := by rw [size_flatK]; exact ht
  have hl : (putCells id 0 (flatK enc k d) cur)[t]? = some (flatK enc k d)[t]! := by
   unfold putCells
   rw [Array.getElem?_mapIdx, Array.getElem?_eq_getElem (by omega)]
   simp only [Option.map_some]
   rw [if_pos ⟨Nat.zero_le _, by omega⟩]; rfl
  rw [hl, get_flatK enc k d t ht, getElem!_pos (enc d[t / k]!) _ (by rw [hk]; exact hm), List.getElem?_eq_getElem (by rw [hk]; exact hm)]
 ·rename_i ht
  rw [List.getElem?_eq_none]
  rw [Z1J enc k hk]; simp; omega
theorem Z7K (w : World) (g c : Nat) (D : List NmD) (hv : (Zd 24 2 (.slice (some ⟨g, 0, none⟩) D.length c) D.length (D.flatMap Z0T)).ok w) (h12 : D.length < 4611686018427387904) :
  Calls Tryz.prog 97 #[.slice (some ⟨g, 0, none⟩) D.length c, .func (.func 53) #[] #[]] w fun e w' => e = .returned (.tuple #[]) ∧ ∃ D' : List NmD, D'.Perm D ∧ (D'.Pairwise fun a b => ¬ Z7t b a) ∧ (Zd 24 2 (.slice (some ⟨g, 0, none⟩) D.length c) D.length (D'.flatMap Z0T)).ok w' ∧ Upd [g] w w' := by
 obtain ⟨A, rfl⟩ : ∃ A : List NmD, A = D := ⟨D, rfl⟩
 have hg : g < w.heap.size := (Zd _ _ _ _ _).lt hv g rfl
 obtain ⟨cur, hb, hnc, hcm, hcs, htk⟩ : ∃ cur, w.heap[g]? = some (.cells cur 24 (0, 0)) ∧ A.length ≤ c ∧ c ≤ maxLen ∧ cur.size = c * 2 ∧ cur.toList.take (A.length * 2) = A.flatMap Z0T := by
  rcases hv.2 with ⟨h, _⟩ | ⟨g', c', cur, h, _, h1, h2, h3, h4, h5⟩
  ·cases h
  ·simp only [Value.slice.injEq, Option.some.injEq, Addr.mk.injEq] at h
   obtain ⟨⟨rfl, _⟩, _, rfl⟩ := h
   exact ⟨cur, h1, h2, h3, h4, h5⟩
 have hH : HoldsK Z0T 2 w g 0 A.toArray := fun j hj => by
  have hj' : j < A.length * 2 := by simpa using hj
  have hq : j / 2 < A.length := (Nat.div_lt_iff_lt_mul (by omega)).2 hj'
  refine ⟨?_, ?_⟩
  ·rw [get_flatK _ _ _ _ (by simpa using hj')]
   have hx : A.toArray[j / 2]! = A[j / 2] := by rw [getElem!_pos A.toArray (j / 2) (by simpa using hq)]; simp
   rw [hx]
   refine Z0X (enc := Z0T) hv rfl Z2q (i := j / 2) (x := A[j / 2]) (List.getElem?_eq_getElem hq) (j % 2) (by have := Nat.mod_lt j (show 0 < 2 by omega); simp [Nat.blt_eq, this]) (by omega) ?_
   have hm : j % 2 < (Z0T A[j / 2]).length := by rw [Z2q]; omega
   rw [List.getElem?_eq_getElem hm, getElem!_pos (Z0T A[j / 2]) _ hm]; rfl
  ·unfold World.frozen?
   rw [hb]; simp
 have h := AnyQ.slices_SortFunc (P := Tryz.prog) sortL 2 Tryz.isAgg24 Tryz.sizeOf24 Z0T Z2q (fun x v hv => List.all_eq_true.1 (Z83 x) v hv) Z84 Z7V 53 #[] g 0 c A.toArray w (enters_of Tryz.func53 (by kernel_rfl) rfl) (Z6h g 0 _ w) hH hg (by simpa using h12)
 rw [show A.toArray.size = A.length from List.size_toArray ..] at h
 refine h.mono fun e w' ⟨he, d', n, os, hp, hs, hw⟩ => ?_
 have hsz : d'.size = A.length := by simpa using hp.1
 have hp2 : d'.toList.Perm A := by
  have := hp.2.2
  have e1 : d'.extract 0 A.length = d' := by rw [← hsz]; exact Array.extract_size
  have e2 : A.toArray.extract 0 A.length = A.toArray := Array.extract_size (xs := A.toArray)
  rw [e1, e2] at this
  exact this
 refine ⟨he, d'.toList, hp2, ?_, ?_, ?_⟩
 ·rw [List.pairwise_iff_getElem]
  intro i j hi hj hij
  have hi' : i < d'.size := by simpa using hi
  have hj' : j < d'.size := by simpa using hj
  have := hs i j (Nat.zero_le _) hij (by omega)
  rw [getElem!_pos d' i hi', getElem!_pos d' j hj'] at this
  rw [Z2P] at this
  have h5 := of_decide_eq_false this
  rwa [Array.getElem_toList, Array.getElem_toList]
 ·obtain ⟨q1, q2⟩ := Z62 Z0T 2 Z2q (by omega) d' cur (by rw [hsz, hcs]; exact Nat.mul_le_mul_right _ hnc)
  refine ⟨by rw [Z1J Z0T 2 Z2q]; simp [hsz], .inr ⟨g, c, putCells id 0 (flatK Z0T 2 d') cur, rfl, Nat.zero_le _, ?_, hnc, hcm, by rw [q1, hcs], by rw [← hsz]; exact q2⟩⟩
  rw [hw]
  unfold sortWorldK putRowK putRow mapBlock grow Sort.ahead
  simp only [Array.getElem?_append, Array.size_modify, hg, if_true, Array.getElem?_modify]
  rw [hb]; rfl
 ·subst hw
  refine ⟨rfl, rfl, rfl, size_sortWorldK_c _ _ _ _ _ _ _ _, fun k hk hne => ?_⟩
  have hne : g ≠ k := fun e => hne (by simp [e])
  unfold sortWorldK putRowK putRow mapBlock grow Sort.ahead
  simp only [Array.getElem?_append, Array.size_modify, hk, if_true, Array.getElem?_modify, if_neg hne]
theorem Z6c (w : World) (a : Option Addr) (c : Nat) (D : List NmD) (hv : (ZI [Zd 24 2 (.slice a D.length c) D.length (D.flatMap Z0T)]).ok w) (h12 : D.length < 4611686018427387904) :
  Calls Tryz.prog 97 #[.slice a D.length c, .func (.func 53) #[] #[]] w fun e w' => ∃ D' : List NmD, e = .returned (.tuple #[]) ∧ D'.Perm D ∧ (D'.Pairwise fun a b => ¬ Z7t b a) ∧ Sat w [Zd 24 2 (.slice a D'.length c) D'.length (D'.flatMap Z0T), Z5 w (ZI [Zd 24 2 (.slice a D.length c) D.length (D.flatMap Z0T)]).fp] w' := by
 have H := Sat.start _ hv
 cases hD : D with
 | nil =>
  subst hD
  refine (Z8c a c (.func (.func 53) #[] #[]) w).mono fun e w' ⟨he, hw⟩ => ?_
  subst hw
  exact ⟨[], he, List.Perm.refl _, List.Pairwise.nil, H⟩
 | cons x D0 =>
  rw [← hD]
  have hv0 := hv.1 _ (List.mem_singleton.2 rfl)
  obtain ⟨g, c', hs⟩ := Z0P hv0 (by rw [hD]; simp)
  simp only [Value.slice.injEq] at hs
  obtain ⟨rfl, _, rfl⟩ := hs
  refine (Z7K w g c D hv0 h12).mono fun e w' ⟨he, D', hp, hs, hok, hu⟩ => ?_
  have hl := hp.length_eq
  refine ⟨D', he, hp, hs, ?_⟩
  rw [hl]
  exact H.setU hu 0 rfl (by rintro b' hb; rw [List.mem_singleton.1 hb]; rfl) hok (fun b hb => .inl hb)
variable {ν : Type} {encV : ν → Value}
theorem Z7O (c b : Nat) (M : List (NmD × ν)) (hlM : M.length ≤ 1000) (w : World) (hm : w.cell? ⟨c, 0, none⟩ = some (.map (some b))) (hM : MapAt w b nmV encV M) :
  Calls Tryz.prog 96 #[.func (.func 98) #[] #[.pointer (some ⟨c, 0, none⟩)]] w fun e w' => ∃ (u : Value) (ss : List NmD), e = .returned u ∧ ss.Perm (M.map (·.1)) ∧ (Zd 24 2 u ss.length (ss.flatMap Z0T)).ok w' ∧ Upd [] w w' ∧ ∀ k, u.ownBlock = some k → w.heap.size ≤ k := by
 have h := Z4p c b M hlM w hm hM
 go_enter Tryz.func96, Tryz.ntmps96
 go_wp2_with (go_at_call 117; refine h.mono ?_; rintro e w' ⟨u, ss, rfl, hp, hok, hu, hfr⟩)
 (try simp only [Exit.inBlock, Exit.then]); refine bodyPost_ret (results_tmp rfl _ _ _) rfl ?_
 exact ⟨u, ss, rfl, hp, hok, hu, hfr⟩
theorem Z8z (c b : Nat) (M : List (NmD × ν)) (hlM : M.length ≤ 1000) (w : World) (hm : w.cell? ⟨c, 0, none⟩ = some (.map (some b))) (hM : MapAt w b nmV encV M) :
  Calls Tryz.prog 60 #[.func (.func 98) #[] #[.pointer (some ⟨c, 0, none⟩)], .func (.func 53) #[] #[]] w fun e w' => ∃ (a : Option Addr) (cp : Nat) (ss : List NmD), e = .returned (.slice a ss.length cp) ∧ ss.Perm (M.map (·.1)) ∧ (ss.Pairwise fun a b => ¬ Z7t b a) ∧ (Zd 24 2 (.slice a ss.length cp) ss.length (ss.flatMap Z0T)).ok w' ∧ Upd [] w w' ∧ ∀ k, (Value.slice a ss.length cp).ownBlock = some k → w.heap.size ≤ k := by
 have h := Z7O c b M hlM w hm hM
 go_enter Tryz.func60, Tryz.ntmps60
 go_wp2_with (first | (go_at_call 96; refine h.mono ?_; rintro e w' ⟨u, ss, rfl, hp, hok, hu, hfr⟩; obtain ⟨a, cp, rfl⟩ := Z9 hok; have H1 : Sat w [Z5 w (fun _ => False), Zd 24 2 (.slice a ss.length cp) ss.length (ss.flatMap Z0T)] w' := (Sat.start0 w).addU hu hok hfr) | (go_at_call 97; refine (Z6c _ a cp ss (H1.fin [1] (by decide) rfl) (by have := hp.length_eq; simp at this; omega)).mono ?_; rintro e w2 ⟨D', rfl, hp2, hs, H2⟩))
 have H3 := Sat.turnL (L' := [Zd 24 2 (.slice a D'.length cp) D'.length (D'.flatMap Z0T)]) (R := [Z5 w (fun _ => False)]) H1 [1] [0] (by decide) rfl rfl H2
 have hl := hp2.length_eq
 rw [← hl]
 (try simp only [Exit.inBlock, Exit.then]); refine bodyPost_ret (results_tmp rfl _ _ _) rfl ?_
 exact ⟨a, cp, D', rfl, hp2.trans hp, hs, H3.at 0 rfl, H3.upd 1 rfl [] (fun _ h => h.elim), fun k hk => H3.freshS 1 rfl (fun _ h => h) [0] rfl rfl k ⟨_, List.mem_singleton.2 rfl, hk⟩⟩
theorem Z7H (w : World) (b : Nat) : Calls Tryz.prog 61 #[.map (some b)] w fun e w' => ∃ bx, e = .returned (.func (.func 98) #[] #[.pointer (some ⟨bx, 0, none⟩)]) ∧ (Z1 bx 119 [.map (some b)]).ok w' ∧ Upd [] w w' ∧ w.heap.size ≤ bx := by
 go_enter Tryz.func61, Tryz.ntmps61
 go_wp2
 (try simp only [Exit.inBlock, Exit.then]); refine bodyPost_ret (results_tmp rfl _ _ _) rfl ?_
 exact ⟨_, rfl, Z0L w _, ⟨rfl, rfl, rfl, by simp, fun k hk _ => Below.heap_alloc w _ k hk⟩, Nat.le_refl _⟩
end Go.Proofs.YtoaifondpohniaaGreat
